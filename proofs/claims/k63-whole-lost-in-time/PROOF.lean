import PyProof.Rows.All
import Wide.All
import OpenK.AllK
import Wide.FinOn
import KE.KStateDown
import Lean
import HandS.ForMost
import HandS.More
import HandS.WordsExc
import HandS.Defaults
import HandS.MakeKwOnly
import HandS.Codes
import HandS.IsInst
import HandS.Head0
import HandS.Head1
import HandS.Head2
import HandS.HeadEnd
import HandS.HeadHook1
import HandS.HeadHook2
import HandS.Conv
import HandS.TupLen
import KE.KDictKeyed
import KE.KDictDisplayH
import KE.DataMinMax
import KE.DataFind
import HandS.SortKw
import KE.DatumMore
import KE.DatumOrd
import HandS.TupAny
import PySem.Challenge.RW_wanehold_k63_whole_lost_in_time
set_option Elab.async false
set_option linter.all false

/-! ## W0 -/
set_option Elab.async false
set_option linter.all false
set_option maxRecDepth 100000
set_option maxHeartbeats 0
namespace Wh
open PySem PySem.Spec PyProof.Rows L2
def top (i : Nat) : Stmt := PySem.Challenge.pw_wanehold_k63_whole_lost_in_time.main.body.getD i (.Pass ⟨0, 0, 0, 0⟩)
abbrev s_is_whole : Stmt := top 17
abbrev s_is_within : Stmt := top 18
abbrev s_is_name : Stmt := top 19
abbrev s_is_sort : Stmt := top 20
abbrev s_is_strength : Stmt := top 21
abbrev s_is_size : Stmt := top 22
abbrev s_is_shift : Stmt := top 23
abbrev s_is_room : Stmt := top 24
abbrev s_is_moment : Stmt := top 25
abbrev s_are_hours : Stmt := top 26
abbrev s_is_step : Stmt := top 27
abbrev s_is_head : Stmt := top 38
abbrev s_is_tail : Stmt := top 39
abbrev s_turned : Stmt := top 42
abbrev s_trace_of : Stmt := top 46
abbrev s_goes : Stmt := top 47
abbrev s_lift_body : Stmt := top 48
abbrev s_lower_body : Stmt := top 49
abbrev s_ask_for : Stmt := top 50
abbrev s_total_of : Stmt := top 51
abbrev s_weakest : Stmt := top 52
abbrev s_crowd : Stmt := top 53
abbrev s_wane_all : Stmt := top 54
abbrev s_watched : Stmt := top 55
abbrev s_one_turn : Stmt := top 56
abbrev s_go_on : Stmt := top 62
abbrev s_pass_scene : Stmt := top 65
abbrev s_are_rooms : Stmt := top 68
abbrev s_are_stirs : Stmt := top 69
abbrev s_need_asked : Stmt := top 74
abbrev s_need_game : Stmt := top 75
abbrev s_moves_of : Stmt := top 76
abbrev s_moved : Stmt := top 77
abbrev s_opened : Stmt := top 78
abbrev s_lost_within_turns : Stmt := top 79
abbrev s_paper_of : Stmt := top 80
abbrev s_keep : Stmt := top 81
abbrev s_law_bag : Stmt := top 83
abbrev s_law_take : Stmt := top 84
abbrev s_law_names : Stmt := top 85
abbrev s_law_steps : Stmt := top 86
abbrev s_law_plan : Stmt := top 87
abbrev s_law_made : Stmt := top 88
abbrev s_law_world : Stmt := top 89
abbrev s_law_store : Stmt := top 90
abbrev s_law_seen : Stmt := top 91
abbrev s_law_phase : Stmt := top 92
abbrev s_law_waned : Stmt := top 93
abbrev s_law_asked : Stmt := top 94
abbrev s_law_crowded : Stmt := top 95
abbrev s_law_moved : Stmt := top 96
abbrev s_law_moves : Stmt := top 97
abbrev s_law_state : Stmt := top 98
abbrev s_law_game : Stmt := top 99
abbrev s_law_lost : Stmt := top 100
abbrev s_law_lossy : Stmt := top 101
abbrev s_law_told : Stmt := top 102
abbrev s_law_stays : Stmt := top 103
abbrev s_law_drawn : Stmt := top 104
abbrev s_law_longest : Stmt := top 105
abbrev s_law : Stmt := top 106
abbrev s_Wane_init : Stmt := inClass (top 40) 0
abbrev s_Wane_cap : Stmt := inClass (top 40) 3
abbrev s_Wane_lift : Stmt := inClass (top 40) 4
abbrev s_Wane_is_anew : Stmt := inClass (top 40) 5
abbrev s_Wane_coming : Stmt := inClass (top 40) 6
abbrev s_Wane_phase_of : Stmt := inClass (top 40) 7
abbrev s_Body_init : Stmt := inClass (top 44) 0
abbrev s_Body_twin : Stmt := inClass (top 44) 1
abbrev s_Scene_init : Stmt := inClass (top 45) 0
abbrev s_Scene_twin : Stmt := inClass (top 45) 1
abbrev s_Scene_state : Stmt := inClass (top 45) 2
abbrev s_Store_init : Stmt := inClass (top 70) 0
abbrev s_Store_body_of : Stmt := inClass (top 70) 1
abbrev s_Store_put : Stmt := inClass (top 70) 2
abbrev s_Store_hire : Stmt := inClass (top 70) 5
abbrev s_Store_dismiss : Stmt := inClass (top 70) 6
abbrev s_Store_pass_on : Stmt := inClass (top 70) 8
abbrev s_Store_now : Stmt := inClass (top 70) 9
abbrev s_Store_there : Stmt := inClass (top 70) 14
abbrev s_Store_thing : Stmt := inClass (top 70) 15
abbrev s_Store_wane_of : Stmt := inClass (top 70) 16
abbrev s_Store_askers : Stmt := inClass (top 70) 19
abbrev s_Store_mender : Stmt := inClass (top 70) 20
abbrev s_Store_state : Stmt := inClass (top 70) 21
abbrev s_Store_copied : Stmt := inClass (top 70) 23
def d_is_whole : He.DefD := ⟨("is_whole", none), "is_whole", "is_whole", defArgs s_is_whole, defBody s_is_whole, defScope s_is_whole, [], []⟩
def d_is_within : He.DefD := ⟨("is_within", none), "is_within", "is_within", defArgs s_is_within, defBody s_is_within, defScope s_is_within, [], []⟩
def d_is_name : He.DefD := ⟨("is_name", none), "is_name", "is_name", defArgs s_is_name, defBody s_is_name, defScope s_is_name, [], []⟩
def d_is_sort : He.DefD := ⟨("is_sort", none), "is_sort", "is_sort", defArgs s_is_sort, defBody s_is_sort, defScope s_is_sort, [], []⟩
def d_is_strength : He.DefD := ⟨("is_strength", none), "is_strength", "is_strength", defArgs s_is_strength, defBody s_is_strength, defScope s_is_strength, [], []⟩
def d_is_size : He.DefD := ⟨("is_size", none), "is_size", "is_size", defArgs s_is_size, defBody s_is_size, defScope s_is_size, [], []⟩
def d_is_shift : He.DefD := ⟨("is_shift", none), "is_shift", "is_shift", defArgs s_is_shift, defBody s_is_shift, defScope s_is_shift, [], []⟩
def d_is_room : He.DefD := ⟨("is_room", none), "is_room", "is_room", defArgs s_is_room, defBody s_is_room, defScope s_is_room, [], []⟩
def d_is_moment : He.DefD := ⟨("is_moment", none), "is_moment", "is_moment", defArgs s_is_moment, defBody s_is_moment, defScope s_is_moment, [], []⟩
def d_are_hours : He.DefD := ⟨("are_hours", none), "are_hours", "are_hours", defArgs s_are_hours, defBody s_are_hours, defScope s_are_hours, [], []⟩
def d_is_step : He.DefD := ⟨("is_step", none), "is_step", "is_step", defArgs s_is_step, defBody s_is_step, defScope s_is_step, [], []⟩
def d_is_head : He.DefD := ⟨("is_head", none), "is_head", "is_head", defArgs s_is_head, defBody s_is_head, defScope s_is_head, [], []⟩
def d_is_tail : He.DefD := ⟨("is_tail", none), "is_tail", "is_tail", defArgs s_is_tail, defBody s_is_tail, defScope s_is_tail, [], []⟩
def d_turned : He.DefD := ⟨("turned", none), "turned", "turned", defArgs s_turned, defBody s_turned, defScope s_turned, [], []⟩
def d_trace_of : He.DefD := ⟨("trace_of", none), "trace_of", "trace_of", defArgs s_trace_of, defBody s_trace_of, defScope s_trace_of, [], []⟩
def d_goes : He.DefD := ⟨("goes", none), "goes", "goes", defArgs s_goes, defBody s_goes, defScope s_goes, [], []⟩
def d_lift_body : He.DefD := ⟨("lift_body", none), "lift_body", "lift_body", defArgs s_lift_body, defBody s_lift_body, defScope s_lift_body, [], []⟩
def d_lower_body : He.DefD := ⟨("lower_body", none), "lower_body", "lower_body", defArgs s_lower_body, defBody s_lower_body, defScope s_lower_body, [], []⟩
def d_ask_for : He.DefD := ⟨("ask_for", none), "ask_for", "ask_for", defArgs s_ask_for, defBody s_ask_for, defScope s_ask_for, [], []⟩
def d_total_of : He.DefD := ⟨("total_of", none), "total_of", "total_of", defArgs s_total_of, defBody s_total_of, defScope s_total_of, [], []⟩
def d_weakest : He.DefD := ⟨("weakest", none), "weakest", "weakest", defArgs s_weakest, defBody s_weakest, defScope s_weakest, [], []⟩
def d_crowd : He.DefD := ⟨("crowd", none), "crowd", "crowd", defArgs s_crowd, defBody s_crowd, defScope s_crowd, [], []⟩
def d_wane_all : He.DefD := ⟨("wane_all", none), "wane_all", "wane_all", defArgs s_wane_all, defBody s_wane_all, defScope s_wane_all, [], []⟩
def d_watched : He.DefD := ⟨("watched", none), "watched", "watched", defArgs s_watched, defBody s_watched, defScope s_watched, [], []⟩
def d_one_turn : He.DefD := ⟨("one_turn", none), "one_turn", "one_turn", defArgs s_one_turn, defBody s_one_turn, defScope s_one_turn, [], []⟩
def d_go_on : He.DefD := ⟨("go_on", none), "go_on", "go_on", defArgs s_go_on, defBody s_go_on, defScope s_go_on, [], []⟩
def d_pass_scene : He.DefD := ⟨("pass_scene", none), "pass_scene", "pass_scene", defArgs s_pass_scene, defBody s_pass_scene, defScope s_pass_scene, [], []⟩
def d_are_rooms : He.DefD := ⟨("are_rooms", none), "are_rooms", "are_rooms", defArgs s_are_rooms, defBody s_are_rooms, defScope s_are_rooms, [], []⟩
def d_are_stirs : He.DefD := ⟨("are_stirs", none), "are_stirs", "are_stirs", defArgs s_are_stirs, defBody s_are_stirs, defScope s_are_stirs, [], []⟩
def d_need_asked : He.DefD := ⟨("need_asked", none), "need_asked", "need_asked", defArgs s_need_asked, defBody s_need_asked, defScope s_need_asked, [], []⟩
def d_need_game : He.DefD := ⟨("need_game", none), "need_game", "need_game", defArgs s_need_game, defBody s_need_game, defScope s_need_game, [], []⟩
def d_moves_of : He.DefD := ⟨("moves_of", none), "moves_of", "moves_of", defArgs s_moves_of, defBody s_moves_of, defScope s_moves_of, [], []⟩
def d_moved : He.DefD := ⟨("moved", none), "moved", "moved", defArgs s_moved, defBody s_moved, defScope s_moved, [], []⟩
def d_opened : He.DefD := ⟨("opened", none), "opened", "opened", defArgs s_opened, defBody s_opened, defScope s_opened, [], []⟩
def d_lost_within_turns : He.DefD := ⟨("lost_within_turns", none), "lost_within_turns", "lost_within_turns", defArgs s_lost_within_turns, defBody s_lost_within_turns, defScope s_lost_within_turns, [], []⟩
def d_paper_of : He.DefD := ⟨("paper_of", none), "paper_of", "paper_of", defArgs s_paper_of, defBody s_paper_of, defScope s_paper_of, [], []⟩
def d_keep : He.DefD := ⟨("keep", none), "keep", "keep", defArgs s_keep, defBody s_keep, defScope s_keep, [], [("most", .int 120)]⟩
def d_law_bag : He.DefD := ⟨("_law_bag", none), "_law_bag", "_law_bag", defArgs s_law_bag, defBody s_law_bag, defScope s_law_bag, [], []⟩
def d_law_take : He.DefD := ⟨("_law_take", none), "_law_take", "_law_take", defArgs s_law_take, defBody s_law_take, defScope s_law_take, [], []⟩
def d_law_names : He.DefD := ⟨("_law_names", none), "_law_names", "_law_names", defArgs s_law_names, defBody s_law_names, defScope s_law_names, [], []⟩
def d_law_steps : He.DefD := ⟨("_law_steps", none), "_law_steps", "_law_steps", defArgs s_law_steps, defBody s_law_steps, defScope s_law_steps, [], []⟩
def d_law_plan : He.DefD := ⟨("_law_plan", none), "_law_plan", "_law_plan", defArgs s_law_plan, defBody s_law_plan, defScope s_law_plan, [], []⟩
def d_law_made : He.DefD := ⟨("_law_made", none), "_law_made", "_law_made", defArgs s_law_made, defBody s_law_made, defScope s_law_made, [], []⟩
def d_law_world : He.DefD := ⟨("_law_world", none), "_law_world", "_law_world", defArgs s_law_world, defBody s_law_world, defScope s_law_world, [], []⟩
def d_law_store : He.DefD := ⟨("_law_store", none), "_law_store", "_law_store", defArgs s_law_store, defBody s_law_store, defScope s_law_store, [], []⟩
def d_law_seen : He.DefD := ⟨("_law_seen", none), "_law_seen", "_law_seen", defArgs s_law_seen, defBody s_law_seen, defScope s_law_seen, [], []⟩
def d_law_phase : He.DefD := ⟨("_law_phase", none), "_law_phase", "_law_phase", defArgs s_law_phase, defBody s_law_phase, defScope s_law_phase, [], []⟩
def d_law_waned : He.DefD := ⟨("_law_waned", none), "_law_waned", "_law_waned", defArgs s_law_waned, defBody s_law_waned, defScope s_law_waned, [], []⟩
def d_law_asked : He.DefD := ⟨("_law_asked", none), "_law_asked", "_law_asked", defArgs s_law_asked, defBody s_law_asked, defScope s_law_asked, [], []⟩
def d_law_crowded : He.DefD := ⟨("_law_crowded", none), "_law_crowded", "_law_crowded", defArgs s_law_crowded, defBody s_law_crowded, defScope s_law_crowded, [], []⟩
def d_law_moved : He.DefD := ⟨("_law_moved", none), "_law_moved", "_law_moved", defArgs s_law_moved, defBody s_law_moved, defScope s_law_moved, [], []⟩
def d_law_moves : He.DefD := ⟨("_law_moves", none), "_law_moves", "_law_moves", defArgs s_law_moves, defBody s_law_moves, defScope s_law_moves, [], []⟩
def d_law_state : He.DefD := ⟨("_law_state", none), "_law_state", "_law_state", defArgs s_law_state, defBody s_law_state, defScope s_law_state, [], []⟩
def d_law_game : He.DefD := ⟨("_law_game", none), "_law_game", "_law_game", defArgs s_law_game, defBody s_law_game, defScope s_law_game, [], []⟩
def d_law_lost : He.DefD := ⟨("_law_lost", none), "_law_lost", "_law_lost", defArgs s_law_lost, defBody s_law_lost, defScope s_law_lost, [], []⟩
def d_law_lossy : He.DefD := ⟨("_law_lossy", none), "_law_lossy", "_law_lossy", defArgs s_law_lossy, defBody s_law_lossy, defScope s_law_lossy, [], []⟩
def d_law_told : He.DefD := ⟨("_law_told", none), "_law_told", "_law_told", defArgs s_law_told, defBody s_law_told, defScope s_law_told, [], []⟩
def d_law_stays : He.DefD := ⟨("_law_stays", none), "_law_stays", "_law_stays", defArgs s_law_stays, defBody s_law_stays, defScope s_law_stays, [], []⟩
def d_law_drawn : He.DefD := ⟨("_law_drawn", none), "_law_drawn", "_law_drawn", defArgs s_law_drawn, defBody s_law_drawn, defScope s_law_drawn, [], []⟩
def d_law_longest : He.DefD := ⟨("_law_longest", none), "_law_longest", "_law_longest", defArgs s_law_longest, defBody s_law_longest, defScope s_law_longest, [], []⟩
def d_law : He.DefD := ⟨("law", none), "law", "law", defArgs s_law, defBody s_law, defScope s_law, [], []⟩
def d_Wane_init : He.DefD := ⟨("Wane", some "__init__"), "__init__", "Wane.__init__", defArgs s_Wane_init, defBody s_Wane_init, defScope s_Wane_init, [], [("anew", .bl true)]⟩
def d_Wane_cap : He.DefD := ⟨("Wane", some "cap"), "cap", "Wane.cap", defArgs s_Wane_cap, defBody s_Wane_cap, defScope s_Wane_cap, [], []⟩
def d_Wane_lift : He.DefD := ⟨("Wane", some "lift"), "lift", "Wane.lift", defArgs s_Wane_lift, defBody s_Wane_lift, defScope s_Wane_lift, [], []⟩
def d_Wane_is_anew : He.DefD := ⟨("Wane", some "is_anew"), "is_anew", "Wane.is_anew", defArgs s_Wane_is_anew, defBody s_Wane_is_anew, defScope s_Wane_is_anew, [], []⟩
def d_Wane_coming : He.DefD := ⟨("Wane", some "coming"), "coming", "Wane.coming", defArgs s_Wane_coming, defBody s_Wane_coming, defScope s_Wane_coming, [], []⟩
def d_Wane_phase_of : He.DefD := ⟨("Wane", some "phase_of"), "phase_of", "Wane.phase_of", defArgs s_Wane_phase_of, defBody s_Wane_phase_of, defScope s_Wane_phase_of, [], []⟩
def d_Body_init : He.DefD := ⟨("Body", some "__init__"), "__init__", "Body.__init__", defArgs s_Body_init, defBody s_Body_init, defScope s_Body_init, [], []⟩
def d_Body_twin : He.DefD := ⟨("Body", some "twin"), "twin", "Body.twin", defArgs s_Body_twin, defBody s_Body_twin, defScope s_Body_twin, [], []⟩
def d_Scene_init : He.DefD := ⟨("Scene", some "__init__"), "__init__", "Scene.__init__", defArgs s_Scene_init, defBody s_Scene_init, defScope s_Scene_init, [], []⟩
def d_Scene_twin : He.DefD := ⟨("Scene", some "twin"), "twin", "Scene.twin", defArgs s_Scene_twin, defBody s_Scene_twin, defScope s_Scene_twin, [], []⟩
def d_Scene_state : He.DefD := ⟨("Scene", some "state"), "state", "Scene.state", defArgs s_Scene_state, defBody s_Scene_state, defScope s_Scene_state, [], []⟩
def d_Store_init : He.DefD := ⟨("Store", some "__init__"), "__init__", "Store.__init__", defArgs s_Store_init, defBody s_Store_init, defScope s_Store_init, [], [("stirs", .non), ("grain", .int 0), ("fade", .int 1)]⟩
def d_Store_body_of : He.DefD := ⟨("Store", some "body_of"), "body_of", "Store.body_of", defArgs s_Store_body_of, defBody s_Store_body_of, defScope s_Store_body_of, [], []⟩
def d_Store_put : He.DefD := ⟨("Store", some "put"), "put", "Store.put", defArgs s_Store_put, defBody s_Store_put, defScope s_Store_put, [], []⟩
def d_Store_hire : He.DefD := ⟨("Store", some "hire"), "hire", "Store.hire", defArgs s_Store_hire, defBody s_Store_hire, defScope s_Store_hire, [], []⟩
def d_Store_dismiss : He.DefD := ⟨("Store", some "dismiss"), "dismiss", "Store.dismiss", defArgs s_Store_dismiss, defBody s_Store_dismiss, defScope s_Store_dismiss, [], []⟩
def d_Store_pass_on : He.DefD := ⟨("Store", some "pass_on"), "pass_on", "Store.pass_on", defArgs s_Store_pass_on, defBody s_Store_pass_on, defScope s_Store_pass_on, [], []⟩
def d_Store_now : He.DefD := ⟨("Store", some "now"), "now", "Store.now", defArgs s_Store_now, defBody s_Store_now, defScope s_Store_now, [], []⟩
def d_Store_there : He.DefD := ⟨("Store", some "there"), "there", "Store.there", defArgs s_Store_there, defBody s_Store_there, defScope s_Store_there, [], []⟩
def d_Store_thing : He.DefD := ⟨("Store", some "thing"), "thing", "Store.thing", defArgs s_Store_thing, defBody s_Store_thing, defScope s_Store_thing, [], []⟩
def d_Store_wane_of : He.DefD := ⟨("Store", some "wane_of"), "wane_of", "Store.wane_of", defArgs s_Store_wane_of, defBody s_Store_wane_of, defScope s_Store_wane_of, [], []⟩
def d_Store_askers : He.DefD := ⟨("Store", some "askers"), "askers", "Store.askers", defArgs s_Store_askers, defBody s_Store_askers, defScope s_Store_askers, [], []⟩
def d_Store_mender : He.DefD := ⟨("Store", some "mender"), "mender", "Store.mender", defArgs s_Store_mender, defBody s_Store_mender, defScope s_Store_mender, [], []⟩
def d_Store_state : He.DefD := ⟨("Store", some "state"), "state", "Store.state", defArgs s_Store_state, defBody s_Store_state, defScope s_Store_state, [], []⟩
def d_Store_copied : He.DefD := ⟨("Store", some "copied"), "copied", "Store.copied", defArgs s_Store_copied, defBody s_Store_copied, defScope s_Store_copied, [], []⟩
def fn : List He.DefD := [d_is_whole, d_is_within, d_is_name, d_is_sort, d_is_strength, d_is_size, d_is_shift, d_is_room, d_is_moment, d_are_hours, d_is_step, d_is_head, d_is_tail, d_turned, d_trace_of, d_goes, d_lift_body, d_lower_body, d_ask_for, d_total_of, d_weakest, d_crowd, d_wane_all, d_watched, d_one_turn, d_go_on, d_pass_scene, d_are_rooms, d_are_stirs, d_need_asked, d_need_game, d_moves_of, d_moved, d_opened, d_lost_within_turns, d_paper_of, d_keep, d_law_bag, d_law_take, d_law_names, d_law_steps, d_law_plan, d_law_made, d_law_world, d_law_store, d_law_seen, d_law_phase, d_law_waned, d_law_asked, d_law_crowded, d_law_moved, d_law_moves, d_law_state, d_law_game, d_law_lost, d_law_lossy, d_law_told, d_law_stays, d_law_drawn, d_law_longest, d_law, d_Wane_init, d_Wane_cap, d_Wane_lift, d_Wane_is_anew, d_Wane_coming, d_Wane_phase_of, d_Body_init, d_Body_twin, d_Scene_init, d_Scene_twin, d_Scene_state, d_Store_init, d_Store_body_of, d_Store_put, d_Store_hire, d_Store_dismiss, d_Store_pass_on, d_Store_now, d_Store_there, d_Store_thing, d_Store_wane_of, d_Store_askers, d_Store_mender, d_Store_state, d_Store_copied]
def fa : List He.Fa := [.glo "is_whole", .glo "is_within", .glo "is_name", .glo "is_sort", .glo "is_strength", .glo "is_size", .glo "is_shift", .glo "is_room", .glo "is_moment", .glo "are_hours", .glo "is_step", .glo "is_head", .glo "is_tail", .glo "turned", .glo "trace_of", .glo "goes", .glo "lift_body", .glo "lower_body", .glo "ask_for", .glo "total_of", .glo "weakest", .glo "crowd", .glo "wane_all", .glo "watched", .glo "one_turn", .glo "go_on", .glo "pass_scene", .glo "are_rooms", .glo "are_stirs", .glo "need_asked", .glo "need_game", .glo "moves_of", .glo "moved", .glo "opened", .glo "lost_within_turns", .glo "paper_of", .glo "keep", .glo "_law_bag", .glo "_law_take", .glo "_law_names", .glo "_law_steps", .glo "_law_plan", .glo "_law_made", .glo "_law_world", .glo "_law_store", .glo "_law_seen", .glo "_law_phase", .glo "_law_waned", .glo "_law_asked", .glo "_law_crowded", .glo "_law_moved", .glo "_law_moves", .glo "_law_state", .glo "_law_game", .glo "_law_lost", .glo "_law_lossy", .glo "_law_told", .glo "_law_stays", .glo "_law_drawn", .glo "_law_longest", .glo "law", .glo "Wane", .glo "Body", .glo "Scene", .glo "Store", .free "len", .free "sorted", .free "sum", .free "min", .free "max", .free "all", .free "list", .free "tuple", .free "range", .free "enumerate", .free "isinstance", .free "int", .free "bool", .free "str", .free "abs", .int "MOST_STRENGTH" 1000000000, .int "MOST_ROOM" 1000000000000, .int "MOST_MOMENT" 1000000000000000000000000000000, .int "LONGEST_NAME" 8, .int "DAY" 24, .int "LONGEST_HEAD" 24, .int "MOST" 8, .int "MOST_STATES" 400, .str "LETTERS" "abcdefghijklmnopqrstuvwxyz", .glo "TAILS", .glo "HOURS", .cls "Wane", .mkr "Wane", .noat "Wane" "head_steps", .noat "Wane" "tail_steps", .noat "Wane" "cap_at", .noat "Wane" "lift_by", .noat "Wane" "begins", .meth "Wane" "cap", .meth "Wane" "lift", .meth "Wane" "is_anew", .meth "Wane" "coming", .meth "Wane" "phase_of", .cls "Body", .mkr "Body", .noat "Body" "name", .noat "Body" "kin", .noat "Body" "wane", .noat "Body" "force", .noat "Body" "since", .noat "Body" "asked", .noat "Body" "spot", .meth "Body" "twin", .cls "Scene", .mkr "Scene", .noat "Scene" "moment", .noat "Scene" "holds", .noat "Scene" "presses", .noat "Scene" "grains", .noat "Scene" "fades", .noat "Scene" "bodies", .noat "Scene" "marks", .noat "Scene" "doers", .noat "Scene" "hired", .noat "Scene" "watch", .noat "Scene" "tale", .meth "Scene" "twin", .meth "Scene" "state", .cls "Store", .mkr "Store", .noat "Store" "scene", .meth "Store" "body_of", .meth "Store" "put", .meth "Store" "hire", .meth "Store" "dismiss", .meth "Store" "pass_on", .meth "Store" "now", .meth "Store" "there", .meth "Store" "thing", .meth "Store" "wane_of", .meth "Store" "askers", .meth "Store" "mender", .meth "Store" "state", .meth "Store" "copied"]

/-! ### the addresses that K is made of -/
def frNat {α : Type} (n : Nat) (k : Nat → α) : α := match n with
  | 0 => k 0
  | m + 1 => k (m + 1)
theorem frNat_eq {α : Type} (n : Nat) (k : Nat → α) : frNat n k = k n := by cases n <;> rfl
def frAs {α : Type} : List Addr → (List Addr → α) → α
  | [], k => k []
  | a :: r, k => frNat a fun a => frAs r fun r => k (a :: r)
theorem frAs_eq {α : Type} : ∀ (l : List Addr) (k : List Addr → α), frAs l k = k l
  | [], _ => rfl
  | a :: r, k => by
    show frNat a (fun a => frAs r fun r => k (a :: r)) = _
    rw [frNat_eq, frAs_eq]
def frK {α : Type} (g : Addr → Option Obj) : List Addr → (PySem.W.Frag → α) → α
  | [], k => k []
  | a :: r, k => match g a with
    | some ⟨c, d, dt, sl⟩ => frK g r fun K => k ((a, ⟨c, d, dt, sl⟩) :: K)
    | none => frK g r k
theorem frK_eq {α : Type} {g : Addr → Option Obj} : ∀ (l : List Addr) (k : PySem.W.Frag → α), frK g l k = k (He.frG g l)
  | [], _ => rfl
  | a :: r, k => by
    unfold frK He.frG
    rw [List.filterMap_cons]
    cases e : g a with
    | none => exact frK_eq r k
    | some o => exact frK_eq r _
def gaG (g : Addr → Option Obj) (x : Str) : Addr := He.ga (He.frG g [mainGlobals]) x
def kwV : Value → List Addr
  | .ref a => [a]
  | _ => []
def fnAs (g : Addr → Option Obj) (a : Addr) : List Addr := match g a with
  | some ⟨_, _, .func fd, _⟩ => a :: (kwV fd.code ++ kwV fd.kwdefaults)
  | _ => []
def nsRef (g : Addr → Option Obj) (n : Addr) (m : Str) : Addr := match PySem.W.nsIn (He.frG g [n]) n m with
  | some (some (.ref a)) => a
  | _ => 0
def clAs (g : Addr → Option Obj) (C : Addr) (ms : List Str) : List Addr := match g C with
  | some ⟨_, _, .cls cd, _⟩ => C :: cd.ns :: ms.flatMap fun m => fnAs g (nsRef g cd.ns m)
  | _ => []
def asW (g : Addr → Option Obj) (gl : List Str) (cl : List (Str × List Str)) (tp : List Str) : List Addr :=
  mainGlobals :: (tp.map (gaG g) ++ (cl.flatMap (fun c => clAs g (gaG g c.1) c.2) ++ gl.flatMap fun x => fnAs g (gaG g x)))
abbrev AlW : Type := He.AlD × Bool
def obsW (fa : List He.Fa) (fn : List He.DefD) (ex : PySem.W.Frag → Bool) (K : PySem.W.Frag) : AlW := (He.obsD fa fn K, ex K)
def obsWG (fa : List He.Fa) (fn : List He.DefD) (ex : PySem.W.Frag → Bool) (gl : List Str) (cl : List (Str × List Str)) (tp : List Str) (g : Addr → Option Obj) : AlW := frAs (asW g gl cl tp) fun as => frK g as fun K => obsW fa fn ex K
theorem obsWG_eq {fa : List He.Fa} {fn : List He.DefD} {ex : PySem.W.Frag → Bool} {gl : List Str} {cl : List (Str × List Str)} {tp : List Str} {g : Addr → Option Obj} : obsWG fa fn ex gl cl tp g = obsW fa fn ex (He.frG g (asW g gl cl tp)) := by
  unfold obsWG
  rw [frAs_eq, frK_eq]
def hookW (fa : List He.Fa) (fn : List He.DefD) (ex : PySem.W.Frag → Bool) (gl : List Str) (cl : List (Str × List Str)) (tp : List Str) : PySem.W.Hook where
  α := AlW
  obs := fun s => obsWG fa fn ex gl cl tp s.heap.get?
  val := fun _ => (He.valD fn, true)
  says := fun _ h => ∃ K : PySem.W.Frag, K.In h ∧ He.SaysD fa fn K ∧ ex K = true
  of := fun _ _ e => by
    rw [obsWG_eq] at e
    exact ⟨_, He.frG_in, congrArg (fun z : AlW => z.1) e, congrArg (fun z : AlW => z.2) e⟩
  keeps := fun _ _ _ ⟨K, hK, c⟩ k => ⟨K, PySem.W.Frag.In.keeps hK k, c⟩
def insB (K : PySem.W.Frag) (x : Str) : Bool := He.eqO (PySem.W.findIn K (.ref (He.ga K x)) "__class__") (some (some (.builtin "object.__class__"))) &&
  (He.eqO (PySem.W.specialIn K (.builtin "object.__class__") "__get__") (some (some (.builtin "getset_descriptor.__get__"))) && (decide (PySem.W.takesIn K (.builtin "object.__class__") = some true) &&
  (decide (PySem.W.mroIn K (He.ga K x) (.type "object") = some true) && decide (PySem.W.kitOne K (.ref (He.ga K x)) (.ref (He.ga K x)) = some true))))
def gls0 : List Str := ["is_whole", "is_within", "is_name", "is_sort", "is_strength", "is_size", "is_shift", "is_room", "is_moment", "are_hours", "is_step", "is_head", "is_tail", "turned", "trace_of", "goes", "lift_body", "lower_body", "ask_for", "total_of"]
def gls1 : List Str := ["weakest", "crowd", "wane_all", "watched", "one_turn", "go_on", "pass_scene", "are_rooms", "are_stirs", "need_asked", "need_game", "moves_of", "moved", "opened", "lost_within_turns", "paper_of", "keep", "_law_bag", "_law_take", "_law_names"]
def gls2 : List Str := ["_law_steps", "_law_plan", "_law_made", "_law_world", "_law_store", "_law_seen", "_law_phase", "_law_waned", "_law_asked", "_law_crowded", "_law_moved", "_law_moves", "_law_state", "_law_game", "_law_lost", "_law_lossy", "_law_told", "_law_stays", "_law_drawn", "_law_longest"]
def gls3 : List Str := ["law"]
def gls : List Str := gls0 ++ gls1 ++ gls2 ++ gls3
def cls : List (Str × List Str) := [("Wane", ["__init__", "cap", "lift", "is_anew", "coming", "phase_of"]), ("Body", ["__init__", "twin"]), ("Scene", ["__init__", "twin", "state"]), ("Store", ["__init__", "body_of", "put", "hire", "dismiss", "pass_on", "now", "there", "thing", "wane_of", "askers", "mender", "state", "copied"])]
def tps : List Str := ["TAILS", "HOURS"]
def exB (K : PySem.W.Frag) : Bool := He.tupB K "TAILS" [.int 1, .int 2, .int 3, .int 4, .int 6, .int 8, .int 12, .int 24] && He.tupB K "HOURS" [.int 0, .int 1, .int 2, .int 3, .int 4, .int 5, .int 6, .int 7, .int 8, .int 9, .int 10, .int 11, .int 12, .int 13, .int 14, .int 15, .int 16, .int 17, .int 18, .int 19, .int 20, .int 21, .int 22, .int 23] && insB K "Wane" && insB K "Store" && decide (PySem.W.kitOne K (.type "int") (.type "int") = some true) && decide (PySem.W.kitOne K (.type "int") (.type "bool") = some false) && decide (PySem.W.kitOne K (.type "str") (.type "str") = some true) && decide (PySem.W.kitOne K (.type "list") (.type "list") = some true) && decide (PySem.W.kitOne K (.type "tuple") (.type "tuple") = some true) && decide (PySem.W.kitOne K (.type "bool") (.type "bool") = some true)
end Wh

/-! ## W1 -/
set_option Elab.async false
set_option linter.all false
set_option maxRecDepth 100000
set_option maxHeartbeats 0
namespace Wh
open PySem PySem.Spec PyProof.Rows L2
def nm0 : List PySem.Str := ["_wall", "WaneError", "Wrong", "TooMany", "There", "Gone", "NoAsker", "TooFar", "Busy", "LETTERS", "MOST_STRENGTH", "MOST_ROOM", "MOST_MOMENT", "LONGEST_NAME", "DAY", "is_whole", "is_within", "is_name", "is_sort", "is_strength", "is_size", "is_shift", "is_room", "is_moment", "are_hours"]
def nm1 : List PySem.Str := ["is_step", "leads_to", "first_round", "askings", "lowered", "round_behind", "least_round", "LONGEST_HEAD", "TAILS", "is_head", "is_tail", "Wane", "turned", "Body", "Scene", "trace_of", "goes", "lift_body", "lower_body", "ask_for", "total_of", "weakest", "crowd", "wane_all", "watched"]
def nm2 : List PySem.Str := ["one_turn", "LONG", "phases", "room_to_go", "walk_day", "go_on", "go_rounds", "go_watched", "pass_scene", "MOST", "are_rooms", "are_stirs", "Store", "HOURS", "MOST_STATES", "need_asked", "need_game", "moves_of", "moved", "opened", "lost_within_turns", "paper_of", "keep", "_law_bag", "_law_take"]
def nm3 : List PySem.Str := ["_law_names", "_law_steps", "_law_plan", "_law_made", "_law_world", "_law_store", "_law_seen", "_law_phase", "_law_waned", "_law_asked", "_law_crowded", "_law_moved", "_law_moves", "_law_state", "_law_game", "_law_lost", "_law_lossy", "_law_told", "_law_stays", "_law_drawn", "_law_longest"]
def names : List PySem.Str := nm0 ++ nm1 ++ nm2 ++ nm3
abbrev R : PySem.W.OpenRow := PySem.W.OpenLaw.row PySem.Challenge.rw_wanehold_k63_whole_lost_in_time
abbrev hk : PySem.W.Hook := hookW fa fn exB gls cls tps
def ob (s : PySem.W.SharedT) : AlW := obsWG fa fn exB gls cls tps (HandSHeadRun.getT s)
theorem ob_eq (s : PySem.W.SharedT) : ob s = hk.obs s.abs := by
  have e : HandSHeadRun.getT s = s.abs.heap.get? := funext (HandSHeadRun.getT_eq s)
  show obsWG fa fn exB gls cls tps (HandSHeadRun.getT s) = obsWG fa fn exB gls cls tps s.abs.heap.get?
  rw [e]
theorem run (w : World) : HandSHeadRun.RunEq R (PySem.W.view R.prog [106]) hk ob 20000 names w := by
  intro os
  kernel_rfl
end Wh

/-! ## W2 -/
set_option Elab.async false
set_option linter.all false
set_option maxRecDepth 100000
set_option maxHeartbeats 0
namespace Wh
open PySem PySem.Spec PyProof.Rows L2
/-- what the top has left: the facts of K, its names -/
structure Tx (K : PySem.W.Frag) (mg : Str → Option Value) : Prop where
  h : ∃ h : Heap, K.In h ∧ h.Ns mainGlobals mg
  c : He.SaysD fa fn K
  ex : exB K = true
instance : Inhabited FuncData := ⟨PySem.W.fnOf "" "" { posonlyargs := [], args := [], vararg := none, kwonlyargs := [], kw_defaults := [], kwarg := none, defaults := [] } [] { kind := .function, names := [], isGenerator := false, isCoroutine := false } .none .none .none .none none .none .none⟩
def fdA (K : PySem.W.Frag) (a : Addr) : FuncData := match K.lookup a with
  | some ⟨_, _, .func fd, _⟩ => fd
  | _ => default
theorem fdA_eq {K : PySem.W.Frag} {x qual : Str} {params : Arguments} {body : List Stmt} {scope : Scope} {dvs : List V} {kws : List (Str × V)} {f : Addr} {fd : FuncData} (F : FunD K x qual params body scope dvs kws f fd) : fd = fdA K f := by
  obtain ⟨oc, od, dV, kV, doc, pm, an, cdv, ct, osl, _, lk, _⟩ := F.ex
  unfold fdA
  rw [lk]
section
variable {K : PySem.W.Frag} {mg : Str → Option Value} (T : Tx K mg)
include T
theorem Tx.glo {x : Str} (i : Nat) (e : fa[i]? = some (.glo x)) : mg x = some (.ref (He.ga K x)) := by
  obtain ⟨h, X, G⟩ := T.h
  exact He.glo_ok X G (T.c.fact i e)
theorem Tx.free {x : Str} (i : Nat) (e : fa[i]? = some (.free x)) : mg x = none := by
  obtain ⟨h, X, G⟩ := T.h
  exact He.free_ok X G (T.c.fact i e)
theorem Tx.int {x : Str} {n : Int} (i : Nat) (e : fa[i]? = some (.int x n)) : ∃ t, mg x = some (.int n t) := by
  obtain ⟨h, X, G⟩ := T.h
  exact He.int_ok X G (T.c.fact i e)
theorem Tx.str {x z : Str} (i : Nat) (e : fa[i]? = some (.str x z)) : ∃ t, mg x = some (.str z t) := by
  obtain ⟨h, X, G⟩ := T.h
  exact He.str_ok X G (T.c.fact i e)
theorem Tx.defD {d : He.DefD} (i : Nat) (e : fn[i]? = some d) : FunD K d.name d.qual d.params d.body d.scope (d.dvs K) (d.kws K) (He.fAd K d.at_) (fdA K (He.fAd K d.at_)) := by
  obtain ⟨fd, F⟩ := T.c.def_ i e
  have q := fdA_eq F
  subst q
  exact F
theorem g_is_whole : mg "is_whole" = some (.ref (He.ga K "is_whole")) := T.glo 0 rfl
theorem g_is_within : mg "is_within" = some (.ref (He.ga K "is_within")) := T.glo 1 rfl
theorem g_is_name : mg "is_name" = some (.ref (He.ga K "is_name")) := T.glo 2 rfl
theorem g_is_sort : mg "is_sort" = some (.ref (He.ga K "is_sort")) := T.glo 3 rfl
theorem g_is_strength : mg "is_strength" = some (.ref (He.ga K "is_strength")) := T.glo 4 rfl
theorem g_is_size : mg "is_size" = some (.ref (He.ga K "is_size")) := T.glo 5 rfl
theorem g_is_shift : mg "is_shift" = some (.ref (He.ga K "is_shift")) := T.glo 6 rfl
theorem g_is_room : mg "is_room" = some (.ref (He.ga K "is_room")) := T.glo 7 rfl
theorem g_is_moment : mg "is_moment" = some (.ref (He.ga K "is_moment")) := T.glo 8 rfl
theorem g_are_hours : mg "are_hours" = some (.ref (He.ga K "are_hours")) := T.glo 9 rfl
theorem g_is_step : mg "is_step" = some (.ref (He.ga K "is_step")) := T.glo 10 rfl
theorem g_is_head : mg "is_head" = some (.ref (He.ga K "is_head")) := T.glo 11 rfl
theorem g_is_tail : mg "is_tail" = some (.ref (He.ga K "is_tail")) := T.glo 12 rfl
theorem g_turned : mg "turned" = some (.ref (He.ga K "turned")) := T.glo 13 rfl
theorem g_trace_of : mg "trace_of" = some (.ref (He.ga K "trace_of")) := T.glo 14 rfl
theorem g_goes : mg "goes" = some (.ref (He.ga K "goes")) := T.glo 15 rfl
theorem g_lift_body : mg "lift_body" = some (.ref (He.ga K "lift_body")) := T.glo 16 rfl
theorem g_lower_body : mg "lower_body" = some (.ref (He.ga K "lower_body")) := T.glo 17 rfl
theorem g_ask_for : mg "ask_for" = some (.ref (He.ga K "ask_for")) := T.glo 18 rfl
theorem g_total_of : mg "total_of" = some (.ref (He.ga K "total_of")) := T.glo 19 rfl
theorem g_weakest : mg "weakest" = some (.ref (He.ga K "weakest")) := T.glo 20 rfl
theorem g_crowd : mg "crowd" = some (.ref (He.ga K "crowd")) := T.glo 21 rfl
theorem g_wane_all : mg "wane_all" = some (.ref (He.ga K "wane_all")) := T.glo 22 rfl
theorem g_watched : mg "watched" = some (.ref (He.ga K "watched")) := T.glo 23 rfl
theorem g_one_turn : mg "one_turn" = some (.ref (He.ga K "one_turn")) := T.glo 24 rfl
theorem g_go_on : mg "go_on" = some (.ref (He.ga K "go_on")) := T.glo 25 rfl
theorem g_pass_scene : mg "pass_scene" = some (.ref (He.ga K "pass_scene")) := T.glo 26 rfl
theorem g_are_rooms : mg "are_rooms" = some (.ref (He.ga K "are_rooms")) := T.glo 27 rfl
theorem g_are_stirs : mg "are_stirs" = some (.ref (He.ga K "are_stirs")) := T.glo 28 rfl
theorem g_need_asked : mg "need_asked" = some (.ref (He.ga K "need_asked")) := T.glo 29 rfl
theorem g_need_game : mg "need_game" = some (.ref (He.ga K "need_game")) := T.glo 30 rfl
theorem g_moves_of : mg "moves_of" = some (.ref (He.ga K "moves_of")) := T.glo 31 rfl
theorem g_moved : mg "moved" = some (.ref (He.ga K "moved")) := T.glo 32 rfl
theorem g_opened : mg "opened" = some (.ref (He.ga K "opened")) := T.glo 33 rfl
theorem g_lost_within_turns : mg "lost_within_turns" = some (.ref (He.ga K "lost_within_turns")) := T.glo 34 rfl
theorem g_paper_of : mg "paper_of" = some (.ref (He.ga K "paper_of")) := T.glo 35 rfl
theorem g_keep : mg "keep" = some (.ref (He.ga K "keep")) := T.glo 36 rfl
theorem g_law_bag : mg "_law_bag" = some (.ref (He.ga K "_law_bag")) := T.glo 37 rfl
theorem g_law_take : mg "_law_take" = some (.ref (He.ga K "_law_take")) := T.glo 38 rfl
theorem g_law_names : mg "_law_names" = some (.ref (He.ga K "_law_names")) := T.glo 39 rfl
theorem g_law_steps : mg "_law_steps" = some (.ref (He.ga K "_law_steps")) := T.glo 40 rfl
theorem g_law_plan : mg "_law_plan" = some (.ref (He.ga K "_law_plan")) := T.glo 41 rfl
theorem g_law_made : mg "_law_made" = some (.ref (He.ga K "_law_made")) := T.glo 42 rfl
theorem g_law_world : mg "_law_world" = some (.ref (He.ga K "_law_world")) := T.glo 43 rfl
theorem g_law_store : mg "_law_store" = some (.ref (He.ga K "_law_store")) := T.glo 44 rfl
theorem g_law_seen : mg "_law_seen" = some (.ref (He.ga K "_law_seen")) := T.glo 45 rfl
theorem g_law_phase : mg "_law_phase" = some (.ref (He.ga K "_law_phase")) := T.glo 46 rfl
theorem g_law_waned : mg "_law_waned" = some (.ref (He.ga K "_law_waned")) := T.glo 47 rfl
theorem g_law_asked : mg "_law_asked" = some (.ref (He.ga K "_law_asked")) := T.glo 48 rfl
theorem g_law_crowded : mg "_law_crowded" = some (.ref (He.ga K "_law_crowded")) := T.glo 49 rfl
theorem g_law_moved : mg "_law_moved" = some (.ref (He.ga K "_law_moved")) := T.glo 50 rfl
theorem g_law_moves : mg "_law_moves" = some (.ref (He.ga K "_law_moves")) := T.glo 51 rfl
theorem g_law_state : mg "_law_state" = some (.ref (He.ga K "_law_state")) := T.glo 52 rfl
theorem g_law_game : mg "_law_game" = some (.ref (He.ga K "_law_game")) := T.glo 53 rfl
theorem g_law_lost : mg "_law_lost" = some (.ref (He.ga K "_law_lost")) := T.glo 54 rfl
theorem g_law_lossy : mg "_law_lossy" = some (.ref (He.ga K "_law_lossy")) := T.glo 55 rfl
theorem g_law_told : mg "_law_told" = some (.ref (He.ga K "_law_told")) := T.glo 56 rfl
theorem g_law_stays : mg "_law_stays" = some (.ref (He.ga K "_law_stays")) := T.glo 57 rfl
theorem g_law_drawn : mg "_law_drawn" = some (.ref (He.ga K "_law_drawn")) := T.glo 58 rfl
theorem g_law_longest : mg "_law_longest" = some (.ref (He.ga K "_law_longest")) := T.glo 59 rfl
theorem g_law : mg "law" = some (.ref (He.ga K "law")) := T.glo 60 rfl
theorem g_Wane : mg "Wane" = some (.ref (He.ga K "Wane")) := T.glo 61 rfl
theorem g_Body : mg "Body" = some (.ref (He.ga K "Body")) := T.glo 62 rfl
theorem g_Scene : mg "Scene" = some (.ref (He.ga K "Scene")) := T.glo 63 rfl
theorem g_Store : mg "Store" = some (.ref (He.ga K "Store")) := T.glo 64 rfl
theorem z_len : mg "len" = none := T.free 65 rfl
theorem z_sorted : mg "sorted" = none := T.free 66 rfl
theorem z_sum : mg "sum" = none := T.free 67 rfl
theorem z_min : mg "min" = none := T.free 68 rfl
theorem z_max : mg "max" = none := T.free 69 rfl
theorem z_all : mg "all" = none := T.free 70 rfl
theorem z_list : mg "list" = none := T.free 71 rfl
theorem z_tuple : mg "tuple" = none := T.free 72 rfl
theorem z_range : mg "range" = none := T.free 73 rfl
theorem z_enumerate : mg "enumerate" = none := T.free 74 rfl
theorem z_isinstance : mg "isinstance" = none := T.free 75 rfl
theorem z_int : mg "int" = none := T.free 76 rfl
theorem z_bool : mg "bool" = none := T.free 77 rfl
theorem z_str : mg "str" = none := T.free 78 rfl
theorem z_abs : mg "abs" = none := T.free 79 rfl
theorem i_MOST_STRENGTH : ∃ t, mg "MOST_STRENGTH" = some (.int 1000000000 t) := T.int 80 rfl
theorem i_MOST_ROOM : ∃ t, mg "MOST_ROOM" = some (.int 1000000000000 t) := T.int 81 rfl
theorem i_MOST_MOMENT : ∃ t, mg "MOST_MOMENT" = some (.int 1000000000000000000000000000000 t) := T.int 82 rfl
theorem i_LONGEST_NAME : ∃ t, mg "LONGEST_NAME" = some (.int 8 t) := T.int 83 rfl
theorem i_DAY : ∃ t, mg "DAY" = some (.int 24 t) := T.int 84 rfl
theorem i_LONGEST_HEAD : ∃ t, mg "LONGEST_HEAD" = some (.int 24 t) := T.int 85 rfl
theorem i_MOST : ∃ t, mg "MOST" = some (.int 8 t) := T.int 86 rfl
theorem i_MOST_STATES : ∃ t, mg "MOST_STATES" = some (.int 400 t) := T.int 87 rfl
theorem x_LETTERS : ∃ t, mg "LETTERS" = some (.str "abcdefghijklmnopqrstuvwxyz" t) := T.str 88 rfl
theorem g_TAILS : mg "TAILS" = some (.ref (He.ga K "TAILS")) := T.glo 89 rfl
theorem g_HOURS : mg "HOURS" = some (.ref (He.ga K "HOURS")) := T.glo 90 rfl
theorem c_Wane : Cls K (He.ga K "Wane") := He.cls_ok (T.c.fact 91 (f := .cls "Wane") rfl)
theorem k_Wane : Mk K (He.ga K "Wane") (He.ma K (He.ga K "Wane") "__init__") := He.mkr_ok (T.c.fact 92 (f := .mkr "Wane") rfl)
theorem n_Wane_head_steps : NoAttr K (He.ga K "Wane") "head_steps" := He.noat_ok (T.c.fact 93 (f := .noat "Wane" "head_steps") rfl)
theorem n_Wane_tail_steps : NoAttr K (He.ga K "Wane") "tail_steps" := He.noat_ok (T.c.fact 94 (f := .noat "Wane" "tail_steps") rfl)
theorem n_Wane_cap_at : NoAttr K (He.ga K "Wane") "cap_at" := He.noat_ok (T.c.fact 95 (f := .noat "Wane" "cap_at") rfl)
theorem n_Wane_lift_by : NoAttr K (He.ga K "Wane") "lift_by" := He.noat_ok (T.c.fact 96 (f := .noat "Wane" "lift_by") rfl)
theorem n_Wane_begins : NoAttr K (He.ga K "Wane") "begins" := He.noat_ok (T.c.fact 97 (f := .noat "Wane" "begins") rfl)
theorem m_Wane_cap : Meth K (He.ga K "Wane") "cap" (He.ma K (He.ga K "Wane") "cap") := He.meth_ok (T.c.fact 98 (f := .meth "Wane" "cap") rfl)
theorem m_Wane_lift : Meth K (He.ga K "Wane") "lift" (He.ma K (He.ga K "Wane") "lift") := He.meth_ok (T.c.fact 99 (f := .meth "Wane" "lift") rfl)
theorem m_Wane_is_anew : Meth K (He.ga K "Wane") "is_anew" (He.ma K (He.ga K "Wane") "is_anew") := He.meth_ok (T.c.fact 100 (f := .meth "Wane" "is_anew") rfl)
theorem m_Wane_coming : Meth K (He.ga K "Wane") "coming" (He.ma K (He.ga K "Wane") "coming") := He.meth_ok (T.c.fact 101 (f := .meth "Wane" "coming") rfl)
theorem m_Wane_phase_of : Meth K (He.ga K "Wane") "phase_of" (He.ma K (He.ga K "Wane") "phase_of") := He.meth_ok (T.c.fact 102 (f := .meth "Wane" "phase_of") rfl)
theorem c_Body : Cls K (He.ga K "Body") := He.cls_ok (T.c.fact 103 (f := .cls "Body") rfl)
theorem k_Body : Mk K (He.ga K "Body") (He.ma K (He.ga K "Body") "__init__") := He.mkr_ok (T.c.fact 104 (f := .mkr "Body") rfl)
theorem n_Body_name : NoAttr K (He.ga K "Body") "name" := He.noat_ok (T.c.fact 105 (f := .noat "Body" "name") rfl)
theorem n_Body_kin : NoAttr K (He.ga K "Body") "kin" := He.noat_ok (T.c.fact 106 (f := .noat "Body" "kin") rfl)
theorem n_Body_wane : NoAttr K (He.ga K "Body") "wane" := He.noat_ok (T.c.fact 107 (f := .noat "Body" "wane") rfl)
theorem n_Body_force : NoAttr K (He.ga K "Body") "force" := He.noat_ok (T.c.fact 108 (f := .noat "Body" "force") rfl)
theorem n_Body_since : NoAttr K (He.ga K "Body") "since" := He.noat_ok (T.c.fact 109 (f := .noat "Body" "since") rfl)
theorem n_Body_asked : NoAttr K (He.ga K "Body") "asked" := He.noat_ok (T.c.fact 110 (f := .noat "Body" "asked") rfl)
theorem n_Body_spot : NoAttr K (He.ga K "Body") "spot" := He.noat_ok (T.c.fact 111 (f := .noat "Body" "spot") rfl)
theorem m_Body_twin : Meth K (He.ga K "Body") "twin" (He.ma K (He.ga K "Body") "twin") := He.meth_ok (T.c.fact 112 (f := .meth "Body" "twin") rfl)
theorem c_Scene : Cls K (He.ga K "Scene") := He.cls_ok (T.c.fact 113 (f := .cls "Scene") rfl)
theorem k_Scene : Mk K (He.ga K "Scene") (He.ma K (He.ga K "Scene") "__init__") := He.mkr_ok (T.c.fact 114 (f := .mkr "Scene") rfl)
theorem n_Scene_moment : NoAttr K (He.ga K "Scene") "moment" := He.noat_ok (T.c.fact 115 (f := .noat "Scene" "moment") rfl)
theorem n_Scene_holds : NoAttr K (He.ga K "Scene") "holds" := He.noat_ok (T.c.fact 116 (f := .noat "Scene" "holds") rfl)
theorem n_Scene_presses : NoAttr K (He.ga K "Scene") "presses" := He.noat_ok (T.c.fact 117 (f := .noat "Scene" "presses") rfl)
theorem n_Scene_grains : NoAttr K (He.ga K "Scene") "grains" := He.noat_ok (T.c.fact 118 (f := .noat "Scene" "grains") rfl)
theorem n_Scene_fades : NoAttr K (He.ga K "Scene") "fades" := He.noat_ok (T.c.fact 119 (f := .noat "Scene" "fades") rfl)
theorem n_Scene_bodies : NoAttr K (He.ga K "Scene") "bodies" := He.noat_ok (T.c.fact 120 (f := .noat "Scene" "bodies") rfl)
theorem n_Scene_marks : NoAttr K (He.ga K "Scene") "marks" := He.noat_ok (T.c.fact 121 (f := .noat "Scene" "marks") rfl)
theorem n_Scene_doers : NoAttr K (He.ga K "Scene") "doers" := He.noat_ok (T.c.fact 122 (f := .noat "Scene" "doers") rfl)
theorem n_Scene_hired : NoAttr K (He.ga K "Scene") "hired" := He.noat_ok (T.c.fact 123 (f := .noat "Scene" "hired") rfl)
theorem n_Scene_watch : NoAttr K (He.ga K "Scene") "watch" := He.noat_ok (T.c.fact 124 (f := .noat "Scene" "watch") rfl)
theorem n_Scene_tale : NoAttr K (He.ga K "Scene") "tale" := He.noat_ok (T.c.fact 125 (f := .noat "Scene" "tale") rfl)
theorem m_Scene_twin : Meth K (He.ga K "Scene") "twin" (He.ma K (He.ga K "Scene") "twin") := He.meth_ok (T.c.fact 126 (f := .meth "Scene" "twin") rfl)
theorem m_Scene_state : Meth K (He.ga K "Scene") "state" (He.ma K (He.ga K "Scene") "state") := He.meth_ok (T.c.fact 127 (f := .meth "Scene" "state") rfl)
theorem c_Store : Cls K (He.ga K "Store") := He.cls_ok (T.c.fact 128 (f := .cls "Store") rfl)
theorem k_Store : Mk K (He.ga K "Store") (He.ma K (He.ga K "Store") "__init__") := He.mkr_ok (T.c.fact 129 (f := .mkr "Store") rfl)
theorem n_Store_scene : NoAttr K (He.ga K "Store") "scene" := He.noat_ok (T.c.fact 130 (f := .noat "Store" "scene") rfl)
theorem m_Store_body_of : Meth K (He.ga K "Store") "body_of" (He.ma K (He.ga K "Store") "body_of") := He.meth_ok (T.c.fact 131 (f := .meth "Store" "body_of") rfl)
theorem m_Store_put : Meth K (He.ga K "Store") "put" (He.ma K (He.ga K "Store") "put") := He.meth_ok (T.c.fact 132 (f := .meth "Store" "put") rfl)
theorem m_Store_hire : Meth K (He.ga K "Store") "hire" (He.ma K (He.ga K "Store") "hire") := He.meth_ok (T.c.fact 133 (f := .meth "Store" "hire") rfl)
theorem m_Store_dismiss : Meth K (He.ga K "Store") "dismiss" (He.ma K (He.ga K "Store") "dismiss") := He.meth_ok (T.c.fact 134 (f := .meth "Store" "dismiss") rfl)
theorem m_Store_pass_on : Meth K (He.ga K "Store") "pass_on" (He.ma K (He.ga K "Store") "pass_on") := He.meth_ok (T.c.fact 135 (f := .meth "Store" "pass_on") rfl)
theorem m_Store_now : Meth K (He.ga K "Store") "now" (He.ma K (He.ga K "Store") "now") := He.meth_ok (T.c.fact 136 (f := .meth "Store" "now") rfl)
theorem m_Store_there : Meth K (He.ga K "Store") "there" (He.ma K (He.ga K "Store") "there") := He.meth_ok (T.c.fact 137 (f := .meth "Store" "there") rfl)
theorem m_Store_thing : Meth K (He.ga K "Store") "thing" (He.ma K (He.ga K "Store") "thing") := He.meth_ok (T.c.fact 138 (f := .meth "Store" "thing") rfl)
theorem m_Store_wane_of : Meth K (He.ga K "Store") "wane_of" (He.ma K (He.ga K "Store") "wane_of") := He.meth_ok (T.c.fact 139 (f := .meth "Store" "wane_of") rfl)
theorem m_Store_askers : Meth K (He.ga K "Store") "askers" (He.ma K (He.ga K "Store") "askers") := He.meth_ok (T.c.fact 140 (f := .meth "Store" "askers") rfl)
theorem m_Store_mender : Meth K (He.ga K "Store") "mender" (He.ma K (He.ga K "Store") "mender") := He.meth_ok (T.c.fact 141 (f := .meth "Store" "mender") rfl)
theorem m_Store_state : Meth K (He.ga K "Store") "state" (He.ma K (He.ga K "Store") "state") := He.meth_ok (T.c.fact 142 (f := .meth "Store" "state") rfl)
theorem m_Store_copied : Meth K (He.ga K "Store") "copied" (He.ma K (He.ga K "Store") "copied") := He.meth_ok (T.c.fact 143 (f := .meth "Store" "copied") rfl)
theorem F_is_whole : FunD K "is_whole" "is_whole" (defArgs s_is_whole) (defBody s_is_whole) (defScope s_is_whole) [] [] (He.ga K "is_whole") (fdA K (He.ga K "is_whole")) := T.defD 0 (d := d_is_whole) rfl
theorem b_is_whole : Binds K (fdA K (He.ga K "is_whole")) ["thing"] [] := (F_is_whole T).bindsN fun _ _ _ _ _ _ us hl => match us, hl with | [_], _ => rfl
theorem F_is_within : FunD K "is_within" "is_within" (defArgs s_is_within) (defBody s_is_within) (defScope s_is_within) [] [] (He.ga K "is_within") (fdA K (He.ga K "is_within")) := T.defD 1 (d := d_is_within) rfl
theorem b_is_within : Binds K (fdA K (He.ga K "is_within")) ["thing", "least", "most"] [] := (F_is_within T).bindsN fun _ _ _ _ _ _ us hl => match us, hl with | [_, _, _], _ => rfl
theorem F_is_name : FunD K "is_name" "is_name" (defArgs s_is_name) (defBody s_is_name) (defScope s_is_name) [] [] (He.ga K "is_name") (fdA K (He.ga K "is_name")) := T.defD 2 (d := d_is_name) rfl
theorem b_is_name : Binds K (fdA K (He.ga K "is_name")) ["thing"] [] := (F_is_name T).bindsN fun _ _ _ _ _ _ us hl => match us, hl with | [_], _ => rfl
theorem F_is_sort : FunD K "is_sort" "is_sort" (defArgs s_is_sort) (defBody s_is_sort) (defScope s_is_sort) [] [] (He.ga K "is_sort") (fdA K (He.ga K "is_sort")) := T.defD 3 (d := d_is_sort) rfl
theorem b_is_sort : Binds K (fdA K (He.ga K "is_sort")) ["thing"] [] := (F_is_sort T).bindsN fun _ _ _ _ _ _ us hl => match us, hl with | [_], _ => rfl
theorem F_is_strength : FunD K "is_strength" "is_strength" (defArgs s_is_strength) (defBody s_is_strength) (defScope s_is_strength) [] [] (He.ga K "is_strength") (fdA K (He.ga K "is_strength")) := T.defD 4 (d := d_is_strength) rfl
theorem b_is_strength : Binds K (fdA K (He.ga K "is_strength")) ["thing"] [] := (F_is_strength T).bindsN fun _ _ _ _ _ _ us hl => match us, hl with | [_], _ => rfl
theorem F_is_size : FunD K "is_size" "is_size" (defArgs s_is_size) (defBody s_is_size) (defScope s_is_size) [] [] (He.ga K "is_size") (fdA K (He.ga K "is_size")) := T.defD 5 (d := d_is_size) rfl
theorem b_is_size : Binds K (fdA K (He.ga K "is_size")) ["thing"] [] := (F_is_size T).bindsN fun _ _ _ _ _ _ us hl => match us, hl with | [_], _ => rfl
theorem F_is_shift : FunD K "is_shift" "is_shift" (defArgs s_is_shift) (defBody s_is_shift) (defScope s_is_shift) [] [] (He.ga K "is_shift") (fdA K (He.ga K "is_shift")) := T.defD 6 (d := d_is_shift) rfl
theorem b_is_shift : Binds K (fdA K (He.ga K "is_shift")) ["thing"] [] := (F_is_shift T).bindsN fun _ _ _ _ _ _ us hl => match us, hl with | [_], _ => rfl
theorem F_is_room : FunD K "is_room" "is_room" (defArgs s_is_room) (defBody s_is_room) (defScope s_is_room) [] [] (He.ga K "is_room") (fdA K (He.ga K "is_room")) := T.defD 7 (d := d_is_room) rfl
theorem b_is_room : Binds K (fdA K (He.ga K "is_room")) ["thing"] [] := (F_is_room T).bindsN fun _ _ _ _ _ _ us hl => match us, hl with | [_], _ => rfl
theorem F_is_moment : FunD K "is_moment" "is_moment" (defArgs s_is_moment) (defBody s_is_moment) (defScope s_is_moment) [] [] (He.ga K "is_moment") (fdA K (He.ga K "is_moment")) := T.defD 8 (d := d_is_moment) rfl
theorem b_is_moment : Binds K (fdA K (He.ga K "is_moment")) ["thing"] [] := (F_is_moment T).bindsN fun _ _ _ _ _ _ us hl => match us, hl with | [_], _ => rfl
theorem F_are_hours : FunD K "are_hours" "are_hours" (defArgs s_are_hours) (defBody s_are_hours) (defScope s_are_hours) [] [] (He.ga K "are_hours") (fdA K (He.ga K "are_hours")) := T.defD 9 (d := d_are_hours) rfl
theorem b_are_hours : Binds K (fdA K (He.ga K "are_hours")) ["thing"] [] := (F_are_hours T).bindsN fun _ _ _ _ _ _ us hl => match us, hl with | [_], _ => rfl
theorem F_is_step : FunD K "is_step" "is_step" (defArgs s_is_step) (defBody s_is_step) (defScope s_is_step) [] [] (He.ga K "is_step") (fdA K (He.ga K "is_step")) := T.defD 10 (d := d_is_step) rfl
theorem b_is_step : Binds K (fdA K (He.ga K "is_step")) ["thing"] [] := (F_is_step T).bindsN fun _ _ _ _ _ _ us hl => match us, hl with | [_], _ => rfl
theorem F_is_head : FunD K "is_head" "is_head" (defArgs s_is_head) (defBody s_is_head) (defScope s_is_head) [] [] (He.ga K "is_head") (fdA K (He.ga K "is_head")) := T.defD 11 (d := d_is_head) rfl
theorem b_is_head : Binds K (fdA K (He.ga K "is_head")) ["thing"] [] := (F_is_head T).bindsN fun _ _ _ _ _ _ us hl => match us, hl with | [_], _ => rfl
theorem F_is_tail : FunD K "is_tail" "is_tail" (defArgs s_is_tail) (defBody s_is_tail) (defScope s_is_tail) [] [] (He.ga K "is_tail") (fdA K (He.ga K "is_tail")) := T.defD 12 (d := d_is_tail) rfl
theorem b_is_tail : Binds K (fdA K (He.ga K "is_tail")) ["thing"] [] := (F_is_tail T).bindsN fun _ _ _ _ _ _ us hl => match us, hl with | [_], _ => rfl
theorem F_turned : FunD K "turned" "turned" (defArgs s_turned) (defBody s_turned) (defScope s_turned) [] [] (He.ga K "turned") (fdA K (He.ga K "turned")) := T.defD 13 (d := d_turned) rfl
theorem b_turned : Binds K (fdA K (He.ga K "turned")) ["wane", "strength", "since"] [] := (F_turned T).bindsN fun _ _ _ _ _ _ us hl => match us, hl with | [_, _, _], _ => rfl
theorem F_trace_of : FunD K "trace_of" "trace_of" (defArgs s_trace_of) (defBody s_trace_of) (defScope s_trace_of) [] [] (He.ga K "trace_of") (fdA K (He.ga K "trace_of")) := T.defD 14 (d := d_trace_of) rfl
theorem b_trace_of : Binds K (fdA K (He.ga K "trace_of")) ["scene", "name"] [] := (F_trace_of T).bindsN fun _ _ _ _ _ _ us hl => match us, hl with | [_, _], _ => rfl
theorem F_goes : FunD K "goes" "goes" (defArgs s_goes) (defBody s_goes) (defScope s_goes) [] [] (He.ga K "goes") (fdA K (He.ga K "goes")) := T.defD 15 (d := d_goes) rfl
theorem b_goes : Binds K (fdA K (He.ga K "goes")) ["scene", "body", "word"] [] := (F_goes T).bindsN fun _ _ _ _ _ _ us hl => match us, hl with | [_, _, _], _ => rfl
theorem F_lift_body : FunD K "lift_body" "lift_body" (defArgs s_lift_body) (defBody s_lift_body) (defScope s_lift_body) [] [] (He.ga K "lift_body") (fdA K (He.ga K "lift_body")) := T.defD 16 (d := d_lift_body) rfl
theorem b_lift_body : Binds K (fdA K (He.ga K "lift_body")) ["body", "by", "notes"] [] := (F_lift_body T).bindsN fun _ _ _ _ _ _ us hl => match us, hl with | [_, _, _], _ => rfl
theorem F_lower_body : FunD K "lower_body" "lower_body" (defArgs s_lower_body) (defBody s_lower_body) (defScope s_lower_body) [] [] (He.ga K "lower_body") (fdA K (He.ga K "lower_body")) := T.defD 17 (d := d_lower_body) rfl
theorem b_lower_body : Binds K (fdA K (He.ga K "lower_body")) ["scene", "body", "force", "word", "notes"] [] := (F_lower_body T).bindsN fun _ _ _ _ _ _ us hl => match us, hl with | [_, _, _, _, _], _ => rfl
theorem F_ask_for : FunD K "ask_for" "ask_for" (defArgs s_ask_for) (defBody s_ask_for) (defScope s_ask_for) [] [] (He.ga K "ask_for") (fdA K (He.ga K "ask_for")) := T.defD 18 (d := d_ask_for) rfl
theorem b_ask_for : Binds K (fdA K (He.ga K "ask_for")) ["scene", "name", "notes"] [] := (F_ask_for T).bindsN fun _ _ _ _ _ _ us hl => match us, hl with | [_, _, _], _ => rfl
theorem F_total_of : FunD K "total_of" "total_of" (defArgs s_total_of) (defBody s_total_of) (defScope s_total_of) [] [] (He.ga K "total_of") (fdA K (He.ga K "total_of")) := T.defD 19 (d := d_total_of) rfl
theorem b_total_of : Binds K (fdA K (He.ga K "total_of")) ["scene", "spot"] [] := (F_total_of T).bindsN fun _ _ _ _ _ _ us hl => match us, hl with | [_, _], _ => rfl
theorem F_weakest : FunD K "weakest" "weakest" (defArgs s_weakest) (defBody s_weakest) (defScope s_weakest) [] [] (He.ga K "weakest") (fdA K (He.ga K "weakest")) := T.defD 20 (d := d_weakest) rfl
theorem b_weakest : Binds K (fdA K (He.ga K "weakest")) ["bodies"] [] := (F_weakest T).bindsN fun _ _ _ _ _ _ us hl => match us, hl with | [_], _ => rfl
theorem F_crowd : FunD K "crowd" "crowd" (defArgs s_crowd) (defBody s_crowd) (defScope s_crowd) [] [] (He.ga K "crowd") (fdA K (He.ga K "crowd")) := T.defD 21 (d := d_crowd) rfl
theorem b_crowd : Binds K (fdA K (He.ga K "crowd")) ["scene", "notes"] [] := (F_crowd T).bindsN fun _ _ _ _ _ _ us hl => match us, hl with | [_, _], _ => rfl
theorem F_wane_all : FunD K "wane_all" "wane_all" (defArgs s_wane_all) (defBody s_wane_all) (defScope s_wane_all) [] [] (He.ga K "wane_all") (fdA K (He.ga K "wane_all")) := T.defD 22 (d := d_wane_all) rfl
theorem b_wane_all : Binds K (fdA K (He.ga K "wane_all")) ["scene", "notes"] [] := (F_wane_all T).bindsN fun _ _ _ _ _ _ us hl => match us, hl with | [_, _], _ => rfl
theorem F_watched : FunD K "watched" "watched" (defArgs s_watched) (defBody s_watched) (defScope s_watched) [] [] (He.ga K "watched") (fdA K (He.ga K "watched")) := T.defD 23 (d := d_watched) rfl
theorem b_watched : Binds K (fdA K (He.ga K "watched")) ["scene"] [] := (F_watched T).bindsN fun _ _ _ _ _ _ us hl => match us, hl with | [_], _ => rfl
theorem F_one_turn : FunD K "one_turn" "one_turn" (defArgs s_one_turn) (defBody s_one_turn) (defScope s_one_turn) [] [] (He.ga K "one_turn") (fdA K (He.ga K "one_turn")) := T.defD 24 (d := d_one_turn) rfl
theorem b_one_turn : Binds K (fdA K (He.ga K "one_turn")) ["scene", "notes"] [] := (F_one_turn T).bindsN fun _ _ _ _ _ _ us hl => match us, hl with | [_, _], _ => rfl
theorem F_go_on : FunD K "go_on" "go_on" (defArgs s_go_on) (defBody s_go_on) (defScope s_go_on) [] [] (He.ga K "go_on") (fdA K (He.ga K "go_on")) := T.defD 25 (d := d_go_on) rfl
theorem b_go_on : Binds K (fdA K (He.ga K "go_on")) ["scene", "turns"] [] := (F_go_on T).bindsN fun _ _ _ _ _ _ us hl => match us, hl with | [_, _], _ => rfl
theorem F_pass_scene : FunD K "pass_scene" "pass_scene" (defArgs s_pass_scene) (defBody s_pass_scene) (defScope s_pass_scene) [] [] (He.ga K "pass_scene") (fdA K (He.ga K "pass_scene")) := T.defD 26 (d := d_pass_scene) rfl
theorem b_pass_scene : Binds K (fdA K (He.ga K "pass_scene")) ["scene", "turns"] [] := (F_pass_scene T).bindsN fun _ _ _ _ _ _ us hl => match us, hl with | [_, _], _ => rfl
theorem F_are_rooms : FunD K "are_rooms" "are_rooms" (defArgs s_are_rooms) (defBody s_are_rooms) (defScope s_are_rooms) [] [] (He.ga K "are_rooms") (fdA K (He.ga K "are_rooms")) := T.defD 27 (d := d_are_rooms) rfl
theorem b_are_rooms : Binds K (fdA K (He.ga K "are_rooms")) ["thing"] [] := (F_are_rooms T).bindsN fun _ _ _ _ _ _ us hl => match us, hl with | [_], _ => rfl
theorem F_are_stirs : FunD K "are_stirs" "are_stirs" (defArgs s_are_stirs) (defBody s_are_stirs) (defScope s_are_stirs) [] [] (He.ga K "are_stirs") (fdA K (He.ga K "are_stirs")) := T.defD 28 (d := d_are_stirs) rfl
theorem b_are_stirs : Binds K (fdA K (He.ga K "are_stirs")) ["thing"] [] := (F_are_stirs T).bindsN fun _ _ _ _ _ _ us hl => match us, hl with | [_], _ => rfl
theorem F_need_asked : FunD K "need_asked" "need_asked" (defArgs s_need_asked) (defBody s_need_asked) (defScope s_need_asked) [] [] (He.ga K "need_asked") (fdA K (He.ga K "need_asked")) := T.defD 29 (d := d_need_asked) rfl
theorem b_need_asked : Binds K (fdA K (He.ga K "need_asked")) ["store", "names", "most"] [] := (F_need_asked T).bindsN fun _ _ _ _ _ _ us hl => match us, hl with | [_, _, _], _ => rfl
theorem F_need_game : FunD K "need_game" "need_game" (defArgs s_need_game) (defBody s_need_game) (defScope s_need_game) [] [] (He.ga K "need_game") (fdA K (He.ga K "need_game")) := T.defD 30 (d := d_need_game) rfl
theorem b_need_game : Binds K (fdA K (He.ga K "need_game")) ["store", "names"] [] := (F_need_game T).bindsN fun _ _ _ _ _ _ us hl => match us, hl with | [_, _], _ => rfl
theorem F_moves_of : FunD K "moves_of" "moves_of" (defArgs s_moves_of) (defBody s_moves_of) (defScope s_moves_of) [] [] (He.ga K "moves_of") (fdA K (He.ga K "moves_of")) := T.defD 31 (d := d_moves_of) rfl
theorem b_moves_of : Binds K (fdA K (He.ga K "moves_of")) ["store"] [] := (F_moves_of T).bindsN fun _ _ _ _ _ _ us hl => match us, hl with | [_], _ => rfl
theorem F_moved : FunD K "moved" "moved" (defArgs s_moved) (defBody s_moved) (defScope s_moved) [] [] (He.ga K "moved") (fdA K (He.ga K "moved")) := T.defD 32 (d := d_moved) rfl
theorem b_moved : Binds K (fdA K (He.ga K "moved")) ["store", "move"] [] := (F_moved T).bindsN fun _ _ _ _ _ _ us hl => match us, hl with | [_, _], _ => rfl
theorem F_opened : FunD K "opened" "opened" (defArgs s_opened) (defBody s_opened) (defScope s_opened) [] [] (He.ga K "opened") (fdA K (He.ga K "opened")) := T.defD 33 (d := d_opened) rfl
theorem b_opened : Binds K (fdA K (He.ga K "opened")) ["store", "names", "most"] [] := (F_opened T).bindsN fun _ _ _ _ _ _ us hl => match us, hl with | [_, _, _], _ => rfl
theorem F_lost_within_turns : FunD K "lost_within_turns" "lost_within_turns" (defArgs s_lost_within_turns) (defBody s_lost_within_turns) (defScope s_lost_within_turns) [] [] (He.ga K "lost_within_turns") (fdA K (He.ga K "lost_within_turns")) := T.defD 34 (d := d_lost_within_turns) rfl
theorem b_lost_within_turns : Binds K (fdA K (He.ga K "lost_within_turns")) ["ways"] [] := (F_lost_within_turns T).bindsN fun _ _ _ _ _ _ us hl => match us, hl with | [_], _ => rfl
theorem F_paper_of : FunD K "paper_of" "paper_of" (defArgs s_paper_of) (defBody s_paper_of) (defScope s_paper_of) [] [] (He.ga K "paper_of") (fdA K (He.ga K "paper_of")) := T.defD 35 (d := d_paper_of) rfl
theorem b_paper_of : Binds K (fdA K (He.ga K "paper_of")) ["states", "lost", "numbers"] [] := (F_paper_of T).bindsN fun _ _ _ _ _ _ us hl => match us, hl with | [_, _, _], _ => rfl
theorem F_keep : FunD K "keep" "keep" (defArgs s_keep) (defBody s_keep) (defScope s_keep) [] [("most", .int 120)] (He.ga K "keep") (fdA K (He.ga K "keep")) := T.defD 36 (d := d_keep) rfl
theorem F_law_bag : FunD K "_law_bag" "_law_bag" (defArgs s_law_bag) (defBody s_law_bag) (defScope s_law_bag) [] [] (He.ga K "_law_bag") (fdA K (He.ga K "_law_bag")) := T.defD 37 (d := d_law_bag) rfl
theorem b_law_bag : Binds K (fdA K (He.ga K "_law_bag")) ["_law_script"] [] := (F_law_bag T).bindsN fun _ _ _ _ _ _ us hl => match us, hl with | [_], _ => rfl
theorem F_law_take : FunD K "_law_take" "_law_take" (defArgs s_law_take) (defBody s_law_take) (defScope s_law_take) [] [] (He.ga K "_law_take") (fdA K (He.ga K "_law_take")) := T.defD 38 (d := d_law_take) rfl
theorem b_law_take : Binds K (fdA K (He.ga K "_law_take")) ["_law_bag_here", "_law_many"] [] := (F_law_take T).bindsN fun _ _ _ _ _ _ us hl => match us, hl with | [_, _], _ => rfl
theorem F_law_names : FunD K "_law_names" "_law_names" (defArgs s_law_names) (defBody s_law_names) (defScope s_law_names) [] [] (He.ga K "_law_names") (fdA K (He.ga K "_law_names")) := T.defD 39 (d := d_law_names) rfl
theorem b_law_names : Binds K (fdA K (He.ga K "_law_names")) ["_law_bag_here", "_law_many"] [] := (F_law_names T).bindsN fun _ _ _ _ _ _ us hl => match us, hl with | [_, _], _ => rfl
theorem F_law_steps : FunD K "_law_steps" "_law_steps" (defArgs s_law_steps) (defBody s_law_steps) (defScope s_law_steps) [] [] (He.ga K "_law_steps") (fdA K (He.ga K "_law_steps")) := T.defD 40 (d := d_law_steps) rfl
theorem b_law_steps : Binds K (fdA K (He.ga K "_law_steps")) ["_law_bag_here", "_law_many"] [] := (F_law_steps T).bindsN fun _ _ _ _ _ _ us hl => match us, hl with | [_, _], _ => rfl
theorem F_law_plan : FunD K "_law_plan" "_law_plan" (defArgs s_law_plan) (defBody s_law_plan) (defScope s_law_plan) [] [] (He.ga K "_law_plan") (fdA K (He.ga K "_law_plan")) := T.defD 41 (d := d_law_plan) rfl
theorem b_law_plan : Binds K (fdA K (He.ga K "_law_plan")) ["_law_bag_here", "_law_bound"] [] := (F_law_plan T).bindsN fun _ _ _ _ _ _ us hl => match us, hl with | [_, _], _ => rfl
theorem F_law_made : FunD K "_law_made" "_law_made" (defArgs s_law_made) (defBody s_law_made) (defScope s_law_made) [] [] (He.ga K "_law_made") (fdA K (He.ga K "_law_made")) := T.defD 42 (d := d_law_made) rfl
theorem b_law_made : Binds K (fdA K (He.ga K "_law_made")) ["_law_plan_here"] [] := (F_law_made T).bindsN fun _ _ _ _ _ _ us hl => match us, hl with | [_], _ => rfl
theorem F_law_world : FunD K "_law_world" "_law_world" (defArgs s_law_world) (defBody s_law_world) (defScope s_law_world) [] [] (He.ga K "_law_world") (fdA K (He.ga K "_law_world")) := T.defD 43 (d := d_law_world) rfl
theorem b_law_world : Binds K (fdA K (He.ga K "_law_world")) ["_law_bag_here", "_law_many", "_law_bound"] [] := (F_law_world T).bindsN fun _ _ _ _ _ _ us hl => match us, hl with | [_, _, _], _ => rfl
theorem F_law_store : FunD K "_law_store" "_law_store" (defArgs s_law_store) (defBody s_law_store) (defScope s_law_store) [] [] (He.ga K "_law_store") (fdA K (He.ga K "_law_store")) := T.defD 44 (d := d_law_store) rfl
theorem b_law_store : Binds K (fdA K (He.ga K "_law_store")) ["_law_world_here"] [] := (F_law_store T).bindsN fun _ _ _ _ _ _ us hl => match us, hl with | [_], _ => rfl
theorem F_law_seen : FunD K "_law_seen" "_law_seen" (defArgs s_law_seen) (defBody s_law_seen) (defScope s_law_seen) [] [] (He.ga K "_law_seen") (fdA K (He.ga K "_law_seen")) := T.defD 45 (d := d_law_seen) rfl
theorem b_law_seen : Binds K (fdA K (He.ga K "_law_seen")) ["_law_world_here", "_law_store_here"] [] := (F_law_seen T).bindsN fun _ _ _ _ _ _ us hl => match us, hl with | [_, _], _ => rfl
theorem F_law_phase : FunD K "_law_phase" "_law_phase" (defArgs s_law_phase) (defBody s_law_phase) (defScope s_law_phase) [] [] (He.ga K "_law_phase") (fdA K (He.ga K "_law_phase")) := T.defD 46 (d := d_law_phase) rfl
theorem b_law_phase : Binds K (fdA K (He.ga K "_law_phase")) ["_law_plan_here", "_law_since"] [] := (F_law_phase T).bindsN fun _ _ _ _ _ _ us hl => match us, hl with | [_, _], _ => rfl
theorem F_law_waned : FunD K "_law_waned" "_law_waned" (defArgs s_law_waned) (defBody s_law_waned) (defScope s_law_waned) [] [] (He.ga K "_law_waned") (fdA K (He.ga K "_law_waned")) := T.defD 47 (d := d_law_waned) rfl
theorem b_law_waned : Binds K (fdA K (He.ga K "_law_waned")) ["_law_plan_here", "_law_strength", "_law_since"] [] := (F_law_waned T).bindsN fun _ _ _ _ _ _ us hl => match us, hl with | [_, _, _], _ => rfl
theorem F_law_asked : FunD K "_law_asked" "_law_asked" (defArgs s_law_asked) (defBody s_law_asked) (defScope s_law_asked) [] [] (He.ga K "_law_asked") (fdA K (He.ga K "_law_asked")) := T.defD 48 (d := d_law_asked) rfl
theorem b_law_asked : Binds K (fdA K (He.ga K "_law_asked")) ["_law_world_here", "_law_things", "_law_name"] [] := (F_law_asked T).bindsN fun _ _ _ _ _ _ us hl => match us, hl with | [_, _, _], _ => rfl
theorem F_law_crowded : FunD K "_law_crowded" "_law_crowded" (defArgs s_law_crowded) (defBody s_law_crowded) (defScope s_law_crowded) [] [] (He.ga K "_law_crowded") (fdA K (He.ga K "_law_crowded")) := T.defD 49 (d := d_law_crowded) rfl
theorem b_law_crowded : Binds K (fdA K (He.ga K "_law_crowded")) ["_law_world_here", "_law_things"] [] := (F_law_crowded T).bindsN fun _ _ _ _ _ _ us hl => match us, hl with | [_, _], _ => rfl
theorem F_law_moved : FunD K "_law_moved" "_law_moved" (defArgs s_law_moved) (defBody s_law_moved) (defScope s_law_moved) [] [] (He.ga K "_law_moved") (fdA K (He.ga K "_law_moved")) := T.defD 50 (d := d_law_moved) rfl
theorem b_law_moved : Binds K (fdA K (He.ga K "_law_moved")) ["_law_world_here", "_law_things", "_law_move"] [] := (F_law_moved T).bindsN fun _ _ _ _ _ _ us hl => match us, hl with | [_, _, _], _ => rfl
theorem F_law_moves : FunD K "_law_moves" "_law_moves" (defArgs s_law_moves) (defBody s_law_moves) (defScope s_law_moves) [] [] (He.ga K "_law_moves") (fdA K (He.ga K "_law_moves")) := T.defD 51 (d := d_law_moves) rfl
theorem b_law_moves : Binds K (fdA K (He.ga K "_law_moves")) ["_law_things"] [] := (F_law_moves T).bindsN fun _ _ _ _ _ _ us hl => match us, hl with | [_], _ => rfl
theorem F_law_state : FunD K "_law_state" "_law_state" (defArgs s_law_state) (defBody s_law_state) (defScope s_law_state) [] [] (He.ga K "_law_state") (fdA K (He.ga K "_law_state")) := T.defD 52 (d := d_law_state) rfl
theorem b_law_state : Binds K (fdA K (He.ga K "_law_state")) ["_law_things"] [] := (F_law_state T).bindsN fun _ _ _ _ _ _ us hl => match us, hl with | [_], _ => rfl
theorem F_law_game : FunD K "_law_game" "_law_game" (defArgs s_law_game) (defBody s_law_game) (defScope s_law_game) [] [] (He.ga K "_law_game") (fdA K (He.ga K "_law_game")) := T.defD 53 (d := d_law_game) rfl
theorem b_law_game : Binds K (fdA K (He.ga K "_law_game")) ["_law_world_here", "_law_things", "_law_names_here", "_law_limit"] [] := (F_law_game T).bindsN fun _ _ _ _ _ _ us hl => match us, hl with | [_, _, _, _], _ => rfl
theorem F_law_lost : FunD K "_law_lost" "_law_lost" (defArgs s_law_lost) (defBody s_law_lost) (defScope s_law_lost) [] [] (He.ga K "_law_lost") (fdA K (He.ga K "_law_lost")) := T.defD 54 (d := d_law_lost) rfl
theorem b_law_lost : Binds K (fdA K (He.ga K "_law_lost")) ["_law_ways"] [] := (F_law_lost T).bindsN fun _ _ _ _ _ _ us hl => match us, hl with | [_], _ => rfl
theorem F_law_lossy : FunD K "_law_lossy" "_law_lossy" (defArgs s_law_lossy) (defBody s_law_lossy) (defScope s_law_lossy) [] [] (He.ga K "_law_lossy") (fdA K (He.ga K "_law_lossy")) := T.defD 55 (d := d_law_lossy) rfl
theorem b_law_lossy : Binds K (fdA K (He.ga K "_law_lossy")) ["_law_bag_here"] [] := (F_law_lossy T).bindsN fun _ _ _ _ _ _ us hl => match us, hl with | [_], _ => rfl
theorem F_law_told : FunD K "_law_told" "_law_told" (defArgs s_law_told) (defBody s_law_told) (defScope s_law_told) [] [] (He.ga K "_law_told") (fdA K (He.ga K "_law_told")) := T.defD 56 (d := d_law_told) rfl
theorem b_law_told : Binds K (fdA K (He.ga K "_law_told")) ["_law_store_here", "_law_move"] [] := (F_law_told T).bindsN fun _ _ _ _ _ _ us hl => match us, hl with | [_, _], _ => rfl
theorem F_law_stays : FunD K "_law_stays" "_law_stays" (defArgs s_law_stays) (defBody s_law_stays) (defScope s_law_stays) [] [] (He.ga K "_law_stays") (fdA K (He.ga K "_law_stays")) := T.defD 57 (d := d_law_stays) rfl
theorem b_law_stays : Binds K (fdA K (He.ga K "_law_stays")) ["_law_store_here", "_law_names_here"] [] := (F_law_stays T).bindsN fun _ _ _ _ _ _ us hl => match us, hl with | [_, _], _ => rfl
theorem F_law_drawn : FunD K "_law_drawn" "_law_drawn" (defArgs s_law_drawn) (defBody s_law_drawn) (defScope s_law_drawn) [] [] (He.ga K "_law_drawn") (fdA K (He.ga K "_law_drawn")) := T.defD 58 (d := d_law_drawn) rfl
theorem b_law_drawn : Binds K (fdA K (He.ga K "_law_drawn")) ["_law_bag_here", "_law_store_here", "_law_things", "_law_names_here", "_law_turns"] [] := (F_law_drawn T).bindsN fun _ _ _ _ _ _ us hl => match us, hl with | [_, _, _, _, _], _ => rfl
theorem F_law_longest : FunD K "_law_longest" "_law_longest" (defArgs s_law_longest) (defBody s_law_longest) (defScope s_law_longest) [] [] (He.ga K "_law_longest") (fdA K (He.ga K "_law_longest")) := T.defD 59 (d := d_law_longest) rfl
theorem b_law_longest : Binds K (fdA K (He.ga K "_law_longest")) ["_law_world_here", "_law_store_here", "_law_things", "_law_names_here", "_law_lost_here", "_law_turns"] [] := (F_law_longest T).bindsN fun _ _ _ _ _ _ us hl => match us, hl with | [_, _, _, _, _, _], _ => rfl
theorem F_law : FunD K "law" "law" (defArgs s_law) (defBody s_law) (defScope s_law) [] [] (He.ga K "law") (fdA K (He.ga K "law")) := T.defD 60 (d := d_law) rfl
theorem b_law : Binds K (fdA K (He.ga K "law")) ["_law_script"] [] := (F_law T).bindsN fun _ _ _ _ _ _ us hl => match us, hl with | [_], _ => rfl
theorem F_Wane_init : FunD K "__init__" "Wane.__init__" (defArgs s_Wane_init) (defBody s_Wane_init) (defScope s_Wane_init) [] [("anew", .bl true)] (He.ma K (He.ga K "Wane") "__init__") (fdA K (He.ma K (He.ga K "Wane") "__init__")) := T.defD 61 (d := d_Wane_init) rfl
theorem F_Wane_cap : FunD K "cap" "Wane.cap" (defArgs s_Wane_cap) (defBody s_Wane_cap) (defScope s_Wane_cap) [] [] (He.ma K (He.ga K "Wane") "cap") (fdA K (He.ma K (He.ga K "Wane") "cap")) := T.defD 62 (d := d_Wane_cap) rfl
theorem b_Wane_cap : Binds K (fdA K (He.ma K (He.ga K "Wane") "cap")) ["self"] [] := (F_Wane_cap T).bindsN fun _ _ _ _ _ _ us hl => match us, hl with | [_], _ => rfl
theorem F_Wane_lift : FunD K "lift" "Wane.lift" (defArgs s_Wane_lift) (defBody s_Wane_lift) (defScope s_Wane_lift) [] [] (He.ma K (He.ga K "Wane") "lift") (fdA K (He.ma K (He.ga K "Wane") "lift")) := T.defD 63 (d := d_Wane_lift) rfl
theorem b_Wane_lift : Binds K (fdA K (He.ma K (He.ga K "Wane") "lift")) ["self"] [] := (F_Wane_lift T).bindsN fun _ _ _ _ _ _ us hl => match us, hl with | [_], _ => rfl
theorem F_Wane_is_anew : FunD K "is_anew" "Wane.is_anew" (defArgs s_Wane_is_anew) (defBody s_Wane_is_anew) (defScope s_Wane_is_anew) [] [] (He.ma K (He.ga K "Wane") "is_anew") (fdA K (He.ma K (He.ga K "Wane") "is_anew")) := T.defD 64 (d := d_Wane_is_anew) rfl
theorem b_Wane_is_anew : Binds K (fdA K (He.ma K (He.ga K "Wane") "is_anew")) ["self"] [] := (F_Wane_is_anew T).bindsN fun _ _ _ _ _ _ us hl => match us, hl with | [_], _ => rfl
theorem F_Wane_coming : FunD K "coming" "Wane.coming" (defArgs s_Wane_coming) (defBody s_Wane_coming) (defScope s_Wane_coming) [] [] (He.ma K (He.ga K "Wane") "coming") (fdA K (He.ma K (He.ga K "Wane") "coming")) := T.defD 65 (d := d_Wane_coming) rfl
theorem b_Wane_coming : Binds K (fdA K (He.ma K (He.ga K "Wane") "coming")) ["self", "since"] [] := (F_Wane_coming T).bindsN fun _ _ _ _ _ _ us hl => match us, hl with | [_, _], _ => rfl
theorem F_Wane_phase_of : FunD K "phase_of" "Wane.phase_of" (defArgs s_Wane_phase_of) (defBody s_Wane_phase_of) (defScope s_Wane_phase_of) [] [] (He.ma K (He.ga K "Wane") "phase_of") (fdA K (He.ma K (He.ga K "Wane") "phase_of")) := T.defD 66 (d := d_Wane_phase_of) rfl
theorem b_Wane_phase_of : Binds K (fdA K (He.ma K (He.ga K "Wane") "phase_of")) ["self", "since"] [] := (F_Wane_phase_of T).bindsN fun _ _ _ _ _ _ us hl => match us, hl with | [_, _], _ => rfl
theorem F_Body_init : FunD K "__init__" "Body.__init__" (defArgs s_Body_init) (defBody s_Body_init) (defScope s_Body_init) [] [] (He.ma K (He.ga K "Body") "__init__") (fdA K (He.ma K (He.ga K "Body") "__init__")) := T.defD 67 (d := d_Body_init) rfl
theorem b_Body_init : Binds K (fdA K (He.ma K (He.ga K "Body") "__init__")) ["self", "name", "kin", "wane", "force"] [] := (F_Body_init T).bindsN fun _ _ _ _ _ _ us hl => match us, hl with | [_, _, _, _, _], _ => rfl
theorem F_Body_twin : FunD K "twin" "Body.twin" (defArgs s_Body_twin) (defBody s_Body_twin) (defScope s_Body_twin) [] [] (He.ma K (He.ga K "Body") "twin") (fdA K (He.ma K (He.ga K "Body") "twin")) := T.defD 68 (d := d_Body_twin) rfl
theorem b_Body_twin : Binds K (fdA K (He.ma K (He.ga K "Body") "twin")) ["self"] [] := (F_Body_twin T).bindsN fun _ _ _ _ _ _ us hl => match us, hl with | [_], _ => rfl
theorem F_Scene_init : FunD K "__init__" "Scene.__init__" (defArgs s_Scene_init) (defBody s_Scene_init) (defScope s_Scene_init) [] [] (He.ma K (He.ga K "Scene") "__init__") (fdA K (He.ma K (He.ga K "Scene") "__init__")) := T.defD 69 (d := d_Scene_init) rfl
theorem b_Scene_init : Binds K (fdA K (He.ma K (He.ga K "Scene") "__init__")) ["self", "holds", "presses", "grains", "fades"] [] := (F_Scene_init T).bindsN fun _ _ _ _ _ _ us hl => match us, hl with | [_, _, _, _, _], _ => rfl
theorem F_Scene_twin : FunD K "twin" "Scene.twin" (defArgs s_Scene_twin) (defBody s_Scene_twin) (defScope s_Scene_twin) [] [] (He.ma K (He.ga K "Scene") "twin") (fdA K (He.ma K (He.ga K "Scene") "twin")) := T.defD 70 (d := d_Scene_twin) rfl
theorem b_Scene_twin : Binds K (fdA K (He.ma K (He.ga K "Scene") "twin")) ["self"] [] := (F_Scene_twin T).bindsN fun _ _ _ _ _ _ us hl => match us, hl with | [_], _ => rfl
theorem F_Scene_state : FunD K "state" "Scene.state" (defArgs s_Scene_state) (defBody s_Scene_state) (defScope s_Scene_state) [] [] (He.ma K (He.ga K "Scene") "state") (fdA K (He.ma K (He.ga K "Scene") "state")) := T.defD 71 (d := d_Scene_state) rfl
theorem b_Scene_state : Binds K (fdA K (He.ma K (He.ga K "Scene") "state")) ["self"] [] := (F_Scene_state T).bindsN fun _ _ _ _ _ _ us hl => match us, hl with | [_], _ => rfl
theorem F_Store_init : FunD K "__init__" "Store.__init__" (defArgs s_Store_init) (defBody s_Store_init) (defScope s_Store_init) [] [("stirs", .non), ("grain", .int 0), ("fade", .int 1)] (He.ma K (He.ga K "Store") "__init__") (fdA K (He.ma K (He.ga K "Store") "__init__")) := T.defD 72 (d := d_Store_init) rfl
theorem F_Store_body_of : FunD K "body_of" "Store.body_of" (defArgs s_Store_body_of) (defBody s_Store_body_of) (defScope s_Store_body_of) [] [] (He.ma K (He.ga K "Store") "body_of") (fdA K (He.ma K (He.ga K "Store") "body_of")) := T.defD 73 (d := d_Store_body_of) rfl
theorem b_Store_body_of : Binds K (fdA K (He.ma K (He.ga K "Store") "body_of")) ["self", "name"] [] := (F_Store_body_of T).bindsN fun _ _ _ _ _ _ us hl => match us, hl with | [_, _], _ => rfl
theorem F_Store_put : FunD K "put" "Store.put" (defArgs s_Store_put) (defBody s_Store_put) (defScope s_Store_put) [] [] (He.ma K (He.ga K "Store") "put") (fdA K (He.ma K (He.ga K "Store") "put")) := T.defD 74 (d := d_Store_put) rfl
theorem b_Store_put : Binds K (fdA K (He.ma K (He.ga K "Store") "put")) ["self", "name", "sort", "wane", "strength"] [] := (F_Store_put T).bindsN fun _ _ _ _ _ _ us hl => match us, hl with | [_, _, _, _, _], _ => rfl
theorem F_Store_hire : FunD K "hire" "Store.hire" (defArgs s_Store_hire) (defBody s_Store_hire) (defScope s_Store_hire) [] [] (He.ma K (He.ga K "Store") "hire") (fdA K (He.ma K (He.ga K "Store") "hire")) := T.defD 75 (d := d_Store_hire) rfl
theorem b_Store_hire : Binds K (fdA K (He.ma K (He.ga K "Store") "hire")) ["self", "name", "hours"] [] := (F_Store_hire T).bindsN fun _ _ _ _ _ _ us hl => match us, hl with | [_, _, _], _ => rfl
theorem F_Store_dismiss : FunD K "dismiss" "Store.dismiss" (defArgs s_Store_dismiss) (defBody s_Store_dismiss) (defScope s_Store_dismiss) [] [] (He.ma K (He.ga K "Store") "dismiss") (fdA K (He.ma K (He.ga K "Store") "dismiss")) := T.defD 76 (d := d_Store_dismiss) rfl
theorem b_Store_dismiss : Binds K (fdA K (He.ma K (He.ga K "Store") "dismiss")) ["self", "number"] [] := (F_Store_dismiss T).bindsN fun _ _ _ _ _ _ us hl => match us, hl with | [_, _], _ => rfl
theorem F_Store_pass_on : FunD K "pass_on" "Store.pass_on" (defArgs s_Store_pass_on) (defBody s_Store_pass_on) (defScope s_Store_pass_on) [] [] (He.ma K (He.ga K "Store") "pass_on") (fdA K (He.ma K (He.ga K "Store") "pass_on")) := T.defD 77 (d := d_Store_pass_on) rfl
theorem b_Store_pass_on : Binds K (fdA K (He.ma K (He.ga K "Store") "pass_on")) ["self", "turns"] [] := (F_Store_pass_on T).bindsN fun _ _ _ _ _ _ us hl => match us, hl with | [_, _], _ => rfl
theorem F_Store_now : FunD K "now" "Store.now" (defArgs s_Store_now) (defBody s_Store_now) (defScope s_Store_now) [] [] (He.ma K (He.ga K "Store") "now") (fdA K (He.ma K (He.ga K "Store") "now")) := T.defD 78 (d := d_Store_now) rfl
theorem b_Store_now : Binds K (fdA K (He.ma K (He.ga K "Store") "now")) ["self"] [] := (F_Store_now T).bindsN fun _ _ _ _ _ _ us hl => match us, hl with | [_], _ => rfl
theorem F_Store_there : FunD K "there" "Store.there" (defArgs s_Store_there) (defBody s_Store_there) (defScope s_Store_there) [] [] (He.ma K (He.ga K "Store") "there") (fdA K (He.ma K (He.ga K "Store") "there")) := T.defD 79 (d := d_Store_there) rfl
theorem b_Store_there : Binds K (fdA K (He.ma K (He.ga K "Store") "there")) ["self"] [] := (F_Store_there T).bindsN fun _ _ _ _ _ _ us hl => match us, hl with | [_], _ => rfl
theorem F_Store_thing : FunD K "thing" "Store.thing" (defArgs s_Store_thing) (defBody s_Store_thing) (defScope s_Store_thing) [] [] (He.ma K (He.ga K "Store") "thing") (fdA K (He.ma K (He.ga K "Store") "thing")) := T.defD 80 (d := d_Store_thing) rfl
theorem b_Store_thing : Binds K (fdA K (He.ma K (He.ga K "Store") "thing")) ["self", "name"] [] := (F_Store_thing T).bindsN fun _ _ _ _ _ _ us hl => match us, hl with | [_, _], _ => rfl
theorem F_Store_wane_of : FunD K "wane_of" "Store.wane_of" (defArgs s_Store_wane_of) (defBody s_Store_wane_of) (defScope s_Store_wane_of) [] [] (He.ma K (He.ga K "Store") "wane_of") (fdA K (He.ma K (He.ga K "Store") "wane_of")) := T.defD 81 (d := d_Store_wane_of) rfl
theorem b_Store_wane_of : Binds K (fdA K (He.ma K (He.ga K "Store") "wane_of")) ["self", "name"] [] := (F_Store_wane_of T).bindsN fun _ _ _ _ _ _ us hl => match us, hl with | [_, _], _ => rfl
theorem F_Store_askers : FunD K "askers" "Store.askers" (defArgs s_Store_askers) (defBody s_Store_askers) (defScope s_Store_askers) [] [] (He.ma K (He.ga K "Store") "askers") (fdA K (He.ma K (He.ga K "Store") "askers")) := T.defD 82 (d := d_Store_askers) rfl
theorem b_Store_askers : Binds K (fdA K (He.ma K (He.ga K "Store") "askers")) ["self"] [] := (F_Store_askers T).bindsN fun _ _ _ _ _ _ us hl => match us, hl with | [_], _ => rfl
theorem F_Store_mender : FunD K "mender" "Store.mender" (defArgs s_Store_mender) (defBody s_Store_mender) (defScope s_Store_mender) [] [] (He.ma K (He.ga K "Store") "mender") (fdA K (He.ma K (He.ga K "Store") "mender")) := T.defD 83 (d := d_Store_mender) rfl
theorem b_Store_mender : Binds K (fdA K (He.ma K (He.ga K "Store") "mender")) ["self"] [] := (F_Store_mender T).bindsN fun _ _ _ _ _ _ us hl => match us, hl with | [_], _ => rfl
theorem F_Store_state : FunD K "state" "Store.state" (defArgs s_Store_state) (defBody s_Store_state) (defScope s_Store_state) [] [] (He.ma K (He.ga K "Store") "state") (fdA K (He.ma K (He.ga K "Store") "state")) := T.defD 84 (d := d_Store_state) rfl
theorem b_Store_state : Binds K (fdA K (He.ma K (He.ga K "Store") "state")) ["self"] [] := (F_Store_state T).bindsN fun _ _ _ _ _ _ us hl => match us, hl with | [_], _ => rfl
theorem F_Store_copied : FunD K "copied" "Store.copied" (defArgs s_Store_copied) (defBody s_Store_copied) (defScope s_Store_copied) [] [] (He.ma K (He.ga K "Store") "copied") (fdA K (He.ma K (He.ga K "Store") "copied")) := T.defD 85 (d := d_Store_copied) rfl
theorem b_Store_copied : Binds K (fdA K (He.ma K (He.ga K "Store") "copied")) ["self"] [] := (F_Store_copied T).bindsN fun _ _ _ _ _ _ us hl => match us, hl with | [_], _ => rfl
omit T
theorem sc_is_whole : FnScope ["thing"] ["thing"] (defScope s_is_whole) := ⟨rfl, rfl, rfl, by decide +kernel, rfl, by decide +kernel, by decide +kernel⟩
theorem sc_is_within : FnScope ["thing", "least", "most"] ["thing", "least", "most"] (defScope s_is_within) := ⟨rfl, rfl, rfl, by decide +kernel, rfl, by decide +kernel, by decide +kernel⟩
theorem sc_is_name : FnScope ["thing", "sign"] ["thing"] (defScope s_is_name) := ⟨rfl, rfl, rfl, by decide +kernel, rfl, by decide +kernel, by decide +kernel⟩
theorem sc_is_sort : FnScope ["thing"] ["thing"] (defScope s_is_sort) := ⟨rfl, rfl, rfl, by decide +kernel, rfl, by decide +kernel, by decide +kernel⟩
theorem sc_is_strength : FnScope ["thing"] ["thing"] (defScope s_is_strength) := ⟨rfl, rfl, rfl, by decide +kernel, rfl, by decide +kernel, by decide +kernel⟩
theorem sc_is_size : FnScope ["thing"] ["thing"] (defScope s_is_size) := ⟨rfl, rfl, rfl, by decide +kernel, rfl, by decide +kernel, by decide +kernel⟩
theorem sc_is_shift : FnScope ["thing"] ["thing"] (defScope s_is_shift) := ⟨rfl, rfl, rfl, by decide +kernel, rfl, by decide +kernel, by decide +kernel⟩
theorem sc_is_room : FnScope ["thing"] ["thing"] (defScope s_is_room) := ⟨rfl, rfl, rfl, by decide +kernel, rfl, by decide +kernel, by decide +kernel⟩
theorem sc_is_moment : FnScope ["thing"] ["thing"] (defScope s_is_moment) := ⟨rfl, rfl, rfl, by decide +kernel, rfl, by decide +kernel, by decide +kernel⟩
theorem sc_are_hours : FnScope ["thing", "hour", "k"] ["thing"] (defScope s_are_hours) := ⟨rfl, rfl, rfl, by decide +kernel, rfl, by decide +kernel, by decide +kernel⟩
theorem sc_is_step : FnScope ["thing"] ["thing"] (defScope s_is_step) := ⟨rfl, rfl, rfl, by decide +kernel, rfl, by decide +kernel, by decide +kernel⟩
theorem sc_is_head : FnScope ["thing", "one"] ["thing"] (defScope s_is_head) := ⟨rfl, rfl, rfl, by decide +kernel, rfl, by decide +kernel, by decide +kernel⟩
theorem sc_is_tail : FnScope ["thing", "one"] ["thing"] (defScope s_is_tail) := ⟨rfl, rfl, rfl, by decide +kernel, rfl, by decide +kernel, by decide +kernel⟩
theorem sc_turned : FnScope ["wane", "strength", "since", "by", "take"] ["wane", "strength", "since"] (defScope s_turned) := ⟨rfl, rfl, rfl, by decide +kernel, rfl, by decide +kernel, by decide +kernel⟩
theorem sc_trace_of : FnScope ["scene", "name", "amount", "then"] ["scene", "name"] (defScope s_trace_of) := ⟨rfl, rfl, rfl, by decide +kernel, rfl, by decide +kernel, by decide +kernel⟩
theorem sc_goes : FnScope ["scene", "body", "word", "amount"] ["scene", "body", "word"] (defScope s_goes) := ⟨rfl, rfl, rfl, by decide +kernel, rfl, by decide +kernel, by decide +kernel⟩
theorem sc_lift_body : FnScope ["body", "by", "notes", "cap"] ["body", "by", "notes"] (defScope s_lift_body) := ⟨rfl, rfl, rfl, by decide +kernel, rfl, by decide +kernel, by decide +kernel⟩
theorem sc_lower_body : FnScope ["scene", "body", "force", "word", "notes"] ["scene", "body", "force", "word", "notes"] (defScope s_lower_body) := ⟨rfl, rfl, rfl, by decide +kernel, rfl, by decide +kernel, by decide +kernel⟩
theorem sc_ask_for : FnScope ["scene", "name", "notes", "asked", "press", "other", "body"] ["scene", "name", "notes"] (defScope s_ask_for) := ⟨rfl, rfl, rfl, by decide +kernel, rfl, by decide +kernel, by decide +kernel⟩
theorem sc_total_of : FnScope ["scene", "spot", "body"] ["scene", "spot"] (defScope s_total_of) := ⟨rfl, rfl, rfl, by decide +kernel, rfl, by decide +kernel, by decide +kernel⟩
theorem sc_weakest : FnScope ["bodies", "best", "body"] ["bodies"] (defScope s_weakest) := ⟨rfl, rfl, rfl, by decide +kernel, rfl, by decide +kernel, by decide +kernel⟩
theorem sc_crowd : FnScope ["scene", "notes", "spot", "body", "one"] ["scene", "notes"] (defScope s_crowd) := ⟨rfl, rfl, rfl, by decide +kernel, rfl, by decide +kernel, by decide +kernel⟩
theorem sc_wane_all : FnScope ["scene", "notes", "name", "body", "by", "take"] ["scene", "notes"] (defScope s_wane_all) := ⟨rfl, rfl, rfl, by decide +kernel, rfl, by decide +kernel, by decide +kernel⟩
theorem sc_watched : FnScope ["scene", "weak", "body"] ["scene"] (defScope s_watched) := ⟨rfl, rfl, rfl, by decide +kernel, rfl, by decide +kernel, by decide +kernel⟩
theorem sc_one_turn : FnScope ["scene", "notes", "hour", "number", "name", "hours"] ["scene", "notes"] (defScope s_one_turn) := ⟨rfl, rfl, rfl, by decide +kernel, rfl, by decide +kernel, by decide +kernel⟩
theorem sc_go_on : FnScope ["scene", "turns", "k"] ["scene", "turns"] (defScope s_go_on) := ⟨rfl, rfl, rfl, by decide +kernel, rfl, by decide +kernel, by decide +kernel⟩
theorem sc_pass_scene : FnScope ["scene", "turns", "k"] ["scene", "turns"] (defScope s_pass_scene) := ⟨rfl, rfl, rfl, by decide +kernel, rfl, by decide +kernel, by decide +kernel⟩
theorem sc_are_rooms : FnScope ["thing", "one"] ["thing"] (defScope s_are_rooms) := ⟨rfl, rfl, rfl, by decide +kernel, rfl, by decide +kernel, by decide +kernel⟩
theorem sc_are_stirs : FnScope ["thing", "one"] ["thing"] (defScope s_are_stirs) := ⟨rfl, rfl, rfl, by decide +kernel, rfl, by decide +kernel, by decide +kernel⟩
theorem sc_need_asked : FnScope ["store", "names", "most", "name"] ["store", "names", "most"] (defScope s_need_asked) := ⟨rfl, rfl, rfl, by decide +kernel, rfl, by decide +kernel, by decide +kernel⟩
theorem sc_need_game : FnScope ["store", "names", "there", "name"] ["store", "names"] (defScope s_need_game) := ⟨rfl, rfl, rfl, by decide +kernel, rfl, by decide +kernel, by decide +kernel⟩
theorem sc_moves_of : FnScope ["store", "found", "name", "room", "sort", "strength", "since", "asked"] ["store"] (defScope s_moves_of) := ⟨rfl, rfl, rfl, by decide +kernel, rfl, by decide +kernel, by decide +kernel⟩
theorem sc_moved : FnScope ["store", "move", "later", "number"] ["store", "move"] (defScope s_moved) := ⟨rfl, rfl, rfl, by decide +kernel, rfl, by decide +kernel, by decide +kernel⟩
theorem sc_opened : FnScope ["store", "names", "most", "stores", "known", "ways", "here", "found", "move", "later", "there", "name", "state"] ["store", "names", "most"] (defScope s_opened) := ⟨rfl, rfl, rfl, by decide +kernel, rfl, by decide +kernel, by decide +kernel⟩
theorem sc_lost_within_turns : FnScope ["ways", "left", "found", "ahead", "place", "move", "to", "numbers", "queue", "one"] ["ways"] (defScope s_lost_within_turns) := ⟨rfl, rfl, rfl, by decide +kernel, rfl, by decide +kernel, by decide +kernel⟩
theorem sc_paper_of : FnScope ["states", "lost", "numbers", "rows", "place", "state"] ["states", "lost", "numbers"] (defScope s_paper_of) := ⟨rfl, rfl, rfl, by decide +kernel, rfl, by decide +kernel, by decide +kernel⟩
theorem sc_keep : FnScope ["store", "names", "most", "states", "ways", "lost", "kept", "place", "found", "move", "to", "begin", "moves", "numbers", "lead"] ["store", "names", "most"] (defScope s_keep) := ⟨rfl, rfl, rfl, by decide +kernel, rfl, by decide +kernel, by decide +kernel⟩
theorem sc_law_bag : FnScope ["_law_script", "_law_cell"] ["_law_script"] (defScope s_law_bag) := ⟨rfl, rfl, rfl, by decide +kernel, rfl, by decide +kernel, by decide +kernel⟩
theorem sc_law_take : FnScope ["_law_bag_here", "_law_many", "_law_cell", "_law_value", "_law_first", "_law_second"] ["_law_bag_here", "_law_many"] (defScope s_law_take) := ⟨rfl, rfl, rfl, by decide +kernel, rfl, by decide +kernel, by decide +kernel⟩
theorem sc_law_names : FnScope ["_law_bag_here", "_law_many", "_law_letters", "_law_size", "_law_base", "_law_k", "_law_at", "_law_turn", "_law_names_here"] ["_law_bag_here", "_law_many"] (defScope s_law_names) := ⟨rfl, rfl, rfl, by decide +kernel, rfl, by decide +kernel, by decide +kernel⟩
theorem sc_law_steps : FnScope ["_law_bag_here", "_law_many", "_law_found", "_law_k", "_law_by"] ["_law_bag_here", "_law_many"] (defScope s_law_steps) := ⟨rfl, rfl, rfl, by decide +kernel, rfl, by decide +kernel, by decide +kernel⟩
theorem sc_law_plan : FnScope ["_law_bag_here", "_law_bound", "_law_head", "_law_tail", "_law_top"] ["_law_bag_here", "_law_bound"] (defScope s_law_plan) := ⟨rfl, rfl, rfl, by decide +kernel, rfl, by decide +kernel, by decide +kernel⟩
theorem sc_law_made : FnScope ["_law_plan_here"] ["_law_plan_here"] (defScope s_law_made) := ⟨rfl, rfl, rfl, by decide +kernel, rfl, by decide +kernel, by decide +kernel⟩
theorem sc_law_world : FnScope ["_law_bag_here", "_law_many", "_law_bound", "_law_narrow", "_law_rooms", "_law_presses", "_law_k", "_law_things", "_law_name", "_law_plan_here"] ["_law_bag_here", "_law_many", "_law_bound"] (defScope s_law_world) := ⟨rfl, rfl, rfl, by decide +kernel, rfl, by decide +kernel, by decide +kernel⟩
theorem sc_law_store : FnScope ["_law_world_here", "_law_store_here", "_law_name", "_law_plan_here", "_law_sort", "_law_strength"] ["_law_world_here"] (defScope s_law_store) := ⟨rfl, rfl, rfl, by decide +kernel, rfl, by decide +kernel, by decide +kernel⟩
theorem sc_law_seen : FnScope ["_law_world_here", "_law_store_here", "_law_found", "_law_name"] ["_law_world_here", "_law_store_here"] (defScope s_law_seen) := ⟨rfl, rfl, rfl, by decide +kernel, rfl, by decide +kernel, by decide +kernel⟩
theorem sc_law_phase : FnScope ["_law_plan_here", "_law_since"] ["_law_plan_here", "_law_since"] (defScope s_law_phase) := ⟨rfl, rfl, rfl, by decide +kernel, rfl, by decide +kernel, by decide +kernel⟩
theorem sc_law_waned : FnScope ["_law_plan_here", "_law_strength", "_law_since", "_law_by", "_law_take_here"] ["_law_plan_here", "_law_strength", "_law_since"] (defScope s_law_waned) := ⟨rfl, rfl, rfl, by decide +kernel, rfl, by decide +kernel, by decide +kernel⟩
theorem sc_law_asked : FnScope ["_law_world_here", "_law_things", "_law_name", "_law_plan_here", "_law_room", "_law_sort", "_law_strength", "_law_since", "_law_stir", "_law_other", "_law_row"] ["_law_world_here", "_law_things", "_law_name"] (defScope s_law_asked) := ⟨rfl, rfl, rfl, by decide +kernel, rfl, by decide +kernel, by decide +kernel⟩
theorem sc_law_crowded : FnScope ["_law_world_here", "_law_things", "_law_place", "_law_here", "_law_name", "_law_least", "_law_one", "_law_row"] ["_law_world_here", "_law_things"] (defScope s_law_crowded) := ⟨rfl, rfl, rfl, by decide +kernel, rfl, by decide +kernel, by decide +kernel⟩
theorem sc_law_moved : FnScope ["_law_world_here", "_law_things", "_law_move", "_law_later", "_law_name", "_law_plan_here", "_law_room", "_law_sort", "_law_strength", "_law_since"] ["_law_world_here", "_law_things", "_law_move"] (defScope s_law_moved) := ⟨rfl, rfl, rfl, by decide +kernel, rfl, by decide +kernel, by decide +kernel⟩
theorem sc_law_moves : FnScope ["_law_things", "_law_rows", "_law_name", "_law_row"] ["_law_things"] (defScope s_law_moves) := ⟨rfl, rfl, rfl, by decide +kernel, rfl, by decide +kernel, by decide +kernel⟩
theorem sc_law_state : FnScope ["_law_things", "_law_rows", "_law_name", "_law_plan_here", "_law_room", "_law_sort", "_law_strength", "_law_since"] ["_law_things"] (defScope s_law_state) := ⟨rfl, rfl, rfl, by decide +kernel, rfl, by decide +kernel, by decide +kernel⟩
theorem sc_law_game : FnScope ["_law_world_here", "_law_things", "_law_names_here", "_law_limit", "_law_ways", "_law_left", "_law_here", "_law_state_here", "_law_move", "_law_later", "_law_name"] ["_law_world_here", "_law_things", "_law_names_here", "_law_limit"] (defScope s_law_game) := ⟨rfl, rfl, rfl, by decide +kernel, rfl, by decide +kernel, by decide +kernel⟩
theorem sc_law_lost : FnScope ["_law_ways", "_law_found", "_law_grown", "_law_state_here", "_law_move", "_law_to"] ["_law_ways"] (defScope s_law_lost) := ⟨rfl, rfl, rfl, by decide +kernel, rfl, by decide +kernel, by decide +kernel⟩
theorem sc_law_lossy : FnScope ["_law_bag_here", "_law_world_here", "_law_name", "_law_plan_here", "_law_sort", "_law_strength", "_law_up", "_law_steps_here", "_law_by", "_law_take_here", "_law_store_here", "_law_things", "_law_names_here"] ["_law_bag_here"] (defScope s_law_lossy) := ⟨rfl, rfl, rfl, by decide +kernel, rfl, by decide +kernel, by decide +kernel⟩
theorem sc_law_told : FnScope ["_law_store_here", "_law_move", "_law_number"] ["_law_store_here", "_law_move"] (defScope s_law_told) := ⟨rfl, rfl, rfl, by decide +kernel, rfl, by decide +kernel, by decide +kernel⟩
theorem sc_law_stays : FnScope ["_law_store_here", "_law_names_here", "_law_there", "_law_name"] ["_law_store_here", "_law_names_here"] (defScope s_law_stays) := ⟨rfl, rfl, rfl, by decide +kernel, rfl, by decide +kernel, by decide +kernel⟩
theorem sc_law_drawn : FnScope ["_law_bag_here", "_law_store_here", "_law_things", "_law_names_here", "_law_turns", "_law_here", "_law_turn", "_law_some"] ["_law_bag_here", "_law_store_here", "_law_things", "_law_names_here", "_law_turns"] (defScope s_law_drawn) := ⟨rfl, rfl, rfl, by decide +kernel, rfl, by decide +kernel, by decide +kernel⟩
theorem sc_law_longest : FnScope ["_law_world_here", "_law_store_here", "_law_things", "_law_names_here", "_law_lost_here", "_law_turns", "_law_here", "_law_turn", "_law_best", "_law_move", "_law_later", "_law_name", "_law_number"] ["_law_world_here", "_law_store_here", "_law_things", "_law_names_here", "_law_lost_here", "_law_turns"] (defScope s_law_longest) := ⟨rfl, rfl, rfl, by decide +kernel, rfl, by decide +kernel, by decide +kernel⟩
theorem sc_law : FnScope ["_law_script", "_law_bag_here", "_law_again", "_law_world_here", "_law_store_here", "_law_things", "_law_names_here", "_law_ways", "_law_lost_here", "_law_state_here", "_law_told_here", "_law_rows", "_law_row", "_law_turn"] ["_law_script"] (defScope s_law) := ⟨rfl, rfl, rfl, by decide +kernel, rfl, by decide +kernel, by decide +kernel⟩
theorem sc_Wane_init : FnScope ["self", "head", "tail", "cap", "lift", "anew"] ["self", "head", "tail", "cap", "lift", "anew"] (defScope s_Wane_init) := ⟨rfl, rfl, rfl, by decide +kernel, rfl, by decide +kernel, by decide +kernel⟩
theorem sc_Wane_cap : FnScope ["self"] ["self"] (defScope s_Wane_cap) := ⟨rfl, rfl, rfl, by decide +kernel, rfl, by decide +kernel, by decide +kernel⟩
theorem sc_Wane_lift : FnScope ["self"] ["self"] (defScope s_Wane_lift) := ⟨rfl, rfl, rfl, by decide +kernel, rfl, by decide +kernel, by decide +kernel⟩
theorem sc_Wane_is_anew : FnScope ["self"] ["self"] (defScope s_Wane_is_anew) := ⟨rfl, rfl, rfl, by decide +kernel, rfl, by decide +kernel, by decide +kernel⟩
theorem sc_Wane_coming : FnScope ["self", "since", "long"] ["self", "since"] (defScope s_Wane_coming) := ⟨rfl, rfl, rfl, by decide +kernel, rfl, by decide +kernel, by decide +kernel⟩
theorem sc_Wane_phase_of : FnScope ["self", "since", "long"] ["self", "since"] (defScope s_Wane_phase_of) := ⟨rfl, rfl, rfl, by decide +kernel, rfl, by decide +kernel, by decide +kernel⟩
theorem sc_Body_init : FnScope ["self", "name", "kin", "wane", "force"] ["self", "name", "kin", "wane", "force"] (defScope s_Body_init) := ⟨rfl, rfl, rfl, by decide +kernel, rfl, by decide +kernel, by decide +kernel⟩
theorem sc_Body_twin : FnScope ["self", "found"] ["self"] (defScope s_Body_twin) := ⟨rfl, rfl, rfl, by decide +kernel, rfl, by decide +kernel, by decide +kernel⟩
theorem sc_Scene_init : FnScope ["self", "holds", "presses", "grains", "fades"] ["self", "holds", "presses", "grains", "fades"] (defScope s_Scene_init) := ⟨rfl, rfl, rfl, by decide +kernel, rfl, by decide +kernel, by decide +kernel⟩
theorem sc_Scene_twin : FnScope ["self", "found", "name"] ["self"] (defScope s_Scene_twin) := ⟨rfl, rfl, rfl, by decide +kernel, rfl, by decide +kernel, by decide +kernel⟩
theorem sc_Scene_state : FnScope ["self", "found", "name", "body"] ["self"] (defScope s_Scene_state) := ⟨rfl, rfl, rfl, by decide +kernel, rfl, by decide +kernel, by decide +kernel⟩
theorem sc_Store_init : FnScope ["self", "rooms", "stirs", "grain", "fade", "presses"] ["self", "rooms", "stirs", "grain", "fade"] (defScope s_Store_init) := ⟨rfl, rfl, rfl, by decide +kernel, rfl, by decide +kernel, by decide +kernel⟩
theorem sc_Store_body_of : FnScope ["self", "name"] ["self", "name"] (defScope s_Store_body_of) := ⟨rfl, rfl, rfl, by decide +kernel, rfl, by decide +kernel, by decide +kernel⟩
theorem sc_Store_put : FnScope ["self", "name", "sort", "wane", "strength", "scene"] ["self", "name", "sort", "wane", "strength"] (defScope s_Store_put) := ⟨rfl, rfl, rfl, by decide +kernel, rfl, by decide +kernel, by decide +kernel⟩
theorem sc_Store_hire : FnScope ["self", "name", "hours"] ["self", "name", "hours"] (defScope s_Store_hire) := ⟨rfl, rfl, rfl, by decide +kernel, rfl, by decide +kernel, by decide +kernel⟩
theorem sc_Store_dismiss : FnScope ["self", "number", "kept", "doer"] ["self", "number"] (defScope s_Store_dismiss) := ⟨rfl, rfl, rfl, by decide +kernel, rfl, by decide +kernel, by decide +kernel⟩
theorem sc_Store_pass_on : FnScope ["self", "turns", "further"] ["self", "turns"] (defScope s_Store_pass_on) := ⟨rfl, rfl, rfl, by decide +kernel, rfl, by decide +kernel, by decide +kernel⟩
theorem sc_Store_now : FnScope ["self"] ["self"] (defScope s_Store_now) := ⟨rfl, rfl, rfl, by decide +kernel, rfl, by decide +kernel, by decide +kernel⟩
theorem sc_Store_there : FnScope ["self"] ["self"] (defScope s_Store_there) := ⟨rfl, rfl, rfl, by decide +kernel, rfl, by decide +kernel, by decide +kernel⟩
theorem sc_Store_thing : FnScope ["self", "name", "body"] ["self", "name"] (defScope s_Store_thing) := ⟨rfl, rfl, rfl, by decide +kernel, rfl, by decide +kernel, by decide +kernel⟩
theorem sc_Store_wane_of : FnScope ["self", "name"] ["self", "name"] (defScope s_Store_wane_of) := ⟨rfl, rfl, rfl, by decide +kernel, rfl, by decide +kernel, by decide +kernel⟩
theorem sc_Store_askers : FnScope ["self"] ["self"] (defScope s_Store_askers) := ⟨rfl, rfl, rfl, by decide +kernel, rfl, by decide +kernel, by decide +kernel⟩
theorem sc_Store_mender : FnScope ["self"] ["self"] (defScope s_Store_mender) := ⟨rfl, rfl, rfl, by decide +kernel, rfl, by decide +kernel, by decide +kernel⟩
theorem sc_Store_state : FnScope ["self"] ["self"] (defScope s_Store_state) := ⟨rfl, rfl, rfl, by decide +kernel, rfl, by decide +kernel, by decide +kernel⟩
theorem sc_Store_copied : FnScope ["self", "found"] ["self"] (defScope s_Store_copied) := ⟨rfl, rfl, rfl, by decide +kernel, rfl, by decide +kernel, by decide +kernel⟩
end
end Wh

/-! ## S1 -/
set_option Elab.async false
set_option linter.all false
set_option maxRecDepth 100000
set_option maxHeartbeats 2000000
namespace Wh
open PySem PySem.Spec PyProof.Rows L2
/-! ### dicts whose keys are states -/
abbrev St4 := Str × Int × Int × Int
abbrev AS := List St4
def key4 (t : St4) : NestedKey := .tup [.text t.1, .num t.2.1, .num t.2.2.1, .num t.2.2.2]
def keyS (s : AS) : NestedKey := .tup (s.map key4)
theorem key4_inj {a b : St4} (h : key4 a = key4 b) : a = b := by
  obtain ⟨a1, a2, a3, a4⟩ := a
  obtain ⟨b1, b2, b3, b4⟩ := b
  simp only [key4, NestedKey.tup.injEq, List.cons.injEq, NestedKey.text.injEq, NestedKey.num.injEq, and_true] at h
  obtain ⟨h1, h2, h3, h4⟩ := h
  rw [h1, h2, h3, h4]
theorem keyS_inj : ∀ {a b : AS}, keyS a = keyS b → a = b := by
  intro a b h
  simp only [keyS, NestedKey.tup.injEq] at h
  induction a generalizing b with
  | nil => cases b with
    | nil => rfl
    | cons y ys => simp at h
  | cons x xs ih => cases b with
    | nil => simp at h
    | cons y ys =>
      simp only [List.map_cons, List.cons.injEq] at h
      rw [key4_inj h.1, ih h.2]
theorem depthAll_map : ∀ s : AS, NestedKey.depthAll (s.map key4) ≤ 2
  | [] => by simp [NestedKey.depthAll]
  | t :: r => by
    have := depthAll_map r
    rw [List.map_cons, NestedKey.depthAll]
    have h : (key4 t).depth ≤ 2 := by simp [key4, NestedKey.depth, NestedKey.depthAll]
    omega
theorem keyS_depth (s : AS) : (keyS s).depth ≤ 8 := by
  have := depthAll_map s
  unfold keyS
  rw [NestedKey.depth]
  omega
def v4 (t : St4) : List V := [.str t.1, .int t.2.1, .int t.2.2.1, .int t.2.2.2]
/-- the state s stands at a -/
def StAt (H : Hp) (a : Addr) (s : AS) : Prop := ∃ bs : List Addr, H a = some (.tup (bs.map V.ref)) ∧ Paired (fun b t => H b = some (.tup (v4 t))) bs s
/-- tuples stay -/
def Tups (H H' : Hp) : Prop := ∀ a xs, H a = some (.tup xs) → H' a = some (.tup xs)
theorem StAt.mono {H H' : Hp} {a : Addr} {s : AS} (h : StAt H a s) (k : Tups H H') : StAt H' a s := by
  obtain ⟨bs, e, p⟩ := h
  exact ⟨bs, k _ _ e, Paired.mapP p fun b t z => k _ _ z⟩
section
variable {X : Cx} {pins : List (Addr × Obj)} {σ : L2.St} {H : Hp} {s : Shared} {a d : Addr} {st : AS}
theorem nested4 (I : Inv X pins σ H s) {b : Addr} {t : St4} (h : H b = some (.tup (v4 t))) : NestedIs s.heap (key4 t) (.ref b) := by
  obtain ⟨z, its, r, o, e, c, n, dd⟩ := (show ObjOk X.prog X.w H s.heap b (.tup (v4 t)) from I.hok b _ h)
  refine NestedIs.tup e c dd ?_
  cases r with
  | cons r1 r => cases r with
    | cons r2 r => cases r with
      | cons r3 r => cases r with
        | cons r4 r =>
          cases r
          obtain ⟨t1, rfl⟩ := r1
          obtain ⟨t2, rfl⟩ := r2
          obtain ⟨t3, rfl⟩ := r3
          obtain ⟨t4, rfl⟩ := r4
          exact .cons (.text _ _) (.cons (.int _ _) (.cons (.int _ _) (.cons (.int _ _) .nil)))
theorem nestedAll (I : Inv X pins σ H s) : ∀ {bs : List Addr} {st : AS} {us : List Value}, Paired (fun b t => H b = some (.tup (v4 t))) bs st → Vals (bs.map V.ref) us → NestedAll s.heap (st.map key4) us
  | [], [], _, .nil, r => by cases r; exact .nil
  | b :: bs, t :: st, _, .cons h p, r => by
    cases r with
    | cons r1 r =>
      cases r1
      exact .cons (nested4 I h) (nestedAll I p r)
theorem StAt.is (I : Inv X pins σ H s) (h : StAt H a st) : (nestedKind X.prog X.w).is s.heap (keyS st) a := by
  obtain ⟨bs, e, p⟩ := h
  obtain ⟨z, its, r, o, e, c, n, dd⟩ := (show ObjOk X.prog X.w H s.heap a (.tup (bs.map V.ref)) from I.hok a _ e)
  exact ⟨NestedIs.tup e c dd (nestedAll I p r), keyS_depth st⟩
end
/-- entries: a state, its tuple's address, the value -/
abbrev NE := AS × Addr × V
def nkR (p : NE) (q : NestedKey × Addr × Value) : Prop := q.1 = keyS p.1 ∧ q.2.1 = p.2.1 ∧ RelV p.2.2 q.2.2
def nkB (P : Program) (w : World) (d : Addr) (xs : List NE) (h : Heap) : Prop := xs.length ≤ sizeLine ∧ (d == sysModules) = false ∧ ∃ ys, Paired nkR xs ys ∧ (ys.map (·.1)).Nodup ∧
  ∃ o es ep, h.get? d = some o ∧ o.ExactDict ∧ o.data = .dict es ep ∧ es.toList = ys.map (entryOfKey (nestedKind P w))
/-- a dict keyed by states stands at d -/
def nkD (P : Program) (w : World) (d : Addr) (xs : List NE) : HO := .ext (nkB P w d xs)
def NKeys (H : Hp) (xs : List NE) : Prop := ∀ e ∈ xs, StAt H e.2.1 e.1
theorem NKeys.mono {H H' : Hp} {xs : List NE} (h : NKeys H xs) (k : Tups H H') : NKeys H' xs := fun e he => (h e he).mono k
def valN (xs : List NE) (s : AS) : Option V := (xs.find? fun e => decide (e.1 = s)).map (·.2.2)
theorem nkB.obj {P : Program} {w : World} {d : Addr} {xs : List NE} {H : Hp} {h : Heap} (b : nkB P w d xs h) : ObjOk P w H h d (nkD P w d xs) := by
  refine ⟨b, ?_, fun h1 h2 b1 k => ?_⟩
  · obtain ⟨_, _, _, _, _, o, _, _, e, _⟩ := b
    exact ⟨o, e⟩
  · obtain ⟨z, s, ys, p, n, o, es, ep, e, r⟩ := b1
    exact ⟨z, s, ys, p, n, o, es, ep, k _ e, r⟩
theorem atKey_val {xs : List NE} {ys : List (NestedKey × Addr × Value)} (p : Paired nkR xs ys) (st : AS) : RelO (valN xs st) ((atKey ys (keyS st)).map (·.2)) := by
  induction p with
  | nil => exact True.intro
  | @cons x y xs ys r p ih =>
    obtain ⟨r1, r2, r3⟩ := r
    by_cases h : x.1 = st
    · have h2 : y.1 = keyS st := by rw [r1, h]
      simp only [valN, atKey, List.find?_cons, h, h2, decide_true, Option.map_some]
      exact r3
    · have h2 : ¬ y.1 = keyS st := fun e => h (keyS_inj (r1.symm.trans e))
      simp only [valN, atKey, List.find?_cons, h, h2, decide_false]
      exact ih
section
variable {X : Cx} {pins : List (Addr × Obj)} {σ : L2.St} {H : Hp} {s : Shared} {a d : Addr} {st : AS} {xs : List NE}
theorem nk_keys (I : Inv X pins σ H s) {xs : List NE} {ys : List (NestedKey × Addr × Value)} (p : Paired nkR xs ys) (hk : NKeys H xs) : ∀ y ∈ ys, (nestedKind X.prog X.w).is s.heap y.1 y.2.1 := by
  induction p with
  | nil => exact fun y hy => nomatch hy
  | @cons x y' xs ys r p ih =>
    intro y hy
    rcases List.mem_cons.mp hy with q | q
    · subst q
      have h1 := (hk x (List.mem_cons_self ..)).is I
      rw [r.1, r.2.1]
      exact h1
    · exact ih (fun e he => hk e (List.mem_cons_of_mem _ he)) y q
theorem nk_at (I : Inv X pins σ H s) (h : Rd H d (nkD X.prog X.w d xs)) (hk : NKeys H xs) : xs.length ≤ sizeLine ∧ (d == sysModules) = false ∧ ∃ ys, Paired nkR xs ys ∧ s.heap.DictOfH (nestedKind X.prog X.w) d ys := by
  obtain ⟨⟨z, sm, ys, p, n, o, es, ep, e, ex, dt, en⟩, _, _⟩ := h.ok I.hok
  exact ⟨z, sm, ys, p, o, es, ep, e, ex, dt, en, nk_keys I p hk, n⟩
def rNIn (P : Program) (w : World) (neg : Bool) : R2 := fun x y H Q => ∃ b d st xs, x = .ref b ∧ y = .ref d ∧ StAt H b st ∧ Rd H d (nkD P w d xs) ∧ NKeys H xs ∧ Q (.bl (if neg then !(valN xs st).isSome else (valN xs st).isSome)) H
theorem op_nin (hu : X.A.units + 64 < cLine) : OpR X (compareOp .In) (rNIn X.prog X.w false) := by
  intro pins s σ H x y v u Q I rx ry h
  obtain ⟨b, d, st, xs, rfl, rfl, hs, hd, hk, q⟩ := h
  cases rx
  cases ry
  obtain ⟨z, sm, ys, p, dd⟩ := nk_at I hd hk
  refine wpAny_in_heap (knd := nestedKind X.prog X.w) (by show X.A.units + 1 + 8 < cLine; omega) (hs.is I) sm dd ?_
  have e : (valN xs st).isSome = (atKey ys (keyS st)).isSome := by
    rw [(atKey_val p st).isSome_eq, Option.isSome_map]
  rw [← e]
  exact ⟨.bl _, H, I.tok _, rfl, q⟩
theorem op_nnotin (hu : X.A.units + 64 < cLine) : OpR X (compareOp .NotIn) (rNIn X.prog X.w true) := by
  intro pins s σ H x y v u Q I rx ry h
  obtain ⟨b, d, st, xs, rfl, rfl, hs, hd, hk, q⟩ := h
  cases rx
  cases ry
  obtain ⟨z, sm, ys, p, dd⟩ := nk_at I hd hk
  refine notIn_keyed (knd := nestedKind X.prog X.w) (kvs := pairsH ys) (by show X.A.units + 1 + 8 < cLine; omega) (hs.is I) sm ⟨ys, dd, rfl⟩ ?_
  have e : (valN xs st).isSome = (valueAt (pairsH ys) (keyS st)).isSome := by
    rw [(atKey_val p st).isSome_eq, valueAt_pairsH]
  rw [← e]
  exact ⟨.bl _, H, I.tok _, rfl, q⟩
def rNGet (P : Program) (w : World) : R2 := fun x y H Q => ∃ b d st xs v, x = .ref d ∧ y = .ref b ∧ StAt H b st ∧ Rd H d (nkD P w d xs) ∧ NKeys H xs ∧ valN xs st = some v ∧ Q v H
theorem ix_nk (hu : X.A.units + 64 < cLine) : IxR X (rNGet X.prog X.w) := by
  intro value slice pins s σ H x y v u Q I rx ry h hs
  obtain ⟨b, d, st, xs, z, rfl, rfl, hst, hd, hk, hv, q⟩ := h
  cases rx
  cases ry
  obtain ⟨zz, sm, ys, p, dd⟩ := nk_at I hd hk
  have r := atKey_val p st
  rw [hv] at r
  cases e : atKey ys (keyS st) with
  | none => rw [e] at r; exact r.elim
  | some pv =>
    rw [e] at r
    refine subscriptTail_builtinR (x := pv.2) dd.typeIs slot_dict_getitem.lookup
      (wpAny_getItem_heap (Q := fun r s' => r = pv.2 ∧ EP X pins σ Q r s') (knd := nestedKind X.prog X.w) (by show X.A.units + 1 + 8 < cLine; omega) (hst.is I) dd e ⟨rfl, ⟨z, H, I.tok _, r, q⟩⟩) hs
theorem pairedSnoc {α β : Type} {F : α → β → Prop} {a : α} {b : β} (r : F a b) : ∀ {xs : List α} {ys : List β}, Paired F xs ys → Paired F (xs ++ [a]) (ys ++ [b])
  | _, _, .nil => .cons r .nil
  | _, _, .cons q t => .cons q (pairedSnoc r t)
def rNSet (P : Program) (w : World) : V → V → V → Hp → (Hp → Prop) → Prop := fun o i v H Q => ∃ b d st xs, o = .ref d ∧ i = .ref b ∧ StAt H b st ∧ H d = some (nkD P w d xs) ∧ NKeys H xs ∧ valN xs st = none ∧ xs.length < sizeLine ∧ Q (upd H d (nkD P w d (xs ++ [(st, b, v)])))
theorem set_nk (hu : X.A.units + 64 < cLine) : PSet X (rNSet X.prog X.w) := by
  intro pins s σ H o i v ov iv u Q I ro ri rv h
  obtain ⟨b, d, st, xs, rfl, rfl, hst, hd, hk, hv, hz, q⟩ := h
  cases ro
  cases ri
  obtain ⟨zz, sm, ys, p, dd⟩ := nk_at I (.inl hd) hk
  have r := atKey_val p st
  rw [hv] at r
  have e : atKey ys (keyS st) = none := by
    have := RelO.none_of r
    exact Option.map_eq_none_iff.mp this
  have hl : xs.length = ys.length := Paired.length p
  refine wpAny_setItem_heap (knd := nestedKind X.prog X.w) (hsz := by omega) (by show X.A.units + 1 + 8 < cLine; omega) (hst.is I) dd fun h' hm' sb => ⟨_, ?_, q⟩
  rw [storedH_new e] at hm'
  obtain ⟨o', es', ep', e1, ex', dt', en', _, nd'⟩ := hm'
  refine I.write (x := d) (e := d) (by rw [hd]; exact True.intro) (.inl rfl) (fun c ob hc z => (sb.2 c hc).trans z) ⟨o', e1⟩ ?_
  refine nkB.obj ⟨by rw [List.length_append, List.length_singleton]; omega, sm, ys ++ [(keyS st, b, u)], pairedSnoc ⟨rfl, rfl, rv⟩ p, nd', o', es', ep', e1, ex', dt', en'⟩
/-- {}, to be keyed by states -/
def tDNewN (P : Program) (w : World) : TE := fun _ H Q => ∀ p, H p = none → Q (.ref p) (upd H p (nkD P w p []))
theorem pe_dnewN {pos : Pos} : PE X (.Dict [] [] pos) (tDNewN X.prog X.w) := ⟨fun pins s σ H Q I h =>
  wpAny_Dict_empty ⟨.ref s.heap.objs.size, _, I.laid (a := s.heap.objs.size) (o := nkD X.prog X.w s.heap.objs.size []) (t' := s.toks) (fun _ _ q => Heap.get?_push_of_some _ q) (Nat.le_refl _)
    (nkB.obj ⟨Nat.zero_le _, beq_eq_false_iff_ne.mpr (Ne.symm (Nat.ne_of_lt I.big)), [], .nil, List.nodup_nil, _, #[], 0, Heap.get?_push_size _ rfl, ⟨rfl, rfl, rfl⟩, rfl, rfl⟩), rfl, h _ (I.hok.fresh (Nat.le_refl _))⟩⟩
def rNLen (P : Program) (w : World) : List V → Hp → VK → Prop := fun vs H Q => ∃ d xs, vs = [.ref d] ∧ Rd H d (nkD P w d xs) ∧ NKeys H xs ∧ Q (.int ((xs.length : Nat) : Int)) H
theorem call_len_nk : CallR X (.builtin "len") (rNLen X.prog X.w) := by
  intro pins s σ H xs us Q I r h
  obtain ⟨p, kvs, rfl, hp, hk, q⟩ := h
  obtain ⟨u, rfl, rx⟩ := vals1 r
  obtain rfl : u = .ref p := rx
  obtain ⟨z, sm, ys, pr, dd⟩ := nk_at I hp hk
  have hl : kvs.length = ys.length := Paired.length pr
  refine call_len_dictH sm dd (by rw [← hl]; rw [sizeLine_eq] at z; omega) ?_
  rw [← hl]
  exact ⟨.int ((kvs.length : Nat) : Int), H, I.tok _, ⟨_, rfl⟩, q⟩
end
end Wh

/-! ## S1b -/
set_option Elab.async false
set_option linter.all false
set_option maxRecDepth 100000
set_option maxHeartbeats 2000000
namespace Wh
open PySem PySem.Spec PyProof.Rows L2
section
variable {X : Cx} {pins : List (Addr × Obj)} {σ : L2.St} {H : Hp} {s : Shared} {pos : Pos}
/-- a module's whole number, text -/
theorem pe_globI {x : Str} {i : Int} (hg : Gl X x) (hm : ∃ t, X.mg x = some (.int i t)) (hd : (x == ("__debug__" : Str)) = false := by decide) : PE X (.Name x pos) (tC (.int i)) := by
  obtain ⟨t, h⟩ := hm
  exact pe_glob hg h ⟨t, rfl⟩ hd
theorem pe_globS {x z : Str} (hg : Gl X x) (hm : ∃ t, X.mg x = some (.str z t)) (hd : (x == ("__debug__" : Str)) = false := by decide) : PE X (.Name x pos) (tC (.str z)) := by
  obtain ⟨t, h⟩ := hm
  exact pe_glob hg h ⟨t, rfl⟩ hd
/-- xs[i] read for xs[i] += e -/
theorem get_list : PGet X (rIxL X.K) := by
  intro pins s σ H x y v u Q I rx ry h
  obtain ⟨p, xs, i, z, rfl, rfl, hq, he, q⟩ := h
  cases rx
  obtain ⟨t, rfl⟩ := ry
  obtain ⟨its, r, pl, hz⟩ := I.list hq
  obtain ⟨j, h1, h2, h3, h4, h5⟩ := atI_get he
  obtain ⟨w, ew, rw'⟩ := r.get h2
  have hl := r.length
  have hn := line63
  have fin : EP X pins σ Q w s := ⟨z, H, I, rw', q⟩
  by_cases h0 : 0 ≤ i
  · have hj : i.toNat = j := by
      rw [seqIndex_of h0 h5] at h1
      exact Option.some.inj h1
    exact wpAny_getItem_list pl.isList h0 (by omega) (by rw [hj]; simpa using ew) fin
  · have hj : (i + (its.toArray.size : Int)).toNat = j := by
      rw [seqIndex_neg (by omega) h4] at h1
      rw [List.size_toArray, ← hl]
      exact Option.some.inj h1
    exact wpAny_getItem_list_neg pl.isList (by omega) (by rw [List.size_toArray] <;> omega) (by omega) (by rw [hj]; simpa using ew) fin
/-- xs != [] of lists of anything -/
def rNeNil (K : PySem.W.Frag) : R2 := fun x y H Q => ∃ a b xs, x = .ref a ∧ y = .ref b ∧ SqL K H a xs ∧ SqL K H b [] ∧ Q (.bl (!xs.isEmpty)) H
theorem op_neNil (hu : X.A.units + 64 < cLine) : OpR X (compareOp .NotEq) (rNeNil X.K) := by
  intro pins s σ H x y v u Q I rx ry h
  obtain ⟨a, b, xs, rfl, rfl, ha, hb, q⟩ := h
  cases rx
  cases ry
  obtain ⟨its, r, pl, hz⟩ := I.list ha
  obtain ⟨its2, r2, pl2, hz2⟩ := I.list hb
  cases r2
  show wpAny _ _ (richCompare .NotEq (.ref a) (.ref b)) _ _ _
  cases xs with
  | nil =>
    cases r
    refine SeqAt.RcNeAt.lists (e := fun _ => true) pl.isList pl2.isList rfl (by omega) (fun i hi => ?_) X.prog X.w _ _ ?_
    · exact absurd hi (by simp)
    · exact ⟨.bl false, H, I, rfl, q⟩
  | cons z zs =>
    cases r with
    | cons r1 r =>
      refine SeqAt.RcNeAt.lists_lengths pl.isList pl2.isList (by simp) (by omega) X.prog X.w _ _ ?_
      exact ⟨.bl true, H, I, rfl, q⟩
/-- s * n, n one of 0 and 1 -/
def rMulS : R2 := fun x y H Q => ∃ z n, x = .str z ∧ y = .int n ∧ (n = 0 ∨ n = 1) ∧ Q (.str (if n = 0 then Str.empty else z)) H
theorem op_mulS : OpR X (binaryOp .Mult) rMulS := by
  intro pins s σ H x y v u Q I rx ry h
  obtain ⟨z, n, rfl, rfl, hn, q⟩ := h
  obtain ⟨t, rfl⟩ := rx
  obtain ⟨t', rfl⟩ := ry
  rcases hn with rfl | rfl
  · exact PySem.P.mul_str_none (by decide) (by decide) ⟨.str Str.empty, H, I.tok _, ⟨_, rfl⟩, q⟩
  · refine PySem.P.mul_str (by decide) (fun _ h => absurd h (by simp)) (fun _ h => absurd h (by simp)) ?_
    rw [if_neg (by decide), if_pos (by simp)]
    exact ⟨.str z, H, I, ⟨_, rfl⟩, q⟩
end
end Wh

/-! ## S1c -/
set_option Elab.async false
set_option linter.all false
set_option maxRecDepth 100000
set_option maxHeartbeats 2000000
namespace Wh
open PySem PySem.Spec PyProof.Rows L2 PySem.W
section
variable {X : Cx} {pins : List (Addr × Obj)} {σ : L2.St} {H : Hp} {s : Shared} {pos : Pos}
/-! ### ==, != of data with a Lean type -/
def rEqT (α : Type) [DecidableEq α] [Datum α] (K : PySem.W.Frag) (neg : Bool) : R2 := fun x y H Q => ∃ a b : α, Dp K H x (Datum.toD a) ∧ Dp K H y (Datum.toD b) ∧ Q (.bl (if neg then decide (a ≠ b) else decide (a = b))) H
theorem op_eqT {α : Type} [DecidableEq α] [Datum α] (hu : X.A.units + 64 < cLine) (hd : Datum.depth α ≤ 60) : OpR X (compareOp .Eq) (rEqT α X.K false) := by
  intro pins s σ H x y v u Q I rx ry h
  obtain ⟨a, b, ha, hb, q⟩ := h
  exact eq_datum (x := a) (y := b) (Dp.reads I _ x v ha rx) (Dp.reads I _ y u hb ry) (by omega) ⟨.bl _, H, I, rfl, q⟩
theorem op_neT {α : Type} [DecidableEq α] [Datum α] (hu : X.A.units + 64 < cLine) (hd : Datum.depth α ≤ 60) : OpR X (compareOp .NotEq) (rEqT α X.K true) := by
  intro pins s σ H x y v u Q I rx ry h
  obtain ⟨a, b, ha, hb, q⟩ := h
  exact ne_datum (x := a) (y := b) (Dp.reads I _ x v ha rx) (Dp.reads I _ y u hb ry) (by omega) ⟨.bl _, H, I, rfl, q⟩
/-- a state as data -/
abbrev TSt := Tup (T4 Str Int Int Int)
def toT4 (t : St4) : T4 Str Int Int Int := ⟨t.1, t.2.1, t.2.2.1, t.2.2.2⟩
def toTS (s : AS) : TSt := ⟨s.map toT4⟩
theorem toT4_inj {a b : St4} (h : toT4 a = toT4 b) : a = b := by
  obtain ⟨a1, a2, a3, a4⟩ := a
  obtain ⟨b1, b2, b3, b4⟩ := b
  simp only [toT4, T4.mk.injEq] at h
  obtain ⟨h1, h2, h3, h4⟩ := h
  rw [h1, h2, h3, h4]
theorem toTS_inj : ∀ {a b : AS}, toTS a = toTS b → a = b := by
  intro a b h
  simp only [toTS, Tup.mk.injEq] at h
  induction a generalizing b with
  | nil => cases b with
    | nil => rfl
    | cons y ys => simp at h
  | cons x xs ih => cases b with
    | nil => simp at h
    | cons y ys =>
      simp only [List.map_cons, List.cons.injEq] at h
      rw [toT4_inj h.1, ih h.2]
theorem dp4 {K : PySem.W.Frag} {b : Addr} {t : St4} (h : H b = some (.tup (v4 t))) : Dp K H (.ref b) (Datum.toD (toT4 t)) :=
  .tup (SqT.of h) (.cons (.str _) (.cons (.int _) (.cons (.int _) (.cons (.int _) .nil))))
theorem dpAll4 {K : PySem.W.Frag} : ∀ {bs : List Addr} {st : AS}, Paired (fun b t => H b = some (.tup (v4 t))) bs st → DpAll K H (bs.map V.ref) ((st.map toT4).map Datum.toD)
  | [], [], .nil => .nil
  | b :: bs, t :: st, .cons h p => .cons (dp4 h) (dpAll4 p)
theorem StAt.dp {K : PySem.W.Frag} {a : Addr} {st : AS} (h : StAt H a st) : Dp K H (.ref a) (Datum.toD (toTS st)) := by
  obtain ⟨bs, e, p⟩ := h
  exact .tup (SqT.of e) (dpAll4 p)
def rEqS (K : PySem.W.Frag) (neg : Bool) : R2 := fun x y H Q => ∃ a b st st', x = .ref a ∧ y = .ref b ∧ StAt H a st ∧ StAt H b st' ∧ Q (.bl (if neg then decide (st ≠ st') else decide (st = st'))) H
theorem dec_ts {a b : AS} : decide (toTS a = toTS b) = decide (a = b) := by
  by_cases h : a = b
  · rw [h, decide_eq_true rfl, decide_eq_true rfl]
  · rw [decide_eq_false h, decide_eq_false fun e => h (toTS_inj e)]
theorem op_eqS (hu : X.A.units + 64 < cLine) : OpR X (compareOp .Eq) (rEqS X.K false) := by
  intro pins s σ H x y v u Q I rx ry h
  obtain ⟨a, b, st, st', rfl, rfl, ha, hb, q⟩ := h
  refine op_eqT (α := TSt) hu (by decide) pins s σ H _ _ v u Q I rx ry ⟨toTS st, toTS st', ha.dp, hb.dp, ?_⟩
  show Q (.bl (decide (toTS st = toTS st'))) H
  rw [dec_ts]
  exact q
theorem op_neS (hu : X.A.units + 64 < cLine) : OpR X (compareOp .NotEq) (rEqS X.K true) := by
  intro pins s σ H x y v u Q I rx ry h
  obtain ⟨a, b, st, st', rfl, rfl, ha, hb, q⟩ := h
  refine op_neT (α := TSt) hu (by decide) pins s σ H _ _ v u Q I rx ry ⟨toTS st, toTS st', ha.dp, hb.dp, ?_⟩
  show Q (.bl (decide (toTS st ≠ toTS st'))) H
  have e : decide (toTS st ≠ toTS st') = decide (st ≠ st') := by rw [decide_not, decide_not, dec_ts]
  rw [e]
  exact q
theorem erase_mapG {α β : Type} {f : α → β} : ∀ (l : List α) (j : Nat), (l.map f).eraseIdx j = (l.eraseIdx j).map f
  | [], _ => rfl
  | _ :: _, 0 => rfl
  | x :: xs, j + 1 => by
    show f x :: (xs.map f).eraseIdx j = f x :: (xs.eraseIdx j).map f
    rw [erase_mapG xs j]
theorem room_d {α : Type} [DecidableEq α] [Datum α] {u : Nat} (hd : Datum.depth α ≤ 60) (hu : u + 64 < cLine) : u + 1 + Datum.depth α < cLine := by omega
/-! ### max(.., default=0), max of texts, remove -/
def maxD0 : List Int → Int
  | [] => 0
  | n :: ns => ns.foldl max n
def rMaxD (K : PySem.W.Frag) : List V → List V → Hp → VK → Prop := fun vs zs H Q => ∃ (a : Addr) (ns : List Int), vs = [V.ref a] ∧ zs = [.int 0] ∧ SqL K H a (ns.map V.int) ∧ Q (.int (maxD0 ns)) H
theorem maxOf_int (n : Int) (ns : List Int) : maxOf n ns = ns.foldl max n := by
  have e : ∀ (n : Int) (ns : List Int), ns.foldl (fun a y => if DatumOrd.lt a y = true then y else a) n = ns.foldl max n := by
    intro n ns
    induction ns generalizing n with
    | nil => rfl
    | cons k r ih =>
      rw [List.foldl_cons, List.foldl_cons, ih]
      congr 1
      show (if decide (n < k) = true then k else n) = max n k
      by_cases h : n < k
      · rw [if_pos (decide_eq_true h)]; omega
      · rw [if_neg (by simpa using h)]; omega
  exact e n ns
theorem cr_maxD (hc : X.calm = true) (hu : X.A.units + 64 < cLine) : CallRK X (.builtin "max") [Str.ofString "default"] (rMaxD X.K) := by
  intro pins s σ H xs zs us ws Q I r rz h
  obtain ⟨a, ns, rfl, rfl, hs, q⟩ := h
  obtain rfl := Vals.ref1 r
  obtain ⟨w1, rfl, t, rfl⟩ := vals1 rz
  obtain ⟨its, rv, pl, hz⟩ := I.list hs
  show wpAny _ _ (call (.builtin "max") [.ref a] [(Str.ofString "default", .int 0 t)]) _ _ _
  refine max_list_datum_default (α := Int) (xs := ns) (I.ok.hd hc) pl.isList (HoldAll.of_ints (by simpa using ints_of_vals rv)) (room_d (α := Int) (by decide) hu) (fun e h' tk k => ?_) fun y ys i v h' tk e hi hv k => ?_
  · subst e
    exact ⟨.int 0, H, I.kept k, ⟨t, rfl⟩, q⟩
  · subst e
    obtain ⟨t2, rfl⟩ := int_of_holds hv
    refine ⟨.int _, H, I.kept k, ⟨t2, rfl⟩, ?_⟩
    rw [maxOf_int]
    exact q
/-- max of texts: it is there, none is greater -/
def strLt (a b : Str) : Prop := a.cps.toList < b.cps.toList
instance (a b : Str) : Decidable (strLt a b) := inferInstanceAs (Decidable (a.cps.toList < b.cps.toList))
def rMaxS (K : PySem.W.Frag) : List V → Hp → VK → Prop := fun vs H Q => ∃ (a : Addr) (x : Str) (xs : List Str), vs = [V.ref a] ∧ SqL K H a ((x :: xs).map V.str) ∧ Q (.str (xs.foldl (fun m y => if strLt m y then y else m) x)) H
theorem maxOf_str (x : Str) (xs : List Str) : maxOf x xs = xs.foldl (fun m y => if strLt m y then y else m) x := by
  unfold maxOf
  congr 1
  funext m y
  show (if decide (m.cps.toList < y.cps.toList) = true then y else m) = if strLt m y then y else m
  by_cases h : strLt m y
  · rw [if_pos h, if_pos (decide_eq_true (show m.cps.toList < y.cps.toList from h))]
  · rw [if_neg h, if_neg (fun z => h (show m.cps.toList < y.cps.toList from of_decide_eq_true z))]
theorem cr_maxS (hc : X.calm = true) (hu : X.A.units + 64 < cLine) : CallR X (.builtin "max") (rMaxS X.K) := by
  intro pins s σ H xs us Q I r h
  obtain ⟨a, x, ys, rfl, hs, q⟩ := h
  obtain rfl := Vals.ref1 r
  obtain ⟨its, rv, pl, hz⟩ := I.list hs
  refine max_list_datum (α := Str) (x := x) (xs := ys) (I.ok.hd hc) pl.isList (HoldAll.of_strs (by simpa using strs_of_vals rv)) (room_d (α := Str) (by decide) hu) fun i v h' tk hi hv k => ?_
  obtain ⟨t2, rfl⟩ := str_of_holds hv
  refine ⟨.str _, H, I.kept k, ⟨t2, rfl⟩, ?_⟩
  rw [maxOf_str]
  exact q
def rRemS : V → List V → Hp → VK → Prop := fun x xs H Q => ∃ (l : Addr) (ns : List Str) (k : Str) (j : Nat), x = .ref l ∧ xs = [.str k] ∧ H l = some (.lst (ns.map V.str)) ∧ ns[j]? = some k ∧ (∀ m : Nat, m < j → ns[m]? ≠ some k) ∧ Q .non (upd H l (.lst ((ns.eraseIdx j).map V.str)))
theorem mt_removeS (hu : X.A.units + 64 < cLine) : MtM X "list.remove" rRemS := by
  intro pins s σ H x xs v us Q I rx rxs h
  obtain ⟨l, ns, k, j, rfl, rfl, hH, hj, hno, q⟩ := h
  cases rx
  obtain ⟨u, rfl, ru⟩ := rxs.one
  obtain ⟨t, rfl⟩ := ru
  obtain ⟨its, n, r, e, z⟩ := I.lst hH
  have hl : its.length = ns.length := by rw [← r.length, List.length_map]
  have hjn : j < ns.length := (List.getElem?_eq_some_iff.mp hj).1
  refine remove_list_datum (α := Str) (xs := ns) (x := k) ⟨_, e, rfl, n, rfl⟩ (HoldAll.of_strs (by simpa using strs_of_vals r)) (holds_str _ _) (room_d (α := Str) (by decide) hu) hj hno (by rw [List.length_map] at z; rw [List.size_toArray]; omega) ?_
  have rr := r.eraseIdx j
  have em : (ns.map V.str).eraseIdx j = (ns.eraseIdx j).map V.str := erase_mapG _ _
  rw [em] at rr
  refine ⟨.non, _, I.lset (its' := its.eraseIdx j) (t' := s.toks) hH e ?_ rr ?_, rfl, q⟩
  · show its.toArray.eraseIdxIfInBounds j = (its.eraseIdx j).toArray
    rw [List.eraseIdxIfInBounds_toArray]
  · rw [← em, List.length_eraseIdx_of_lt (by rw [List.length_map]; exact hjn)]
    omega
end
end Wh

/-! ## S1d -/
set_option Elab.async false
set_option linter.all false
set_option maxRecDepth 100000
set_option maxHeartbeats 2000000
namespace Wh
open PySem PySem.Spec PyProof.Rows L2 PySem.W
/-! ### dicts keyed by states: list(d), for s in d, {k: v} -/
section
variable {X : Cx} {pins : List (Addr × Obj)} {σ : L2.St} {H : Hp} {s : Shared} {pos : Pos} {d : Addr} {o : Obj} {xs : List NE}
theorem nk_ent {P : Program} {w : World} {h : Heap} (b : nkB P w d xs h) : (d == sysModules) = false ∧ ∃ o es ep, h.get? d = some o ∧ o.ExactDict ∧ o.data = .dict es ep ∧ es.size = xs.length ∧
    ∀ (i : Nat) (e : NE), xs[i]? = some e → ∃ en : DictEntry, es[i]? = some en ∧ en.key = .ref e.2.1 := by
  obtain ⟨z, sm, ys, p, nd, o, es, ep, ho, hx, hd, he⟩ := b
  refine ⟨sm, o, es, ep, ho, hx, hd, ?_, fun i e hi => ?_⟩
  · have l1 : es.size = ys.length := size_of_entries he
    have l2 : xs.length = ys.length := Paired.length p
    omega
  · have hl : i < ys.length := by
      have l2 : xs.length = ys.length := Paired.length p
      have := (List.getElem?_eq_some_iff.mp hi).1
      omega
    have q := entry_at he i
    rw [List.getElem?_eq_getElem hl] at q
    refine ⟨_, q, ?_⟩
    have r := pairedGet p hi (List.getElem?_eq_getElem hl)
    show Value.ref _ = Value.ref _
    rw [r.2.1]
where
  pairedGet {F : NE → (NestedKey × Addr × Value) → Prop} : ∀ {xs : List NE} {ys : List (NestedKey × Addr × Value)} {i : Nat} {x : NE} {y : NestedKey × Addr × Value}, Paired F xs ys → xs[i]? = some x → ys[i]? = some y → F x y
    | _, _, _, _, _, .nil, e, _ => by simp at e
    | _, _, 0, _, _, .cons r _, e1, e2 => by
      simp at e1 e2
      subst e1 e2
      exact r
    | _, _, i + 1, _, _, .cons _ t, e1, e2 => pairedGet (i := i) t (by simpa using e1) (by simpa using e2)
def rNList (P : Program) (w : World) : List V → Hp → VK → Prop := fun vs H Q => ∃ d xs, vs = [V.ref d] ∧ Rd H d (nkD P w d xs) ∧ ∀ p, H p = none → Q (.ref p) (upd H p (.lst (xs.map fun e => V.ref e.2.1)))
theorem call_list_nk (hc : X.calm = true) : CallR X (.type "list") (rNList X.prog X.w) := by
  intro pins s σ H vs us Q I r h
  obtain ⟨d, xs, rfl, hd, q⟩ := h
  obtain ⟨u, rfl, rx⟩ := r.one
  cases rx
  obtain ⟨b, _, _⟩ := hd.ok I.hok
  have z := b.1
  obtain ⟨hs, o, es, ep, ho, hx, hdt, hsz, ent⟩ := nk_ent b
  refine PySem.W.kdl_call (kdl_raw hs hx hdt) (I.ok.hd hc) ho (by omega) fun h' tk acc' c' kp e it => ?_
  have ea : acc'.toList = (xs.map fun e => e.2.1).map Value.ref := by
    have hl : acc'.toList.length = xs.length := by rw [Array.length_toList, it.1]; exact hsz
    apply List.ext_getElem?
    intro j
    rw [List.getElem?_map, List.getElem?_map]
    cases hj : acc'.toList[j]? with
    | none =>
      have h1 := List.getElem?_eq_none_iff.mp hj
      rw [List.getElem?_eq_none (by omega)]
      all_goals rfl
    | some v =>
      obtain ⟨en, hen, hv⟩ := it.2 j v (by rw [← Array.getElem?_toList]; exact hj)
      have hjl : j < xs.length := by
        have := (List.getElem?_eq_some_iff.mp hj).1
        omega
      obtain ⟨en2, he2, hk⟩ := ent j xs[j] (List.getElem?_eq_getElem hjl)
      rw [hen] at he2
      obtain rfl := Option.some.inj he2
      rw [List.getElem?_eq_getElem hjl, hv, hk]
      all_goals rfl
  have rv : Vals ((xs.map fun e => e.2.1).map V.ref) acc'.toList := by rw [ea]; exact vals_refs _
  have em : ((xs.map fun e => e.2.1).map V.ref) = xs.map fun e => V.ref e.2.1 := by rw [List.map_map]; all_goals rfl
  rw [em] at rv
  refine ⟨.ref s.heap.objs.size, _, I.laid (t' := tk) (o := .lst (xs.map fun e => V.ref e.2.1)) kp (Nat.le_refl _) ?_, rfl, q _ (I.hok.fresh (Nat.le_refl _))⟩
  exact ⟨by rw [List.length_map]; exact z, acc'.toList, c', rv, by rw [Array.toArray_toList]; exact e⟩
/-- the keys of the locked dict at d -/
def Itn (P : Program) (w : World) (d : Addr) (o : Obj) (xs : List NE) : It :=
  ⟨fun i H => H d = some (.frz o (nkD P w d xs)) ∧ i < xs.length, fun i H x H' => H' = H ∧ ∃ e, xs[i]? = some e ∧ x = .ref e.2.1, fun i H => H d = some (.frz o (nkD P w d xs)) ∧ xs.length ≤ i⟩
theorem nk_frz (I : Inv X pins σ H s) (h : H d = some (.frz o (nkD X.prog X.w d xs))) : (d == sysModules) = false ∧ s.heap.get? d = some o ∧ o.ExactDict ∧ ∃ (es : Array DictEntry) (ep : Nat), o.data = .dict es ep ∧ es.size = xs.length ∧
    ∀ (i : Nat) (e : NE), xs[i]? = some e → ∃ en : DictEntry, es[i]? = some en ∧ en.key = .ref e.2.1 := by
  obtain ⟨hd, b, _, _⟩ := I.hok d _ h
  obtain ⟨hs, o', es, ep, ho, hx, hdt, hsz, ent⟩ := nk_ent b
  rw [hd] at ho
  cases ho
  exact ⟨hs, hd, hx, es, ep, hdt, hsz, ent⟩
theorem turn_nk {P : Program} {w : World} {K : PySem.W.Frag} {tg : Expr} {es : Array DictEntry} {ep : Nat} (it : Addr) (hod : o.data = .dict es ep) : Turn P w K tg (Itn P w d o xs) [it] it (fun i h => h.IsKeyIter it d i xs.length ep) where
  mem := by simp
  obj := fun i h st b hb => by
    have e : b = it := by simpa using hb
    subst e
    obtain ⟨oi, e, c, dd⟩ := st
    exact ⟨oi, e, fun v z => by rw [dd] at z; cases z⟩
  keep := fun i h h' st k => st.at fun oi e => k it (by simp) oi e
  item := by
    intro X hP hw hK hc i pins s σ H E I hf st hg
    subst hP hw hK
    obtain ⟨hd, hi⟩ := hg
    obtain ⟨f0, f1, f2, f3, f4, f5⟩ := hf it (by simp)
    obtain ⟨hs, hgd, hx, es', ep', hdt, hsz, ent⟩ := nk_frz I hd
    obtain ⟨rfl, rfl⟩ := dict_ep hod hdt
    obtain ⟨en, hen, hkey⟩ := ent i xs[i] (List.getElem?_eq_getElem hi)
    refine next_key_item st hgd hdt hsz hen fun h' st' sb => ?_
    have I1 : Inv X pins σ H { s with heap := h' } := I.turned (t' := s.toks) (fun b ob hb e => (sb.2 b hb).trans e) f0 f1 f3 f4 f5
    obtain ⟨oi, e, c, dd⟩ := id st'
    exact ⟨en.key, rfl, go_of (s := { s with heap := h' }) e c dd (by decide) ⟨.ref xs[i].2.1, H, I1, hkey, ⟨rfl, xs[i], List.getElem?_eq_getElem hi, rfl⟩, st', fun b hb => (hf b hb).1⟩⟩
  done := by
    intro X hP hw hK hc i pins s σ H E I hf st hg
    subst hP hw hK
    obtain ⟨hd, hi⟩ := hg
    obtain ⟨f0, f1, f2, f3, f4, f5⟩ := hf it (by simp)
    obtain ⟨hs, hgd, hx, es', ep', hdt, hsz, ent⟩ := nk_frz I hd
    obtain ⟨rfl, rfl⟩ := dict_ep hod hdt
    exact next_key_end (I.ok.hd hc) st hgd hdt hsz hi fun h' eb => ⟨rfl, I.turned (t' := s.toks) (fun b ob hb e => eb b ob hb e) f0 f1 f3 f4 f5⟩
  self := fun A i s Q E st h => by
    refine wpAny_pyIter_slot st.typeIs F.slot_dict_keyiterator_iter (wpAny_call_entry F.slot_dict_keyiterator_iter st.typeIs F.entry_dict_keyiterator_iter ?_ (F.args_dict_keyiterator_iter_1 _))
    show wpAny _ _ (ret (.ref it)) _ _ s
    exact wpAny_pure ⟨_, rfl, "dict_keyiterator", _, st.typeIs, F.slot_dict_keyiterator_next.lookup, h⟩
def iNKeys (P : Program) (w : World) (td : TE) : TI := fun σ H R => td σ H fun x H1 => ∃ d o xs, x = .ref d ∧ H1 d = some (.frz o (nkD P w d xs)) ∧ R (Itn P w d o xs) H1
theorem pi_nkeys {tg e : Expr} {td : TE} (he : PE X e td) : PI X tg e (iNKeys X.prog X.w td) := by
  refine ⟨fun pins s σ H R I h => ?_⟩
  refine thn (he.run pins s σ H _ I h) fun u s1 ⟨x, H1, I1, rx, d, o, xs, ex, hd, q⟩ => ?_
  subst ex
  obtain rfl : u = Value.ref d := rx
  obtain ⟨hs, hgd, hx, es, ep, hdt, hsz, ent⟩ := nk_frz I1 hd
  refine iter_keys hs hgd hx hdt (pi_one (tk := s1.toks) I1 _ (turn_nk _ hdt) ⟨_, Heap.get?_push_size _ rfl, rfl, ?_⟩ q)
  rw [hsz] <;> rfl
/-- for over the keys of a locked dict -/
theorem for_nk {P : Program} {w : World} {g : TG} {tb : TS} {D : Ends} {σ : L2.St} {H : Hp} (Pv : Nat → L2.St → Hp → Prop) (h0 : Pv 0 σ H) (hl : ∀ i σ H, i ≤ xs.length → Pv i σ H → H d = some (.frz o (nkD P w d xs)))
    (hs : ∀ i e σ H, xs[i]? = some e → Pv i σ H → g (.ref e.2.1) σ H fun σ2 H2 => tb { D with nx := Pv (i + 1), ct := Pv (i + 1), bk := D.nx } σ2 H2) (hd : ∀ σ H, Pv xs.length σ H → D.nx σ H) :
    ∃ W : Nat → Nat → L2.St → Hp → Prop, (∃ m, W 0 m σ H) ∧ ∀ i m σ H, W i m σ H →
      ((Itn P w d o xs).stop i H ∧ D.nx σ H) ∨ ((Itn P w d o xs).go i H ∧ ∃ N : L2.St → Hp → Prop, (∀ σ' H', N σ' H' → ∃ m', m' < m ∧ W (i + 1) m' σ' H') ∧ ∀ x H', (Itn P w d o xs).yld i H x H' → g x σ H' fun σ2 H2 => tb { D with nx := N, ct := N, bk := D.nx } σ2 H2) := by
  refine ⟨fun i m σ H => m = xs.length - i ∧ i ≤ xs.length ∧ Pv i σ H, ⟨xs.length, by simp, Nat.zero_le _, h0⟩, ?_⟩
  rintro i m σ H ⟨rfl, hi, p⟩
  have q := hl i σ H hi p
  by_cases hlt : i < xs.length
  · refine .inr ⟨⟨q, hlt⟩, Pv (i + 1), fun σ' H' p' => ⟨xs.length - (i + 1), by omega, rfl, hlt, p'⟩, fun x H' y => ?_⟩
    obtain ⟨e, en, he, hx⟩ := y
    subst e hx
    exact hs i en σ _ he p
  · have e : i = xs.length := by omega
    subst e
    exact .inl ⟨⟨q, Nat.le_refl _⟩, hd σ H p⟩
/-- {k: v} with a state as key -/
def tNDisp1 (P : Program) (w : World) (tk tv : TE) : TE := fun σ H Q => ∀ p, H p = none → tk σ (upd H p (nkD P w p [])) fun x H1 => tv σ H1 fun y H2 => ∃ b st, x = .ref b ∧ StAt H2 b st ∧ H2 p = some (nkD P w p []) ∧ Q (.ref p) (upd H2 p (nkD P w p [(st, b, y)]))
theorem pe_ndisp1 {k v : Expr} {tk tv : TE} (hu : X.A.units + 64 < cLine) (hk : PE X k tk) (hv : PE X v tv) : PE X (.Dict [some k] [v] pos) (tNDisp1 X.prog X.w tk tv) := by
  refine ⟨fun pins s σ H Q I q => ?_⟩
  have hn := I.hok.fresh (Nat.le_refl s.heap.objs.size)
  have sm : (s.heap.objs.size == sysModules) = false := beq_eq_false_iff_ne.mpr (Ne.symm (Nat.ne_of_lt I.big))
  have I1 := I.laid (a := s.heap.objs.size) (o := nkD X.prog X.w s.heap.objs.size []) (h' := s.heap.push { cls := .type "dict", data := .dict #[] }) (t' := s.toks) (fun _ _ q => Heap.get?_push_of_some _ q) (Nat.le_refl _)
    (nkB.obj ⟨Nat.zero_le _, sm, [], .nil, List.nodup_nil, _, #[], 0, Heap.get?_push_size _ rfl, ⟨rfl, rfl, rfl⟩, rfl, rfl⟩)
  have hlen := pairTrees_length [some k] [v] X.env pos rfl rfl
  rw [arm_eval_Dict, zip_pairTrees [some k] [v] X.env pos rfl rfl, dictDisplay_pairs _ (by intro e; rw [e] at hlen; cases hlen) (by rw [hlen]; show 1 < 17; decide)]
  refine wpAny_bind (wpAny_standAt (wpAny_bind (wpAny_subDictH (knd := nestedKind X.prog X.w) (by show X.A.units + 8 < cLine; omega) (by rw [hlen]; show 1 ≤ 15; decide) ?_)))
  refine pairTrees_cons_walk (thn (hk.run pins _ σ _ _ I1 (q _ hn)) fun u s1 ⟨x, H1, I2, rx, q1⟩ => thn (hv.run pins s1 σ H1 _ I2 q1) fun w2 s2 ⟨y, H2, I3, ry, b, st, ex, hst, hp, q2⟩ => pairTrees_nil_walk ?_)
  subst ex
  cases rx
  obtain ⟨z, sm2, ys, pr, dd⟩ := nk_at I3 (.inl hp) (fun e he => nomatch he)
  cases pr
  refine ⟨[(keyS st, b, w2)], ⟨rfl, rfl, hst.is I3, True.intro⟩, dd, fun h' tk hm' sb => wpAny_pure ⟨.ref s.heap.objs.size, _, ?_, rfl, q2⟩⟩
  have e1 : storedAllH ([] : List (NestedKey × Addr × Value)) [(keyS st, b, w2)] = [(keyS st, b, w2)] := rfl
  rw [e1] at hm'
  obtain ⟨o', es', ep', e1, ex', dt', en', _, nd'⟩ := hm'
  have I4 := I3.write (x := s.heap.objs.size) (e := s.heap.objs.size) (o := nkD X.prog X.w s.heap.objs.size [(st, b, y)]) (t' := tk) (h' := h') (by rw [hp]; exact True.intro) (.inl rfl) (fun c ob hc z => (sb.2 c hc).trans z) ⟨o', e1⟩
    (nkB.obj ⟨by show 1 ≤ sizeLine; decide, sm, [(keyS st, b, w2)], .cons ⟨rfl, rfl, ry⟩ .nil, nd', o', es', ep', e1, ex', dt', en'⟩)
  exact I4
end
end Wh

/-! ## InsK -/
set_option Elab.async false
set_option linter.all false
set_option maxRecDepth 100000
set_option maxHeartbeats 4000000
namespace Wh
open PySem PySem.Spec PyProof.Rows L2 PySem.W
/-! ### rules whose readings name K -/
section
variable {X : Cx} {K : PySem.W.Frag} {P : Program} {w : World}
theorem pe_fldK {e : Expr} {ta : TE} {f : Str} {pos : Pos} (he : PE X e ta) (hb : attributeBase e f X.env (eval e X.env) = eval e X.env) (h : X.K = K := by rfl) : PE X (.Attribute e f pos) (tFld K ta f) := by subst h; exact pe_fld he hb
theorem ix_listK (h : X.K = K := by rfl) : IxR X (rIxL K) := by subst h; exact ix_list
theorem ix_tupK (h : X.K = K := by rfl) : IxR X (rIxT K) := by subst h; exact ix_tup
theorem pg_tupK {es : List Expr} {k : Nat} {t : TGs} {n : Nat} {pos : Pos} (hc : X.calm = true) (h : PGs X es t)
    (hn : (assignEach es X.env).length = n := by rfl) (hst : (assignEach es X.env).findIdx? (·.1) = none := by rfl) (h2 : X.K = K := by rfl) : PG X (.Tuple es k pos) (gTup K n t) := by subst h2; exact pg_tup hc h hn hst
def rLenS (K : PySem.W.Frag) : List V → Hp → VK → Prop := fun xs H Q => ∃ p ys, xs = [.ref p] ∧ (SqL K H p ys ∨ SqT K H p ys) ∧ Q (.int (ys.length : Nat)) H
theorem call_len_seqK (h : X.K = K := by rfl) : CallR X (.builtin "len") (rLenS K) := by subst h; exact call_len_seq
theorem op_inK (h : X.K = K := by rfl) : OpR X (compareOp .In) (rIn K false) := by subst h; exact op_in_seq
theorem op_notInK (h : X.K = K := by rfl) : OpR X (compareOp .NotIn) (rIn K true) := by subst h; exact op_notIn_seq
theorem op_catAK (h : X.K = K := by rfl) : OpR X (binaryOp .Add) (rCatA K) := by subst h; exact op_catA
theorem sl_tupAK (h : X.K = K := by rfl) : SlR X (rSlA K) := by subst h; exact sl_tupA
theorem sl_listK (h : X.K = K := by rfl) : SlR X (rSlL K) := by subst h; exact sl_list
theorem op_eqTK {α : Type} [DecidableEq α] [Datum α] (hu : X.A.units + 64 < cLine) (hd : Datum.depth α ≤ 60) (h : X.K = K := by rfl) : OpR X (compareOp .Eq) (rEqT α K false) := by subst h; exact op_eqT hu hd
theorem op_neTK {α : Type} [DecidableEq α] [Datum α] (hu : X.A.units + 64 < cLine) (hd : Datum.depth α ≤ 60) (h : X.K = K := by rfl) : OpR X (compareOp .NotEq) (rEqT α K true) := by subst h; exact op_neT hu hd
theorem op_eqSK (hu : X.A.units + 64 < cLine) (h : X.K = K := by rfl) : OpR X (compareOp .Eq) (rEqS K false) := by subst h; exact op_eqS hu
theorem op_neSK (hu : X.A.units + 64 < cLine) (h : X.K = K := by rfl) : OpR X (compareOp .NotEq) (rEqS K true) := by subst h; exact op_neS hu
theorem op_ninK (hu : X.A.units + 64 < cLine) (h : X.prog = P := by rfl) (h2 : X.w = w := by rfl) : OpR X (compareOp .In) (rNIn P w false) := by subst h h2; exact op_nin hu
theorem op_nnotinK (hu : X.A.units + 64 < cLine) (h : X.prog = P := by rfl) (h2 : X.w = w := by rfl) : OpR X (compareOp .NotIn) (rNIn P w true) := by subst h h2; exact op_nnotin hu
theorem ix_nkK (hu : X.A.units + 64 < cLine) (h : X.prog = P := by rfl) (h2 : X.w = w := by rfl) : IxR X (rNGet P w) := by subst h h2; exact ix_nk hu
def rIsC (C : Addr) : List V → Hp → VK → Prop := fun xs H Q => ∃ a dx fs, xs = [V.ref a, V.ref C] ∧ H a = some (.ins C dx fs) ∧ Q (.bl true) H
theorem call_isCK {C : Addr} (c : C8.InsC K C) (h : X.K = K := by rfl) : CallR X (.builtin "isinstance") (rIsC C) := by subst h; exact C8.call_isC c
theorem call_isiK (h : X.K = K := by rfl) : CallR X (.builtin "isinstance") (rIsi K) := by subst h; exact call_isi
theorem cr_allK (hc : X.calm = true) (h : X.K = K := by rfl) : CallR X (.builtin "all") (rAll K) := by subst h; exact cr_all hc
end
end Wh

/-! ## InsT -/
set_option Elab.async false
set_option linter.all false
set_option maxRecDepth 100000
set_option maxHeartbeats 4000000
namespace Wh
open PySem PySem.Spec PyProof.Rows L2
section
variable {P : Program} {w : World} {K : PySem.W.Frag} {mg : Str → Option Value} {base : Heap}
theorem okD {x qual : Str} {params : Arguments} {body : List Stmt} {scope : Scope} {dvs : List V} {kws : List (Str × V)} {f : Addr} {fd : FuncData} {N ps : List Str} {k : Nat} {sp : Sp} (F : FunD K x qual params body scope dvs kws f fd) (S : FnScope N ps scope) (len : ∀ vs H Q E, sp vs H Q E → vs.length = ps.length)
    (hbody : ∀ (cdv : Value) (A : Around) (outer : List Env) (s : Shared) (H : Hp) (vs : List V) (Q : VK) (E : XK), Room k (A.deeper (envOfC qual scope s.heap.objs.size f cdv)) → sp vs H Q E →
      ∃ t, PSs (cxOf CX0 P w K mg base N qual scope f cdv A outer s H E).nox body t ∧ t { nx := fun _ H' => Q .non H', rt := Q } (start N vs) H) : FnOk P w K mg base CX0 (k + 1) f fd ps sp :=
  F.ok S len fun cdv A outer s H vs Q E hr h => let ⟨t, a, q⟩ := hbody cdv A outer s H vs Q E hr h; ⟨t, a.nox, q⟩
/-- parts of the place -/
theorem cxK {N : List Str} {q : Str} {sc : Scope} {f : Addr} {cdv : Value} {A : Around} {outer : List Env} {s : Shared} {H : Hp} {E : XK} : (cxOf CX0 P w K mg base N q sc f cdv A outer s H E).nox.K = K := rfl
theorem cxP {N : List Str} {q : Str} {sc : Scope} {f : Addr} {cdv : Value} {A : Around} {outer : List Env} {s : Shared} {H : Hp} {E : XK} : (cxOf CX0 P w K mg base N q sc f cdv A outer s H E).nox.prog = P := rfl
theorem cxW {N : List Str} {q : Str} {sc : Scope} {f : Addr} {cdv : Value} {A : Around} {outer : List Env} {s : Shared} {H : Hp} {E : XK} : (cxOf CX0 P w K mg base N q sc f cdv A outer s H E).nox.w = w := rfl
/-! ### kinds -/
theorem exk (T : Tx K mg) : (He.tupB K "TAILS" [.int 1, .int 2, .int 3, .int 4, .int 6, .int 8, .int 12, .int 24] = true ∧ He.tupB K "HOURS" [.int 0, .int 1, .int 2, .int 3, .int 4, .int 5, .int 6, .int 7, .int 8, .int 9, .int 10, .int 11, .int 12, .int 13, .int 14, .int 15, .int 16, .int 17, .int 18, .int 19, .int 20, .int 21, .int 22, .int 23] = true) ∧ (insB K "Wane" = true ∧ insB K "Store" = true) ∧
    PySem.W.kitOne K (.type "int") (.type "int") = some true ∧ PySem.W.kitOne K (.type "int") (.type "bool") = some false ∧ PySem.W.kitOne K (.type "str") (.type "str") = some true ∧ PySem.W.kitOne K (.type "list") (.type "list") = some true ∧ PySem.W.kitOne K (.type "tuple") (.type "tuple") = some true ∧ PySem.W.kitOne K (.type "bool") (.type "bool") = some true := by
  have e := T.ex
  unfold exB at e
  simp only [Bool.and_eq_true, decide_eq_true_eq] at e
  obtain ⟨⟨⟨⟨⟨⟨⟨⟨⟨a, b⟩, c⟩, d⟩, e1⟩, e2⟩, e3⟩, e4⟩, e5⟩, e6⟩ := e
  exact ⟨⟨a, b⟩, ⟨c, d⟩, e1, e2, e3, e4, e5, e6⟩
theorem insC_of {x : Str} (h : insB K x = true) (c : Cls K (He.ga K x)) : C8.InsC K (He.ga K x) := by
  unfold insB at h
  simp only [Bool.and_eq_true, decide_eq_true_eq] at h
  obtain ⟨h1, h2, h3, h4, h5⟩ := h
  exact ⟨c, He.eqO_ok h1, He.eqO_ok h2, h3, h4, h5⟩
theorem insWane (T : Tx K mg) : C8.InsC K (He.ga K "Wane") := insC_of (exk T).2.1.1 (c_Wane T)
theorem insStore (T : Tx K mg) : C8.InsC K (He.ga K "Store") := insC_of (exk T).2.1.2 (c_Store T)
theorem sqTAILS (T : Tx K mg) (H : Hp) : SqT K H (He.ga K "TAILS") [.int 1, .int 2, .int 3, .int 4, .int 6, .int 8, .int 12, .int 24] := He.tupB_ok (exk T).1.1 H
theorem sqHOURS (T : Tx K mg) (H : Hp) : SqT K H (He.ga K "HOURS") [.int 0, .int 1, .int 2, .int 3, .int 4, .int 5, .int 6, .int 7, .int 8, .int 9, .int 10, .int 11, .int 12, .int 13, .int 14, .int 15, .int 16, .int 17, .int 18, .int 19, .int 20, .int 21, .int 22, .int 23] := He.tupB_ok (exk T).1.2 H

/-! ### defaults and keywords -/
theorem bd_keep (T : Tx K mg) : ∃ ds, Vals [.int 120] ds ∧ Binds K (fdA K (He.ga K "keep")) ["store", "names", "most"] ds :=
  (F_keep T).binds0 2 (by simp) rfl fun D doc pm an cdv ct us ks l1 l2 => by
    obtain ⟨a, b, rfl⟩ : ∃ a b, us = [a, b] := by
      match us, l1 with
      | [a, b], _ => exact ⟨a, b, rfl⟩
    obtain ⟨k, rfl⟩ : ∃ k, ks = [k] := by
      match ks, l2 with
      | [k], _ => exact ⟨k, rfl⟩
    exact ⟨_, _, _, _, _, _, rfl, rfl, rfl⟩
theorem len2 {α : Type} {us : List α} (h : us.length = 2) : ∃ a b, us = [a, b] := by
  match us, h with
  | [a, b], _ => exact ⟨a, b, rfl⟩
theorem len3 {α : Type} {us : List α} (h : us.length = 3) : ∃ a b c, us = [a, b, c] := by
  match us, h with
  | [a, b, c], _ => exact ⟨a, b, c, rfl⟩
theorem len1 {α : Type} {us : List α} (h : us.length = 1) : ∃ a, us = [a] := by
  match us, h with
  | [a], _ => exact ⟨a, rfl⟩
theorem bd_Store1 (T : Tx K mg) : ∃ ds, Vals [.non, .int 0, .int 1] ds ∧ Binds K (fdA K (He.ma K (He.ga K "Store") "__init__")) ["self", "rooms", "stirs", "grain", "fade"] ds :=
  (F_Store_init T).binds0 2 (by simp) rfl fun D doc pm an cdv ct us ks l1 l2 => by
    obtain ⟨a, b, rfl⟩ := len2 l1
    obtain ⟨k1, k2, k3, rfl⟩ := len3 l2
    exact ⟨_, _, _, _, _, _, rfl, rfl, ⟨_, _, _, _, _, _, rfl, rfl, ⟨_, _, _, _, _, _, rfl, rfl, rfl⟩⟩⟩
theorem kb_Store (T : Tx K mg) : ∃ mv : List Value, KBn K (fdA K (He.ma K (He.ga K "Store") "__init__")) ["self", "rooms", "stirs", "grain", "fade"] 2 ["stirs"] (fun us ws => us ++ ws ++ mv) (fun vs zs => vs ++ zs ++ [.int 0, .int 1]) :=
  (F_Store_init T).kbinds0 2 ["stirs"] [("grain", .int 0), ("fade", .int 1)] (fun vs mz zs => vs ++ zs ++ mz) (by simp) (by simp) (fun a b c => (a.append c).append b) fun D doc pm an cdv ct us mv ws l1 l2 l3 => by
    obtain ⟨a, b, rfl⟩ := len2 l1
    obtain ⟨k1, k2, rfl⟩ := len2 l2
    obtain ⟨w1, rfl⟩ := len1 l3
    exact ⟨_, _, _, _, _, _, rfl, rfl, ⟨_, _, _, _, _, _, rfl, rfl, rfl⟩⟩
theorem kb_Wane (T : Tx K mg) : ∃ mv : List Value, KBn K (fdA K (He.ma K (He.ga K "Wane") "__init__")) ["self", "head", "tail", "cap", "lift", "anew"] 3 ["cap", "lift", "anew"] (fun us ws => us ++ ws ++ mv) (fun vs zs => vs ++ zs ++ []) :=
  (F_Wane_init T).kbinds0 3 ["cap", "lift", "anew"] [] (fun vs mz zs => vs ++ zs ++ mz) (by simp) (by simp) (fun a b c => (a.append c).append b) fun D doc pm an cdv ct us mv ws l1 l2 l3 => by
    obtain ⟨a, b, c, rfl⟩ := len3 l1
    obtain ⟨w1, w2, w3, rfl⟩ := len3 l3
    obtain rfl : mv = [] := List.length_eq_zero_iff.mp l2
    rfl
end
end Wh

/-! ## S0 -/
set_option Elab.async false
set_option linter.all false
set_option maxRecDepth 100000
set_option maxHeartbeats 2000000
namespace Wh
open PySem PySem.Spec PyProof.Rows L2
/-! ### readings, step by step: what is wanted behind a part has a name -/
abbrev St := L2.St
def kOp (tb : TE) (r : R2) (σ : L2.St) (Q : VK) : VK := fun x H1 => tb σ H1 fun y H2 => r x y H2 Q
def kOp2 (r : R2) (x : V) (Q : VK) : VK := fun y H2 => r x y H2 Q
def kUn (r : V → Hp → VK → Prop) (Q : VK) : VK := fun x H1 => r x H1 Q
def kT (Q : Bool → Hp → Prop) : VK := fun x H1 => ∃ c, x = .bl c ∧ Q c H1
def kAnd (u : TT) (σ : L2.St) (Q : Bool → Hp → Prop) : Bool → Hp → Prop := fun c H1 => if c = true then u σ H1 Q else Q false H1
def kOr (u : TT) (σ : L2.St) (Q : Bool → Hp → Prop) : Bool → Hp → Prop := fun c H1 => if c = true then Q true H1 else u σ H1 Q
def kNot (Q : Bool → Hp → Prop) : Bool → Hp → Prop := fun c H1 => Q (!c) H1
def kAndV (tb : TE) (σ : L2.St) (Q : VK) : VK := fun x H1 => ∃ c, x = .bl c ∧ if c = true then tb σ H1 Q else Q (.bl false) H1
def kOrV (tb : TE) (σ : L2.St) (Q : VK) : VK := fun x H1 => ∃ c, x = .bl c ∧ if c = true then Q (.bl true) H1 else tb σ H1 Q
def kNotV (Q : VK) : VK := fun x H1 => ∃ c, x = .bl c ∧ Q (.bl (!c)) H1
def kIsN (Q : VK) : VK := fun x H1 => Q (.bl (decide (x = .non))) H1
def kNotN (Q : VK) : VK := fun x H1 => Q (.bl (!decide (x = .non))) H1
def kIfE (ta tb : TE) (σ : L2.St) (Q : VK) : Bool → Hp → Prop := fun c H1 => if c = true then ta σ H1 Q else tb σ H1 Q
def kIf (t u : TS) (D : Ends) (σ : L2.St) : Bool → Hp → Prop := fun b H1 => if b = true then t D σ H1 else u D σ H1
def kDrop (nx : L2.St → Hp → Prop) (σ : L2.St) : VK := fun _ H1 => nx σ H1
def kAsg (g : TG) (nx : L2.St → Hp → Prop) (σ : L2.St) : VK := fun x H1 => g x σ H1 nx
def kFld (K : PySem.W.Frag) (f : Str) (Q : VK) : VK := fun x H1 => ∃ a C dx fs v, x = .ref a ∧ H1 a = some (.ins C dx fs) ∧ Cls K C ∧ NoAttr K C f ∧ fs.lookup f = some v ∧ Q v H1
def kSF (K : PySem.W.Frag) (ta : TE) (f : Str) (nx : L2.St → Hp → Prop) (σ : L2.St) : VK := fun y H1 => ta σ H1 fun x H2 => ∃ a C dx fs, x = .ref a ∧ H2 a = some (.ins C dx fs) ∧ Cls K C ∧ NoAttr K C f ∧ fs.length < 1000 ∧ nx σ (upd H2 a (.ins C dx (putF f y fs)))
def kSF2 (K : PySem.W.Frag) (f : Str) (nx : L2.St → Hp → Prop) (σ : L2.St) (y : V) : VK := fun x H2 => ∃ a C dx fs, x = .ref a ∧ H2 a = some (.ins C dx fs) ∧ Cls K C ∧ NoAttr K C f ∧ fs.length < 1000 ∧ nx σ (upd H2 a (.ins C dx (putF f y fs)))
def kFA (K : PySem.W.Frag) (tv : TE) (rd : V → V → Hp → VK → Prop) (f : Str) (nx : L2.St → Hp → Prop) (σ : L2.St) : VK := fun x H1 => ∃ a C dx fs v, x = .ref a ∧ H1 a = some (.ins C dx fs) ∧ Cls K C ∧ NoAttr K C f ∧ fs.lookup f = some v ∧
  tv σ H1 fun y H2 => rd v y H2 fun z H3 => ∃ dx' fs', H3 a = some (.ins C dx' fs') ∧ fs'.length < 1000 ∧ nx σ (upd H3 a (.ins C dx' (putF f z fs')))
def kCons (tr : TA) (σ : L2.St) (Q : List V → Hp → Prop) : VK := fun x H1 => tr σ H1 fun xs H2 => Q (x :: xs) H2
def kCons2 (x : V) (Q : List V → Hp → Prop) : List V → Hp → Prop := fun xs H2 => Q (x :: xs) H2
def kTup (Q : VK) : List V → Hp → Prop := fun xs H1 => xs.length ≤ sizeLine ∧ ∀ p, H1 p = none → Q (.ref p) (upd H1 p (.tup xs))
def kLst (Q : VK) : List V → Hp → Prop := fun xs H1 => xs.length ≤ sizeLine ∧ ∀ p, H1 p = none → Q (.ref p) (upd H1 p (.lst xs))
def kCall (sp : Sp) (dvs : List V) (Q : VK) (E : XK) : List V → Hp → Prop := fun vs H1 => sp (vs ++ dvs) H1 Q E
def kMeth (C : Addr) (m : Str) (sp : Sp) (dvs : List V) (E : XK) (t : TA) (σ : L2.St) (Q : VK) : VK := fun x H1 => ∃ a dx fs, x = .ref a ∧ H1 a = some (.ins C dx fs) ∧ fs.lookup m = none ∧ t σ H1 fun vs H2 => sp (x :: (vs ++ dvs)) H2 Q E
def kMeth2 (a : Addr) (sp : Sp) (Q : VK) (E : XK) : List V → Hp → Prop := fun vs H2 => sp (.ref a :: (vs ++ [])) H2 Q E
def kMake (C : Addr) (sp : Sp) (dvs : List V) (E : XK) (Q : VK) : List V → Hp → Prop := fun vs H1 => ∀ x dx, H1 x = none → H1 dx = none → dx ≠ x → sp (.ref x :: (vs ++ dvs)) (upd (upd H1 dx (.own x)) x (.ins C dx [])) (fun v H2 => v = .non ∧ Q (.ref x) H2) E
def kCB (r : List V → Hp → VK → Prop) (Q : VK) : List V → Hp → Prop := fun vs H1 => r vs H1 Q
def kBM (K : PySem.W.Frag) (T : String) (r : V → List V → Hp → VK → Prop) (t : TA) (σ : L2.St) (Q : VK) : VK := fun x H1 => tyV K T x H1 ∧ t σ H1 fun xs H2 => r x xs H2 Q
def kBM2 (r : V → List V → Hp → VK → Prop) (x : V) (Q : VK) : List V → Hp → Prop := fun xs H2 => r x xs H2 Q
def kBM0 (K : PySem.W.Frag) (T : String) (r : V → List V → Hp → VK → Prop) (Q : VK) : VK := fun x H1 => tyV K T x H1 ∧ r x [] H1 Q
def kDG (ty : TE) (σ : L2.St) (Q : VK) : VK := fun x H1 => ty σ H1 fun y H2 => ∃ a v, x = .ref a ∧ DGet H2 a y (some v) ∧ Q v H2
def kDG2 (x : V) (Q : VK) : VK := fun y H2 => ∃ a v, x = .ref a ∧ DGet H2 a y (some v) ∧ Q v H2
def kDI (td : TE) (neg : Bool) (σ : L2.St) (Q : VK) : VK := fun y H1 => td σ H1 fun x H2 => ∃ a o, x = .ref a ∧ DGet H2 a y o ∧ Q (.bl (if neg then !o.isSome else o.isSome)) H2
def kDI2 (y : V) (neg : Bool) (Q : VK) : VK := fun x H2 => ∃ a o, x = .ref a ∧ DGet H2 a y o ∧ Q (.bl (if neg then !o.isSome else o.isSome)) H2
def kDP (td ty : TE) (nx : L2.St → Hp → Prop) (σ : L2.St) : VK := fun v H1 => td σ H1 fun x H2 => ty σ H2 fun y H3 => ∃ a H4, x = .ref a ∧ DPut H3 a y v H4 ∧ nx σ H4
def kDP2 (ty : TE) (nx : L2.St → Hp → Prop) (σ : L2.St) (v : V) : VK := fun x H2 => ty σ H2 fun y H3 => ∃ a H4, x = .ref a ∧ DPut H3 a y v H4 ∧ nx σ H4
def kDP3 (nx : L2.St → Hp → Prop) (σ : L2.St) (v x : V) : VK := fun y H3 => ∃ a H4, x = .ref a ∧ DPut H3 a y v H4 ∧ nx σ H4
def kAug (i : Nat) (x : V) (ti : TIp) (nx : L2.St → Hp → Prop) (σ : L2.St) : VK := fun y H1 => ti x y H1 fun z H2 => nx (σ.set i (some z)) H2
def kCh (r r' : R2) (tb tc : TE) (σ : L2.St) (Q : VK) : VK := fun x H1 => tb σ H1 fun y H2 => r x y H2 fun z H3 => ∃ k, z = .bl k ∧ (if k = true then tc σ H3 fun w' H4 => r' y w' H4 Q else Q (.bl false) H3)
def kCh2 (r r' : R2) (x : V) (tc : TE) (σ : L2.St) (Q : VK) : VK := fun y H2 => r x y H2 fun z H3 => ∃ k, z = .bl k ∧ (if k = true then tc σ H3 fun w' H4 => r' y w' H4 Q else Q (.bl false) H3)
def kCh3 (r' : R2) (y : V) (tc : TE) (σ : L2.St) (Q : VK) : VK := fun z H3 => ∃ k, z = .bl k ∧ (if k = true then tc σ H3 fun w' H4 => r' y w' H4 Q else Q (.bl false) H3)
def kFor (g : TG) (tb : TS) (D : Ends) (σ : L2.St) : It → Hp → Prop := fun J H1 => ∃ W : Nat → Nat → L2.St → Hp → Prop, (∃ m, W 0 m σ H1) ∧ ∀ i m σ H, W i m σ H →
  (J.stop i H ∧ D.nx σ H) ∨ (J.go i H ∧ ∃ N : L2.St → Hp → Prop, (∀ σ' H', N σ' H' → ∃ m', m' < m ∧ W (i + 1) m' σ' H') ∧ ∀ x H', J.yld i H x H' → g x σ H' fun σ2 H2 => tb { D with nx := N, ct := N, bk := D.nx } σ2 H2)
def kIL (K : PySem.W.Frag) (R : It → Hp → Prop) : VK := fun x H1 => ∃ a, x = .ref a ∧ (∃ xs, SqL K H1 a xs) ∧ R (Itl K a) H1
def kIT (K : PySem.W.Frag) (R : It → Hp → Prop) : VK := fun x H1 => ∃ a, x = .ref a ∧ (∃ xs, SqT K H1 a xs) ∧ R (Itt K a) H1
def kIR (R : It → Hp → Prop) : List V → Hp → Prop := fun vs H1 => ∃ j : Int, vs = [.int j] ∧ -(2 ^ 62) ≤ j ∧ j < 2 ^ 62 ∧ R (Itr 0 j.toNat) H1
def kSl (r : V → Option Int → Option Int → Hp → VK → Prop) (tl th : TO) (σ : L2.St) (Q : VK) : VK := fun x H1 => tl σ H1 fun l H2 => th σ H2 fun u H3 => r x l u H3 Q
def kSl2 (r : V → Option Int → Option Int → Hp → VK → Prop) (x : V) (th : TO) (σ : L2.St) (Q : VK) : Option Int → Hp → Prop := fun l H2 => th σ H2 fun u H3 => r x l u H3 Q
def kSl3 (r : V → Option Int → Option Int → Hp → VK → Prop) (x : V) (l : Option Int) (Q : VK) : Option Int → Hp → Prop := fun u H3 => r x l u H3 Q
def kPart (Q : Option Int → Hp → Prop) : VK := fun x H1 => ∃ i, x = .int i ∧ Q (some i) H1
def kSub (ti : TE) (t : TSet) (v : V) (σ : L2.St) (Q : L2.St → Hp → Prop) : VK := fun o H1 => ti σ H1 fun i H2 => t o i v H2 fun H3 => Q σ H3
def kSub2 (t : TSet) (o v : V) (σ : L2.St) (Q : L2.St → Hp → Prop) : VK := fun i H2 => t o i v H2 fun H3 => Q σ H3
section
variable {K : PySem.W.Frag} {i j : Nat} {v x y : V} {σ σ' : L2.St} {H : Hp} {Q : VK} {B : Bool → Hp → Prop} {ta tb tc tv td ty te : TE} {r r' : R2} {t u : TT} {ts us : TS} {g : TG} {nx bk ct : L2.St → Hp → Prop} {rt : VK} {D : Ends} {a p C dx : Addr} {f m : Str} {fs : List (Str × V)} {L : List V → Hp → Prop} {vs xs : List V} {tA tr : TA} {sp : Sp} {E : XK} {c b : Bool}
/-! #### expressions -/
theorem r_var (h : σ[i]? = some (some v)) (q : Q v H) : tVar i σ H Q := ⟨v, h, q⟩
theorem r_c (q : Q v H) : tC v σ H Q := q
theorem r_op (q : ta σ H (kOp tb r σ Q)) : tOp r ta tb σ H Q := q
theorem k_op (q : tb σ H (kOp2 r x Q)) : kOp tb r σ Q x H := q
theorem k_op2 (q : r x y H Q) : kOp2 r x Q y H := q
theorem r_un {r : V → Hp → VK → Prop} (q : ta σ H (kUn r Q)) : tUn r ta σ H Q := q
theorem k_un {r : V → Hp → VK → Prop} (q : r x H Q) : kUn r Q x H := q
theorem x_I0 {G : Int → Int → V} {n k : Int} (q : Q (G n k) H) : rI0 G (.int n) (.int k) H Q := ⟨n, k, rfl, rfl, q⟩
theorem x_I {Cc : Int → Int → Prop} {G : Int → Int → V} {n k : Int} (h : Cc n k) (q : Q (G n k) H) : rI Cc G (.int n) (.int k) H Q := ⟨n, k, rfl, rfl, h, q⟩
theorem x_add {n k : Int} (q : Q (.int (n + k)) H) : rAdd (.int n) (.int k) H Q := ⟨n, k, rfl, rfl, q⟩
theorem x_sub {n k : Int} (q : Q (.int (n - k)) H) : rSub (.int n) (.int k) H Q := ⟨n, k, rfl, rfl, q⟩
theorem x_ip {G : Int → Int → Int} {n k : Int} (q : Q (.int (G n k)) H) : ipI G (.int n) (.int k) H Q := ⟨n, k, rfl, rfl, q⟩
theorem dv_int {n k : Int} : decide (V.int n = V.int k) = decide (n = k) := by simp
theorem dv_str {n k : Str} : decide (V.str n = V.str k) = decide (n = k) := by simp
theorem x_eqI {n k : Int} (q : Q (.bl (decide (n = k))) H) : rEq (.int n) (.int k) H Q := ⟨rfl, by rw [dv_int]; exact q⟩
theorem x_neI {n k : Int} (q : Q (.bl (!decide (n = k))) H) : rNe (.int n) (.int k) H Q := ⟨rfl, by rw [dv_int]; exact q⟩
theorem x_eqS {n k : Str} (q : Q (.bl (decide (n = k))) H) : rEq (.str n) (.str k) H Q := ⟨rfl, by rw [dv_str]; exact q⟩
theorem x_neS {n k : Str} (q : Q (.bl (!decide (n = k))) H) : rNe (.str n) (.str k) H Q := ⟨rfl, by rw [dv_str]; exact q⟩
theorem x_ixL {p : Addr} {n : Int} (h : SqL K H p xs) (e : atI xs n = some v) (q : Q v H) : rIxL K (.ref p) (.int n) H Q := ⟨p, xs, n, v, rfl, rfl, h, e, q⟩
theorem x_ixT {p : Addr} {n : Int} (h : SqT K H p xs) (e : atI xs n = some v) (q : Q v H) : rIxT K (.ref p) (.int n) H Q := ⟨p, xs, n, v, rfl, rfl, h, e, q⟩
theorem r_and (q : t σ H (kAnd u σ B)) : tAnd t u σ H B := q
theorem k_andT (q : u σ H B) : kAnd u σ B true H := q
theorem k_andF (q : B false H) : kAnd u σ B false H := q
theorem k_and2 (h1 : c = true → u σ H B) (h2 : c = false → B false H) : kAnd u σ B c H := by
  cases c with
  | true => exact h1 rfl
  | false => exact h2 rfl
theorem r_or (q : t σ H (kOr u σ B)) : tOr t u σ H B := q
theorem k_orT (q : B true H) : kOr u σ B true H := q
theorem k_orF (q : u σ H B) : kOr u σ B false H := q
theorem k_or2 (h1 : c = true → B true H) (h2 : c = false → u σ H B) : kOr u σ B c H := by
  cases c with
  | true => exact h1 rfl
  | false => exact h2 rfl
theorem r_not (q : t σ H (kNot B)) : tNot t σ H B := q
theorem k_not (q : B (!c) H) : kNot B c H := q
theorem r_test (q : ta σ H (kT B)) : tTest ta σ H B := q
theorem r_B (q : ta σ H (kT B)) : tB ta σ H B := q
theorem k_T (q : B c H) : kT B (.bl c) H := ⟨c, rfl, q⟩
theorem r_andV (q : ta σ H (kAndV tb σ Q)) : tAndV ta tb σ H Q := q
theorem k_andV (h1 : c = true → tb σ H Q) (h2 : c = false → Q (.bl false) H) : kAndV tb σ Q (.bl c) H := ⟨c, rfl, by
  cases c with
  | true => exact h1 rfl
  | false => exact h2 rfl⟩
theorem k_andVT (q : tb σ H Q) : kAndV tb σ Q (.bl true) H := ⟨true, rfl, q⟩
theorem r_orV (q : ta σ H (kOrV tb σ Q)) : tOrV ta tb σ H Q := q
theorem k_orV (h1 : c = true → Q (.bl true) H) (h2 : c = false → tb σ H Q) : kOrV tb σ Q (.bl c) H := ⟨c, rfl, by
  cases c with
  | true => exact h1 rfl
  | false => exact h2 rfl⟩
theorem r_notV (q : ta σ H (kNotV Q)) : tNotV ta σ H Q := q
theorem k_notV (q : Q (.bl (!c)) H) : kNotV Q (.bl c) H := ⟨c, rfl, q⟩
theorem r_isN (q : ta σ H (kIsN Q)) : tIsN ta σ H Q := q
theorem r_notN (q : ta σ H (kNotN Q)) : tNotN ta σ H Q := q
theorem k_isN0 (q : Q (.bl true) H) : kIsN Q .non H := q
theorem k_isNi {n : Int} (q : Q (.bl false) H) : kIsN Q (.int n) H := q
theorem k_isNs {n : Str} (q : Q (.bl false) H) : kIsN Q (.str n) H := q
theorem k_isNr (q : Q (.bl false) H) : kIsN Q (.ref a) H := q
theorem k_notN0 (q : Q (.bl false) H) : kNotN Q .non H := q
theorem k_notNi {n : Int} (q : Q (.bl true) H) : kNotN Q (.int n) H := q
theorem k_notNs {n : Str} (q : Q (.bl true) H) : kNotN Q (.str n) H := q
theorem k_notNr (q : Q (.bl true) H) : kNotN Q (.ref a) H := q
theorem r_ifE (q : t σ H (kIfE ta tb σ Q)) : tIf t ta tb σ H Q := q
theorem k_ifE (h1 : c = true → ta σ H Q) (h2 : c = false → tb σ H Q) : kIfE ta tb σ Q c H := by
  cases c with
  | true => exact h1 rfl
  | false => exact h2 rfl
theorem k_ifET (q : ta σ H Q) : kIfE ta tb σ Q true H := q
theorem k_ifEF (q : tb σ H Q) : kIfE ta tb σ Q false H := q
theorem r_fld (q : ta σ H (kFld K f Q)) : tFld K ta f σ H Q := q
theorem k_fld (h : H a = some (.ins C dx fs)) (c : Cls K C) (n : NoAttr K C f) (l : fs.lookup f = some v) (q : Q v H) : kFld K f Q (.ref a) H := ⟨a, C, dx, fs, v, rfl, h, c, n, l, q⟩
theorem r_cons (q : ta σ H (kCons tr σ L)) : tCons ta tr σ H L := q
theorem k_cons (q : tr σ H (kCons2 x L)) : kCons tr σ L x H := q
theorem r_nil (q : L [] H) : tNil σ H L := q
theorem k_cons2 (q : L (x :: xs) H) : kCons2 x L xs H := q
theorem r_tup (q : tA σ H (kTup Q)) : tTup tA σ H Q := q
theorem r_lst (q : tA σ H (kLst Q)) : tLst tA σ H Q := q
theorem k_tup (l : xs.length ≤ sizeLine) (q : ∀ p, H p = none → Q (.ref p) (upd H p (.tup xs))) : kTup Q xs H := ⟨l, q⟩
theorem k_lst (l : xs.length ≤ sizeLine) (q : ∀ p, H p = none → Q (.ref p) (upd H p (.lst xs))) : kLst Q xs H := ⟨l, q⟩
theorem r_call {dvs : List V} (q : tA σ H (kCall sp dvs Q E)) : tCall sp dvs E tA σ H Q := q
theorem k_call (q : sp vs H Q E) : kCall sp [] Q E vs H := by
  show sp (vs ++ []) H Q E
  rw [List.append_nil]
  exact q
theorem r_meth {dvs : List V} (q : ta σ H (kMeth C m sp dvs E tA σ Q)) : tMeth C m sp dvs E ta tA σ H Q := q
theorem k_meth (h : H a = some (.ins C dx fs)) (l : fs.lookup m = none) (q : tA σ H (kMeth2 a sp Q E)) : kMeth C m sp [] E tA σ Q (.ref a) H := ⟨a, dx, fs, rfl, h, l, q⟩
theorem k_meth2 (q : sp (.ref a :: vs) H Q E) : kMeth2 a sp Q E vs H := by
  show sp (.ref a :: (vs ++ [])) H Q E
  rw [List.append_nil]
  exact q
theorem r_make {dvs : List V} (q : tA σ H (kMake C sp dvs E Q)) : tMake C sp dvs E tA σ H Q := q
theorem k_make (q : ∀ x dx, H x = none → H dx = none → dx ≠ x → sp (.ref x :: vs) (upd (upd H dx (.own x)) x (.ins C dx [])) (fun v H2 => v = .non ∧ Q (.ref x) H2) E) : kMake C sp [] E Q vs H := by
  intro x dx h1 h2 h3
  have := q x dx h1 h2 h3
  rw [List.append_nil]
  exact this
theorem r_cb {r : List V → Hp → VK → Prop} (q : tA σ H (kCB r Q)) : tCB r tA σ H Q := q
theorem k_cb {r : List V → Hp → VK → Prop} (q : r vs H Q) : kCB r Q vs H := q
theorem r_bm {T : String} {r : V → List V → Hp → VK → Prop} (q : ta σ H (kBM K T r tA σ Q)) : tBM K T r ta tA σ H Q := q
theorem r_bm0 {T : String} {r : V → List V → Hp → VK → Prop} (q : ta σ H (kBM0 K T r Q)) : tBM0 K T r ta σ H Q := q
theorem k_bmL {r : V → List V → Hp → VK → Prop} (h : H a = some (.lst xs)) (q : tA σ H (kBM2 r (.ref a) Q)) : kBM K "list" r tA σ Q (.ref a) H := ⟨.inl ⟨rfl, _, SqL.of h⟩, q⟩
theorem k_bm0L {r : V → List V → Hp → VK → Prop} (h : H a = some (.lst xs)) (q : r (.ref a) [] H Q) : kBM0 K "list" r Q (.ref a) H := ⟨.inl ⟨rfl, _, SqL.of h⟩, q⟩
theorem k_append (h : H a = some (.lst xs)) (l : xs.length < sizeLine) (q : Q .non (upd H a (.lst (xs ++ [x])))) : kBM2 rAppend (.ref a) Q [x] H := ⟨a, xs, x, rfl, rfl, h, l, q⟩
theorem x_pop (h : H a = some (.lst xs)) (e : xs[xs.length - 1]? = some y) (q : Q y (upd H a (.lst xs.dropLast))) : rPop (.ref a) [] H Q := ⟨a, xs, y, rfl, rfl, h, e, q⟩
theorem r_dget (q : td σ H (kDG ty σ Q)) : tDGet td ty σ H Q := q
theorem k_dg (q : ty σ H (kDG2 x Q)) : kDG ty σ Q x H := q
theorem k_dg2 {kvs : List (Key × V)} {k : Key} (h : Rd H a (.dK kvs)) (e : valV kvs k = some v) (q : Q v H) : kDG2 (.ref a) Q (kV k) H := ⟨a, v, rfl, .inl ⟨kvs, k, h, rfl, e.symm⟩, q⟩
theorem k_dg2i {kvs : List (Key × V)} {k : Int} (h : Rd H a (.dK kvs)) (e : valV kvs (.inl k) = some v) (q : Q v H) : kDG2 (.ref a) Q (.int k) H := k_dg2 (k := .inl k) h e q
theorem k_dg2s {kvs : List (Key × V)} {k : Str} (h : Rd H a (.dK kvs)) (e : valV kvs (.inr k) = some v) (q : Q v H) : kDG2 (.ref a) Q (.str k) H := k_dg2 (k := .inr k) h e q
theorem r_din (q : ty σ H (kDI td false σ Q)) : tDIn ty td σ H Q := q
theorem r_dnin (q : ty σ H (kDI td true σ Q)) : tDNotIn ty td σ H Q := q
theorem k_di {n : Bool} (q : td σ H (kDI2 y n Q)) : kDI td n σ Q y H := q
theorem k_di2i {kvs : List (Key × V)} {k : Int} (h : Rd H a (.dK kvs)) (q : Q (.bl (valV kvs (.inl k)).isSome) H) : kDI2 (.int k) false Q (.ref a) H := ⟨a, _, rfl, .inl ⟨kvs, .inl k, h, rfl, rfl⟩, q⟩
theorem k_di2s {kvs : List (Key × V)} {k : Str} (h : Rd H a (.dK kvs)) (q : Q (.bl (valV kvs (.inr k)).isSome) H) : kDI2 (.str k) false Q (.ref a) H := ⟨a, _, rfl, .inl ⟨kvs, .inr k, h, rfl, rfl⟩, q⟩
theorem k_dn2i {kvs : List (Key × V)} {k : Int} (h : Rd H a (.dK kvs)) (q : Q (.bl (!(valV kvs (.inl k)).isSome)) H) : kDI2 (.int k) true Q (.ref a) H := ⟨a, _, rfl, .inl ⟨kvs, .inl k, h, rfl, rfl⟩, q⟩
theorem k_dn2s {kvs : List (Key × V)} {k : Str} (h : Rd H a (.dK kvs)) (q : Q (.bl (!(valV kvs (.inr k)).isSome)) H) : kDI2 (.str k) true Q (.ref a) H := ⟨a, _, rfl, .inl ⟨kvs, .inr k, h, rfl, rfl⟩, q⟩
theorem r_chain (q : ta σ H (kCh r r' tb tc σ Q)) : tChain r r' ta tb tc σ H Q := q
theorem k_ch (q : tb σ H (kCh2 r r' x tc σ Q)) : kCh r r' tb tc σ Q x H := q
theorem k_ch2 (q : r x y H (kCh3 r' y tc σ Q)) : kCh2 r r' x tc σ Q y H := q
theorem k_ch3 (h1 : c = true → tc σ H (kOp2 r' y Q)) (h2 : c = false → Q (.bl false) H) : kCh3 r' y tc σ Q (.bl c) H := ⟨c, rfl, by
  cases c with
  | true => exact h1 rfl
  | false => exact h2 rfl⟩
theorem r_slice {r : V → Option Int → Option Int → Hp → VK → Prop} {tl th : TO} (q : te σ H (kSl r tl th σ Q)) : tSl r te tl th σ H Q := q
theorem k_sl {r : V → Option Int → Option Int → Hp → VK → Prop} {tl th : TO} (q : tl σ H (kSl2 r x th σ Q)) : kSl r tl th σ Q x H := q
theorem k_sl2 {r : V → Option Int → Option Int → Hp → VK → Prop} {th : TO} {l : Option Int} (q : th σ H (kSl3 r x l Q)) : kSl2 r x th σ Q l H := q
theorem k_sl3 {r : V → Option Int → Option Int → Hp → VK → Prop} {l h : Option Int} (q : r x l h H Q) : kSl3 r x l Q h H := q
theorem r_nopart {O : Option Int → Hp → Prop} (q : O none H) : tNoPart σ H O := q
theorem r_part {O : Option Int → Hp → Prop} (q : ta σ H (kPart O)) : tPart ta σ H O := q
theorem k_part {O : Option Int → Hp → Prop} {n : Int} (q : O (some n) H) : kPart O (.int n) H := ⟨n, rfl, q⟩
/-! #### statements -/
theorem r_seq (q : ts ⟨us ⟨nx, rt, bk, ct⟩, rt, bk, ct⟩ σ H) : tSeq ts us ⟨nx, rt, bk, ct⟩ σ H := q
theorem r_next (q : nx σ H) : tNext ⟨nx, rt, bk, ct⟩ σ H := q
theorem r_ret (q : ta σ H rt) : tRet ta ⟨nx, rt, bk, ct⟩ σ H := q
theorem r_retN (q : rt .non H) : tRetN ⟨nx, rt, bk, ct⟩ σ H := q
theorem r_brk (q : bk σ H) : tBreak ⟨nx, rt, bk, ct⟩ σ H := q
theorem r_drop (q : ta σ H (kDrop nx σ)) : tDrop ta ⟨nx, rt, bk, ct⟩ σ H := q
theorem k_drop (q : nx σ H) : kDrop nx σ x H := q
theorem r_if (q : t σ H (kIf ts us D σ)) : tIfS t ts us D σ H := q
theorem k_if (h1 : c = true → ts D σ H) (h2 : c = false → us D σ H) : kIf ts us D σ c H := by
  cases c with
  | true => exact h1 rfl
  | false => exact h2 rfl
theorem k_ifT (q : ts D σ H) : kIf ts us D σ true H := q
theorem k_ifF (q : us D σ H) : kIf ts us D σ false H := q
theorem r_asg (q : ta σ H (kAsg g nx σ)) : tAsg ta g ⟨nx, rt, bk, ct⟩ σ H := q
theorem k_asg (q : g x σ H nx) : kAsg g nx σ x H := q
theorem g_name {N : L2.St → Hp → Prop} (e : σ.set i (some x) = σ') (q : N σ' H) : gName i x σ H N := by
  show N (σ.set i (some x)) H
  rw [e]
  exact q
theorem g_nil {N : L2.St → Hp → Prop} (q : N σ H) : gNil [] σ H N := ⟨rfl, q⟩
theorem g_cons {N : L2.St → Hp → Prop} {gs : TGs} (q : g x σ H fun σ' H' => gs xs σ' H' N) : gCons g gs (x :: xs) σ H N := ⟨x, xs, rfl, q⟩
theorem g_tup {N : L2.St → Hp → Prop} {gs : TGs} {n : Nat} (h : SqT K H a xs) (l : xs.length = n) (q : gs xs σ H N) : gTup K n gs (.ref a) σ H N := ⟨a, xs, rfl, h, l, q⟩
theorem g_sub {N : L2.St → Hp → Prop} {t : TSet} (q : ta σ H (kSub tb t v σ N)) : gSub ta tb t v σ H N := q
theorem k_sub {N : L2.St → Hp → Prop} {t : TSet} (q : tb σ H (kSub2 t x v σ N)) : kSub tb t v σ N x H := q
theorem k_sub2 {N : L2.St → Hp → Prop} {n : Int} (h : H a = some (.lst xs)) (e : ixN xs.length n = some j) (q : N σ (upd H a (.lst (xs.set j v)))) : kSub2 rSetL (.ref a) v σ N (.int n) H := ⟨a, xs, n, j, rfl, rfl, h, e, q⟩
theorem r_setF (q : tv σ H (kSF K ta f nx σ)) : sFld K ta tv f ⟨nx, rt, bk, ct⟩ σ H := q
theorem k_sf (q : ta σ H (kSF2 K f nx σ x)) : kSF K ta f nx σ x H := q
theorem k_sf2 (h : H a = some (.ins C dx fs)) (c : Cls K C) (n : NoAttr K C f) (l : fs.length < 1000) (q : nx σ (upd H a (.ins C dx (putF f y fs)))) : kSF2 K f nx σ y (.ref a) H := ⟨a, C, dx, fs, rfl, h, c, n, l, q⟩
theorem r_augF {rd : V → V → Hp → VK → Prop} (q : ta σ H (kFA K tv rd f nx σ)) : sFldAug K ta tv rd f ⟨nx, rt, bk, ct⟩ σ H := q
theorem k_faI {n : Int} {G : Int → Int → Int} {rd : V → V → Hp → VK → Prop} {k : Int} (h : H a = some (.ins C dx fs)) (c : Cls K C) (nn : NoAttr K C f) (l : fs.lookup f = some (.int n)) (tvh : tv = tC (.int k)) (hrd : ∀ Q' : VK, Q' (.int (G n k)) H → rd (.int n) (.int k) H Q') (l2 : fs.length < 1000)
    (q : nx σ (upd H a (.ins C dx (putF f (.int (G n k)) fs)))) : kFA K tv rd f nx σ (.ref a) H := by
  subst tvh
  exact ⟨a, C, dx, fs, _, rfl, h, c, nn, l, hrd _ ⟨dx, fs, h, l2, q⟩⟩
theorem r_aug {ti : TIp} (h : σ[i]? = some (some x)) (q : ta σ H (kAug i x ti nx σ)) : tAug i ta ti ⟨nx, rt, bk, ct⟩ σ H := ⟨x, h, q⟩
theorem k_augI {G : Int → Int → Int} {n k : Int} (e : σ.set i (some (.int (G n k))) = σ') (q : nx σ' H) : kAug i (.int n) (ipI G) nx σ (.int k) H := by
  refine ⟨n, k, rfl, rfl, ?_⟩
  show nx (σ.set i (some (.int (G n k)))) H
  rw [e]
  exact q
theorem r_dput (q : tv σ H (kDP td ty nx σ)) : sDPut td ty tv ⟨nx, rt, bk, ct⟩ σ H := q
theorem k_dp (q : td σ H (kDP2 ty nx σ x)) : kDP td ty nx σ x H := q
theorem k_dp2 (q : ty σ H (kDP3 nx σ y x)) : kDP2 ty nx σ y x H := q
theorem k_dp3i {kvs : List (Key × V)} {k : Int} (h : H a = some (.dK kvs)) (l : kvs.length < sizeLine) (q : nx σ (upd H a (.dK (putK kvs (.inl k) v)))) : kDP3 nx σ v (.ref a) (.int k) H := ⟨a, _, rfl, DPut.k (k := .inl k) h l, q⟩
theorem k_dp3s {kvs : List (Key × V)} {k : Str} (h : H a = some (.dK kvs)) (l : kvs.length < sizeLine) (q : nx σ (upd H a (.dK (putK kvs (.inr k) v)))) : kDP3 nx σ v (.ref a) (.str k) H := ⟨a, _, rfl, DPut.k (k := .inr k) h l, q⟩
theorem r_for {wi : TI} (q : wi σ H (kFor g ts D σ)) : tFor wi g ts D σ H := q
theorem r_iL {R : It → Hp → Prop} (q : ta σ H (kIL K R)) : iList K ta σ H R := q
theorem k_iL {R : It → Hp → Prop} (h : SqL K H a xs) (q : R (Itl K a) H) : kIL K R (.ref a) H := ⟨a, rfl, ⟨xs, h⟩, q⟩
theorem r_iT {R : It → Hp → Prop} (q : ta σ H (kIT K R)) : iTup K ta σ H R := q
theorem k_iT {R : It → Hp → Prop} (h : SqT K H a xs) (q : R (Itt K a) H) : kIT K R (.ref a) H := ⟨a, rfl, ⟨xs, h⟩, q⟩
theorem r_iR {R : It → Hp → Prop} (q : tA σ H (kIR R)) : iRng1 tA σ H R := q
theorem k_iR {R : It → Hp → Prop} {n : Int} (h1 : -(2 ^ 62) ≤ n) (h2 : n < 2 ^ 62) (q : R (Itr 0 n.toNat) H) : kIR R [.int n] H := ⟨n, rfl, h1, h2, q⟩
end
end Wh

/-! ## S0b -/
set_option Elab.async false
set_option linter.all false
set_option maxRecDepth 100000
set_option maxHeartbeats 2000000
namespace Wh
open PySem PySem.Spec PyProof.Rows L2
/-! ### what is walked without a new object -/
structure Itx (J : It) (xs : List V) (Ok : Hp → Prop) : Prop where
  go : ∀ i H, Ok H → i < xs.length → J.go i H
  yld : ∀ i H x H', Ok H → i < xs.length → J.yld i H x H' → H' = H ∧ xs[i]? = some x
  stop : ∀ H, Ok H → J.stop xs.length H
theorem itx_l (K : PySem.W.Frag) (a : Addr) (xs : List V) : Itx (Itl K a) xs (fun H => SqL K H a xs) :=
  ⟨fun i H h l => ⟨xs, xs[i], h, List.getElem?_eq_getElem l⟩, fun i H x H' h _ y => ⟨y.1, y.2 xs h⟩, fun H h => ⟨xs, h, Nat.le_refl _⟩⟩
theorem itx_t (K : PySem.W.Frag) (a : Addr) (xs : List V) : Itx (Itt K a) xs (fun H => SqT K H a xs) :=
  ⟨fun i H h l => ⟨xs, xs[i], h, List.getElem?_eq_getElem l⟩, fun i H x H' h _ y => ⟨y.1, y.2 xs h⟩, fun H h => ⟨xs, h, Nat.le_refl _⟩⟩
theorem itx_r (lo : Int) (n : Nat) : Itx (Itr lo n) ((List.range n).map fun (i : Nat) => V.int (lo + (i : Int))) (fun _ => True) :=
  ⟨fun i H h l => by
    have l2 : i < n := by simpa using l
    exact l2, fun i H x H' h l y => by
    obtain ⟨e, rfl⟩ := y
    refine ⟨e, ?_⟩
    have l2 : i < n := by simpa using l
    rw [List.getElem?_map, List.getElem?_range l2]
    rfl, fun H h => by show n ≤ _; simp⟩
theorem itx_s (x : Str) : Itx (Its x) (x.cps.toList.map fun c => V.str ⟨#[c]⟩) (fun _ => True) :=
  ⟨fun i H h l => by
    have l2 : i < x.cps.size := by simpa using l
    exact l2, fun i H v H' h l y => by
    obtain ⟨e, c, hc, rfl⟩ := y
    refine ⟨e, ?_⟩
    rw [List.getElem?_map, Array.getElem?_toList, hc]
    rfl, fun H h => by show x.cps.size ≤ _; simp⟩
theorem itx_d (d : Addr) (o : Obj) (kvs : List (Key × V)) : Itx (Itd d o kvs) (kvs.map (·.2)) (fun H => H d = some (.frz o (.dK kvs))) :=
  ⟨fun i H h l => ⟨h, by simpa using l⟩, fun i H x H' h l y => by
    obtain ⟨e, k, hk⟩ := y
    refine ⟨e, ?_⟩
    rw [List.getElem?_map, hk]
    rfl, fun H h => ⟨h, by simp⟩⟩
theorem itx_k (d : Addr) (o : Obj) (kvs : List (Key × V)) : Itx (Itk d o kvs) (kvs.map fun kv => kV kv.1) (fun H => H d = some (.frz o (.dK kvs))) :=
  ⟨fun i H h l => ⟨h, by simpa using l⟩, fun i H x H' h l y => by
    obtain ⟨e, k, v, hk, rfl⟩ := y
    refine ⟨e, ?_⟩
    rw [List.getElem?_map, hk]
    rfl, fun H h => ⟨h, by simp⟩⟩
theorem itx_n (P : Program) (w : World) (d : Addr) (o : Obj) (xs : List NE) : Itx (Itn P w d o xs) (xs.map fun e => V.ref e.2.1) (fun H => H d = some (.frz o (nkD P w d xs))) :=
  ⟨fun i H h l => ⟨h, by simpa using l⟩, fun i H x H' h l y => by
    obtain ⟨e, k, hk, rfl⟩ := y
    refine ⟨e, ?_⟩
    rw [List.getElem?_map, hk]
    rfl, fun H h => ⟨h, by simp⟩⟩
/-! ### comprehensions -/
def kLc (g : TG) (tt : TT) (te : TE) (vs : List Nat) (σ : L2.St) (Q : VK) : It → Hp → Prop := fun J H1 => ∀ D, H1 D = none → ∃ W : Nat → Nat → Hp → Prop, (∃ m, W 0 m (upd H1 D (.lst []))) ∧ ∀ i m H, W i m H →
  (J.stop i H ∧ Q (.ref D) H) ∨ (J.go i H ∧ ∃ Nx : Hp → Prop, (∀ H', Nx H' → ∃ m', m' < m ∧ W (i + 1) m' H') ∧ ∀ x H', J.yld i H x H' → g x (wipe σ vs) H' fun σ2 H2 => wipe σ2 vs = wipe σ vs ∧ tt σ2 H2 fun b H3 =>
    if b = true then te σ2 H3 fun y H4 => ∃ acc, H4 D = some (.lst acc) ∧ acc.length < sizeLine ∧ Nx (upd H4 D (.lst (acc ++ [y]))) else Nx H3)
section
variable {K : PySem.W.Frag} {σ : L2.St} {H : Hp} {Q : VK} {g : TG} {tt : TT} {te tl : TE} {vs : List Nat} {J : It} {xs : List V} {Ok : Hp → Prop} {wi : TI}
theorem r_lc (q : wi σ H (kLc g tt te vs σ Q)) : tLc wi g tt te vs σ H Q := q
def kEl (Pv : Nat → List V → Addr → Hp → Prop) (i : Nat) (D : Addr) : VK := fun y H4 => ∃ acc, H4 D = some (.lst acc) ∧ acc.length < sizeLine ∧ ∃ acc2, Pv (i + 1) acc2 D (upd H4 D (.lst (acc ++ [y])))
theorem k_el {Pv : Nat → List V → Addr → Hp → Prop} {i : Nat} {D : Addr} {y : V} {acc : List V} (h : H D = some (.lst acc)) (l : acc.length < sizeLine) (q : Pv (i + 1) (acc ++ [y]) D (upd H D (.lst (acc ++ [y])))) : kEl Pv i D y H := ⟨acc, h, l, _, q⟩
/-- a comprehension whose elements may change the heap: Pv i acc D H by i taken and the list so far -/
theorem k_lcI (W : Itx J xs Ok) (Pv : Nat → List V → Addr → Hp → Prop)
    (h0 : ∀ D, H D = none → Pv 0 [] D (upd H D (.lst []))) (hk : ∀ i acc D H', Pv i acc D H' → Ok H')
    (hs : ∀ i x acc D H', xs[i]? = some x → Pv i acc D H' → g x (wipe σ vs) H' fun σ2 H2 => wipe σ2 vs = wipe σ vs ∧ tt σ2 H2 fun b H3 => if b = true then te σ2 H3 (kEl Pv i D) else ∃ acc, Pv (i + 1) acc D H3)
    (hd : ∀ acc D H', Pv xs.length acc D H' → Q (.ref D) H') : kLc g tt te vs σ Q J H := by
  intro D hD
  refine ⟨fun i m H' => m = xs.length - i ∧ i ≤ xs.length ∧ ∃ acc, Pv i acc D H', ⟨xs.length, by simp, Nat.zero_le _, [], h0 D hD⟩, ?_⟩
  rintro i m H' ⟨rfl, hi, acc, p⟩
  have ok := hk i acc D H' p
  by_cases hlt : i < xs.length
  · refine .inr ⟨W.go i H' ok hlt, fun H2 => ∃ acc, Pv (i + 1) acc D H2, fun H2 p2 => ⟨xs.length - (i + 1), by omega, rfl, hlt, p2⟩, fun x H2 y => ?_⟩
    obtain ⟨e, hx⟩ := W.yld i H' x H2 ok hlt y
    subst e
    exact hs i x acc D H2 hx p
  · have e : i = xs.length := by omega
    subst e
    exact .inl ⟨W.stop H' ok, hd acc D H' p⟩
/-- what an element does: kept as F x, or left out -/
def elS (g : TG) (tt : TT) (te : TE) (vs : List Nat) (σ : L2.St) (N : Option V → Hp → Prop) (x : V) (H : Hp) : Prop :=
  g x (wipe σ vs) H fun σ2 H2 => wipe σ2 vs = wipe σ vs ∧ tt σ2 H2 fun b H3 => if b = true then te σ2 H3 (fun y H4 => N (some y) H4) else N none H3
/-- a comprehension that changes nothing -/
theorem k_lcP (W : Itx J xs Ok) (F : V → Option V) (ok : ∀ H', Same H H' → Ok H') (hz : xs.length < sizeLine)
    (hs : ∀ x H' (N : Option V → Hp → Prop), x ∈ xs → Same H H' → (∀ H4, Same H' H4 → N (F x) H4) → elS g tt te vs σ N x H')
    (hd : ∀ D H', H D = none → Same H H' → H' D = some (.lst (xs.filterMap F)) → Q (.ref D) H') : kLc g tt te vs σ Q J H := by
  have sm : ∀ {D : Addr} {H1 : Hp} {o : HO}, H D = none → Same H H1 → Same H (upd H1 D o) := fun {D H1 o} hD k a u e => by
    rw [upd_ne (ne_of_none e hD)]
    exact k a u e
  refine k_lcI W (fun i acc D H' => H D = none ∧ Same H H' ∧ H' D = some (.lst acc) ∧ acc = (xs.take i).filterMap F) (fun D hD => ⟨hD, sm hD (Same.refl H), upd_same, by simp⟩) (fun i acc D H' p => ok H' p.2.1) ?_ (fun acc D H' p => ?_)
  · rintro i x acc D H' hx ⟨hD, k, e, ea⟩
    have hl : i < xs.length := (List.getElem?_eq_some_iff.mp hx).1
    have ht : xs.take (i + 1) = xs.take i ++ [x] := by
      rw [List.take_add_one, hx]
      rfl
    have hlen : acc.length < sizeLine := by
      rw [ea]
      have h1 := List.length_filterMap_le F (xs.take i)
      have h2 : (xs.take i).length ≤ xs.length := by
        rw [List.length_take]
        omega
      omega
    have := hs x H' (fun o H4 => match o with
      | some y => kEl (fun i acc D H' => H D = none ∧ Same H H' ∧ H' D = some (.lst acc) ∧ acc = (xs.take i).filterMap F) i D y H4
      | none => ∃ acc, H D = none ∧ Same H H4 ∧ H4 D = some (.lst acc) ∧ acc = (xs.take (i + 1)).filterMap F) (List.mem_of_getElem? hx) k (fun H4 k4 => ?_)
    · exact this
    · cases hF : F x with
      | some y =>
        refine k_el (k4 _ _ e) hlen ⟨hD, sm hD (k.trans k4), upd_same, ?_⟩
        rw [ht, List.filterMap_append, ea, List.filterMap_cons, hF]
        rfl
      | none =>
        refine ⟨acc, hD, k.trans k4, k4 _ _ e, ?_⟩
        rw [ht, List.filterMap_append, ea, List.filterMap_cons, hF]
        simp
  · obtain ⟨hD, k, e, ea⟩ := p
    rw [ea, List.take_length] at e
    exact hd D H' hD k e
/-- no test, a name as target -/
theorem el_name {j : Nat} {N : Option V → Hp → Prop} {x : V} (hw : wipe ((wipe σ vs).set j (some x)) vs = wipe σ vs) (q : te ((wipe σ vs).set j (some x)) H fun y H4 => N (some y) H4) : elS (gName j) tYes te vs σ N x H := ⟨hw, q⟩
end
/-! ### locks, loops -/
section
variable {K : PySem.W.Frag} {σ : L2.St} {H : Hp} {Q : VK} {g : TG} {ts : TS} {te : TE} {nx bk ct : L2.St → Hp → Prop} {rt : VK} {J : It} {xs : List V} {Ok : Hp → Prop} {d : Addr} {u : HO} {D : Ends}
theorem r_lockE (h : H d = some u) (m : Mut (some u)) (q : ∀ od, te σ (upd H d (.frz od u)) fun v H' => H' d = some (.frz od u) ∧ Q v (upd H' d u)) : tLockE te σ H Q := ⟨d, u, h, m, q⟩
theorem r_lock (h : H d = some u) (m : Mut (some u)) (q : ∀ od, ts ⟨fun σ' H' => H' d = some (.frz od u) ∧ nx σ' (upd H' d u), fun v H' => H' d = some (.frz od u) ∧ rt v (upd H' d u), fun σ' H' => H' d = some (.frz od u) ∧ bk σ' (upd H' d u), fun σ' H' => H' d = some (.frz od u) ∧ ct σ' (upd H' d u)⟩ σ (upd H d (.frz od u))) : tLock ts ⟨nx, rt, bk, ct⟩ σ H := ⟨d, u, h, m, q⟩
/-- a for by its invariant -/
theorem k_for (W : Itx J xs Ok) (Pv : Nat → L2.St → Hp → Prop) (h0 : Pv 0 σ H) (hk : ∀ i σ' H', i ≤ xs.length → Pv i σ' H' → Ok H')
    (hs : ∀ i x σ' H', xs[i]? = some x → Pv i σ' H' → g x σ' H' fun σ2 H2 => ts ⟨Pv (i + 1), rt, nx, Pv (i + 1)⟩ σ2 H2) (hd : ∀ σ' H', Pv xs.length σ' H' → nx σ' H') : kFor g ts ⟨nx, rt, bk, ct⟩ σ J H := by
  refine ⟨fun i m σ H => m = xs.length - i ∧ i ≤ xs.length ∧ Pv i σ H, ⟨xs.length, by simp, Nat.zero_le _, h0⟩, ?_⟩
  rintro i m σ H ⟨rfl, hi, p⟩
  have ok := hk i σ H hi p
  by_cases hlt : i < xs.length
  · refine .inr ⟨W.go i H ok hlt, Pv (i + 1), fun σ' H' p' => ⟨xs.length - (i + 1), by omega, rfl, hlt, p'⟩, fun x H' y => ?_⟩
    obtain ⟨e, hx⟩ := W.yld i H x H' ok hlt y
    subst e
    exact hs i x σ _ hx p
  · have e : i = xs.length := by omega
    subst e
    exact .inl ⟨W.stop H ok, hd σ H p⟩
/-- a while by its invariant and what falls -/
def kWh (Pv : Nat → L2.St → Hp → Prop) (m : Nat) (ts : TS) (nx : L2.St → Hp → Prop) (rt : VK) (σ : L2.St) : Bool → Hp → Prop := fun b H1 =>
  if b = true then ∃ N : L2.St → Hp → Prop, (∀ σ' H', N σ' H' → ∃ m', m' < m ∧ Pv m' σ' H') ∧ ts ⟨N, rt, nx, N⟩ σ H1 else nx σ H1
theorem k_wh {Pv : Nat → L2.St → Hp → Prop} {m : Nat} {c : Bool} (h1 : c = true → ts ⟨fun σ2 H2 => ∃ m', m' < m ∧ Pv m' σ2 H2, rt, nx, fun σ2 H2 => ∃ m', m' < m ∧ Pv m' σ2 H2⟩ σ H) (h2 : c = false → nx σ H) : kWh Pv m ts nx rt σ c H := by
  cases c with
  | true => exact ⟨_, fun _ _ h => h, h1 rfl⟩
  | false => exact h2 rfl
theorem r_while {c : TT} (Pv : Nat → L2.St → Hp → Prop) (m0 : Nat) (h0 : Pv m0 σ H)
    (hs : ∀ m σ' H', Pv m σ' H' → c σ' H' (kWh Pv m ts nx rt σ')) : tWhile c ts ⟨nx, rt, bk, ct⟩ σ H := ⟨Pv, ⟨m0, h0⟩, hs⟩
end
end Wh

/-! ## S0c -/
set_option Elab.async false
set_option linter.all false
set_option maxRecDepth 100000
set_option maxHeartbeats 2000000
namespace Wh
open PySem PySem.Spec PyProof.Rows L2 PySem.W
/-! ### more steps -/
def kIS (R : It → Hp → Prop) : VK := fun v H1 => ∃ x, v = .str x ∧ R (Its x) H1
def kIK (R : It → Hp → Prop) : VK := fun x H1 => ∃ d o, x = .ref d ∧ ((∃ kvs, H1 d = some (.frz o (.dK kvs)) ∧ R (Itk d o kvs) H1) ∨ ∃ kvs, H1 d = some (.frz o (.dT kvs)) ∧ R (Itkt d o kvs) H1)
def kIV (R : It → Hp → Prop) : VK := fun x H1 => ∃ d o kvs, x = .ref d ∧ H1 d = some (.frz o (.dK kvs)) ∧ R (Itd d o kvs) H1
def kIE (K : PySem.W.Frag) (R : It → Hp → Prop) : List V → Hp → Prop := fun vs H1 => ∃ a xs, vs = [.ref a] ∧ SqL K H1 a xs ∧ R (Ite K a) H1
def kIN (P : Program) (w : World) (R : It → Hp → Prop) : VK := fun x H1 => ∃ d o xs, x = .ref d ∧ H1 d = some (.frz o (nkD P w d xs)) ∧ R (Itn P w d o xs) H1
def kDG2a (ty tx : TE) (σ : L2.St) (Q : VK) : VK := fun x H1 => ∃ a, x = .ref a ∧ IsD H1 a ∧ ty σ H1 fun y H2 => tx σ H2 fun z H3 => ∃ o, DGet H3 a y o ∧ Q (o.getD z) H3
def kDG2b (a : Addr) (tx : TE) (σ : L2.St) (Q : VK) : VK := fun y H2 => tx σ H2 fun z H3 => ∃ o, DGet H3 a y o ∧ Q (o.getD z) H3
def kDG2c (a : Addr) (y : V) (Q : VK) : VK := fun z H3 => ∃ o, DGet H3 a y o ∧ Q (o.getD z) H3
def kPop1 (ty : TE) (σ : L2.St) (Q : VK) : VK := fun x H1 => ∃ a, x = .ref a ∧ IsD H1 a ∧ ty σ H1 fun y H2 => ∃ kvs k v, H2 a = some (.dK kvs) ∧ y = kV k ∧ valV kvs k = some v ∧ Q v (upd H2 a (.dK (dropK kvs k)))
def kPop1b (a : Addr) (Q : VK) : VK := fun y H2 => ∃ kvs k v, H2 a = some (.dK kvs) ∧ y = kV k ∧ valV kvs k = some v ∧ Q v (upd H2 a (.dK (dropK kvs k)))
def kPop2 (ty tx : TE) (σ : L2.St) (Q : VK) : VK := fun x H1 => ∃ a, x = .ref a ∧ IsD H1 a ∧ ty σ H1 fun y H2 => tx σ H2 fun z H3 => ∃ kvs k, H3 a = some (.dK kvs) ∧ y = kV k ∧
  (∀ v, valV kvs k = some v → Q v (upd H3 a (.dK (dropK kvs k)))) ∧ (valV kvs k = none → Q z H3)
def kPop2b (a : Addr) (tx : TE) (σ : L2.St) (Q : VK) : VK := fun y H2 => tx σ H2 fun z H3 => ∃ kvs k, H3 a = some (.dK kvs) ∧ y = kV k ∧
  (∀ v, valV kvs k = some v → Q v (upd H3 a (.dK (dropK kvs k)))) ∧ (valV kvs k = none → Q z H3)
def kPop2c (a : Addr) (y : V) (Q : VK) : VK := fun z H3 => ∃ kvs k, H3 a = some (.dK kvs) ∧ y = kV k ∧
  (∀ v, valV kvs k = some v → Q v (upd H3 a (.dK (dropK kvs k)))) ∧ (valV kvs k = none → Q z H3)
def kMkK (C : Addr) (n m : Nat) (sp : Sp) (gV : List V → List V → List V) (E : XK) (tk : TA) (σ : L2.St) (Q : VK) : List V → Hp → Prop := fun vs H1 => tk σ H1 fun zs H2 => vs.length = n ∧ zs.length = m ∧ ∀ x dx, H2 x = none → H2 dx = none → dx ≠ x →
  sp (gV (.ref x :: vs) zs) (upd (upd H2 dx (.own x)) x (.ins C dx [])) (fun v H3 => v = .non ∧ Q (.ref x) H3) E
def kMkK2 (C : Addr) (n m : Nat) (sp : Sp) (gV : List V → List V → List V) (E : XK) (vs : List V) (Q : VK) : List V → Hp → Prop := fun zs H2 => vs.length = n ∧ zs.length = m ∧ ∀ x dx, H2 x = none → H2 dx = none → dx ≠ x →
  sp (gV (.ref x :: vs) zs) (upd (upd H2 dx (.own x)) x (.ins C dx [])) (fun v H3 => v = .non ∧ Q (.ref x) H3) E
def kKw (r : List V → List V → Hp → VK → Prop) (tk : TA) (σ : L2.St) (Q : VK) : List V → Hp → Prop := fun vs H1 => tk σ H1 fun zs H2 => r vs zs H2 Q
def kKw2 (r : List V → List V → Hp → VK → Prop) (vs : List V) (Q : VK) : List V → Hp → Prop := fun zs H2 => r vs zs H2 Q
def kM1 (r : V → List V → Hp → VK → Prop) (te : TE) (σ : L2.St) (Q : VK) : VK := fun x H1 => (∃ a, x = .str a) ∧ te σ H1 fun y H2 => r x [y] H2 Q
def kM1b (r : V → List V → Hp → VK → Prop) (x : V) (Q : VK) : VK := fun y H2 => r x [y] H2 Q
def kAS1 (ti te : TE) (tget : V → V → Hp → VK → Prop) (tip : TIp) (tset : TSet) (nx : L2.St → Hp → Prop) (σ : L2.St) : VK := fun o H1 => ti σ H1 fun i H2 => tget o i H2 fun x H3 => te σ H3 fun y H4 => tip x y H4 fun z H5 => tset o i z H5 fun H6 => nx σ H6
def kAS2 (te : TE) (tget : V → V → Hp → VK → Prop) (tip : TIp) (tset : TSet) (nx : L2.St → Hp → Prop) (σ : L2.St) (o : V) : VK := fun i H2 => tget o i H2 fun x H3 => te σ H3 fun y H4 => tip x y H4 fun z H5 => tset o i z H5 fun H6 => nx σ H6
def kAS3 (tip : TIp) (tset : TSet) (nx : L2.St → Hp → Prop) (σ : L2.St) (o i x : V) : VK := fun y H4 => tip x y H4 fun z H5 => tset o i z H5 fun H6 => nx σ H6
section
variable {K : PySem.W.Frag} {P : Program} {w : World} {i j : Nat} {v x y z : V} {σ σ' : L2.St} {H : Hp} {Q : VK} {ta tb tc tv td tx ty te : TE} {g : TG} {ts : TS} {nx bk ct : L2.St → Hp → Prop} {rt : VK} {a d p C : Addr} {kvs : List (Key × V)} {vs zs : List V} {t tk tA : TA} {R : It → Hp → Prop} {o : Obj} {sp : Sp} {E : XK} {D : Ends}
theorem r_iS (q : te σ H (kIS R)) : iStr te σ H R := q
theorem k_iS {s : Str} (q : R (Its s) H) : kIS R (.str s) H := ⟨s, rfl, q⟩
theorem r_iK (q : td σ H (kIK R)) : iKeys td σ H R := q
theorem k_iK (h : H d = some (.frz o (.dK kvs))) (q : R (Itk d o kvs) H) : kIK R (.ref d) H := ⟨d, o, rfl, .inl ⟨kvs, h, q⟩⟩
theorem r_iV (q : td σ H (kIV R)) : iVals td σ H R := q
theorem k_iV (h : H d = some (.frz o (.dK kvs))) (q : R (Itd d o kvs) H) : kIV R (.ref d) H := ⟨d, o, kvs, rfl, h, q⟩
theorem r_iE (q : tA σ H (kIE K R)) : iEnum K tA σ H R := q
theorem k_iE {xs : List V} (h : SqL K H a xs) (q : R (Ite K a) H) : kIE K R [.ref a] H := ⟨a, xs, rfl, h, q⟩
theorem r_iN (q : td σ H (kIN P w R)) : iNKeys P w td σ H R := q
theorem k_iN {xs : List NE} (h : H d = some (.frz o (nkD P w d xs))) (q : R (Itn P w d o xs) H) : kIN P w R (.ref d) H := ⟨d, o, xs, rfl, h, q⟩
theorem r_dg2 (q : td σ H (kDG2a ty tx σ Q)) : tDGet2 td ty tx σ H Q := q
theorem k_dg2a (h : Rd H a (.dK kvs)) (q : ty σ H (kDG2b a tx σ Q)) : kDG2a ty tx σ Q (.ref a) H := ⟨a, rfl, .inl ⟨kvs, h⟩, q⟩
theorem k_dg2b (q : tx σ H (kDG2c a y Q)) : kDG2b a tx σ Q y H := q
theorem k_dg2cs {n : Str} (h : Rd H a (.dK kvs)) (q : Q ((valV kvs (.inr n)).getD z) H) : kDG2c a (.str n) Q z H := ⟨_, .inl ⟨kvs, .inr n, h, rfl, rfl⟩, q⟩
theorem r_pop1 (q : td σ H (kPop1 ty σ Q)) : tDPop1 td ty σ H Q := q
theorem k_pop1 (h : Rd H a (.dK kvs)) (q : ty σ H (kPop1b a Q)) : kPop1 ty σ Q (.ref a) H := ⟨a, rfl, .inl ⟨kvs, h⟩, q⟩
theorem k_pop1s {n : Str} (h : H a = some (.dK kvs)) (e : valV kvs (.inr n) = some v) (q : Q v (upd H a (.dK (dropK kvs (.inr n))))) : kPop1b a Q (.str n) H := ⟨kvs, .inr n, v, h, rfl, e, q⟩
theorem r_pop2 (q : td σ H (kPop2 ty tx σ Q)) : tDPop2 td ty tx σ H Q := q
theorem k_pop2 (h : Rd H a (.dK kvs)) (q : ty σ H (kPop2b a tx σ Q)) : kPop2 ty tx σ Q (.ref a) H := ⟨a, rfl, .inl ⟨kvs, h⟩, q⟩
theorem k_pop2b (q : tx σ H (kPop2c a y Q)) : kPop2b a tx σ Q y H := q
theorem k_pop2n {n : Str} (h : H a = some (.dK kvs)) (e : valV kvs (.inr n) = none) (q : Q z H) : kPop2c a (.str n) Q z H := ⟨kvs, .inr n, h, rfl, fun v hv => (by rw [e] at hv; cases hv), fun _ => q⟩
theorem r_makeK {n m : Nat} {gV : List V → List V → List V} (q : tA σ H (kMkK C n m sp gV E tk σ Q)) : tMakeK C n m sp gV E tA tk σ H Q := q
theorem k_mkK {n m : Nat} {gV : List V → List V → List V} (q : tk σ H (kMkK2 C n m sp gV E vs Q)) : kMkK C n m sp gV E tk σ Q vs H := q
theorem k_mkK2 {n m : Nat} {gV : List V → List V → List V} (l1 : vs.length = n) (l2 : zs.length = m) (q : ∀ x dx, H x = none → H dx = none → dx ≠ x →
  sp (gV (.ref x :: vs) zs) (upd (upd H dx (.own x)) x (.ins C dx [])) (fun v H3 => v = .non ∧ Q (.ref x) H3) E) : kMkK2 C n m sp gV E vs Q zs H := ⟨l1, l2, q⟩
theorem r_kw {r : List V → List V → Hp → VK → Prop} (q : tA σ H (kKw r tk σ Q)) : tCKw r tA tk σ H Q := q
theorem k_kw {r : List V → List V → Hp → VK → Prop} (q : tk σ H (kKw2 r vs Q)) : kKw r tk σ Q vs H := q
theorem k_kw2 {r : List V → List V → Hp → VK → Prop} (q : r vs zs H Q) : kKw2 r vs Q zs H := q
theorem r_m1 {r : V → List V → Hp → VK → Prop} (q : ta σ H (kM1 r te σ Q)) : tM1 r ta te σ H Q := q
theorem k_m1 {r : V → List V → Hp → VK → Prop} {s : Str} (q : te σ H (kM1b r (.str s) Q)) : kM1 r te σ Q (.str s) H := ⟨⟨s, rfl⟩, q⟩
theorem k_m1b {r : V → List V → Hp → VK → Prop} (q : r x [y] H Q) : kM1b r x Q y H := q
theorem r_augS {ti : TE} {tget : V → V → Hp → VK → Prop} {tip : TIp} {tset : TSet} (q : ta σ H (kAS1 ti te tget tip tset nx σ)) : tAugS ta ti te tget tip tset ⟨nx, rt, bk, ct⟩ σ H := q
theorem k_as1 {ti : TE} {tget : V → V → Hp → VK → Prop} {tip : TIp} {tset : TSet} (q : ti σ H (kAS2 te tget tip tset nx σ x)) : kAS1 ti te tget tip tset nx σ x H := q
theorem k_as2 {tip : TIp} {tset : TSet} {xs : List V} {n : Int} (h : SqL K H a xs) (e : atI xs n = some y) (q : te σ H (kAS3 tip tset nx σ (.ref a) (.int n) y)) : kAS2 te (rIxL K) tip tset nx σ (.ref a) (.int n) H := ⟨a, xs, n, y, rfl, rfl, h, e, q⟩
theorem k_as3 {G : Int → Int → Int} {xs : List V} {n m k : Int} (h : H a = some (.lst xs)) (e : ixN xs.length n = some j) (q : nx σ (upd H a (.lst (xs.set j (.int (G m k)))))) : kAS3 (ipI G) rSetL nx σ (.ref a) (.int n) (.int m) (.int k) H := ⟨m, k, rfl, rfl, a, xs, n, j, rfl, rfl, h, e, q⟩
theorem k_subN {N : L2.St → Hp → Prop} {st : AS} {xs : List NE} {b : Addr} (hs : StAt H b st) (h : H d = some (nkD P w d xs)) (hk : NKeys H xs) (e : valN xs st = none) (l : xs.length < sizeLine) (q : N σ (upd H d (nkD P w d (xs ++ [(st, b, v)])))) : kSub2 (rNSet P w) (.ref d) v σ N (.ref b) H := ⟨b, d, st, xs, rfl, rfl, hs, h, hk, e, l, q⟩
theorem k_ifNF {ts us : TS} (q : us D σ H) : kIf ts us D σ (!true) H := q
theorem k_ifNT {ts us : TS} (q : ts D σ H) : kIf ts us D σ (!false) H := q
theorem k_orNF {u : TT} {B : Bool → Hp → Prop} (q : u σ H B) : kOr u σ B (!true) H := q
theorem k_orNT {u : TT} {B : Bool → Hp → Prop} (q : B true H) : kOr u σ B (!false) H := q
theorem k_andNF {u : TT} {B : Bool → Hp → Prop} (q : B false H) : kAnd u σ B (!true) H := q
theorem k_andNT {u : TT} {B : Bool → Hp → Prop} (q : u σ H B) : kAnd u σ B (!false) H := q
theorem k_andVNT {tb : TE} (q : tb σ H Q) : kAndV tb σ Q (.bl (!false)) H := ⟨true, rfl, q⟩
theorem k_andVF {tb : TE} (q : Q (.bl false) H) : kAndV tb σ Q (.bl false) H := ⟨false, rfl, q⟩
theorem x_add_str {a b : Str} (l : a.length + b.length ≤ sizeLine) (q : Q (.str (a ++ b)) H) : (fun x y H Q => ∃ i j, x = V.str i ∧ y = V.str j ∧ i.length + j.length ≤ sizeLine ∧ Q (.str (i ++ j)) H : R2) (.str a) (.str b) H Q := ⟨a, b, rfl, rfl, l, q⟩
/-- a for over enumerate(list) -/
theorem k_forE {xs : List V} (Pv : Nat → L2.St → Hp → Prop) (h0 : Pv 0 σ H) (hk : ∀ i σ' H', i ≤ xs.length → Pv i σ' H' → SqL K H' a xs)
    (hs : ∀ (i : Nat) x p σ' H', xs[i]? = some x → Pv i σ' H' → H' p = none → g (.ref p) σ' (upd H' p (.tup [.int (i : Nat), x])) fun σ2 H2 => ts ⟨Pv (i + 1), rt, nx, Pv (i + 1)⟩ σ2 H2) (hd : ∀ σ' H', Pv xs.length σ' H' → nx σ' H') : kFor g ts ⟨nx, rt, bk, ct⟩ σ (Ite K a) H := by
  refine ⟨fun i m σ H => m = xs.length - i ∧ i ≤ xs.length ∧ Pv i σ H, ⟨xs.length, by simp, Nat.zero_le _, h0⟩, ?_⟩
  rintro i m σ H ⟨rfl, hi, p⟩
  have ok := hk i σ H hi p
  by_cases hlt : i < xs.length
  · refine .inr ⟨⟨xs, xs[i], ok, List.getElem?_eq_getElem hlt⟩, Pv (i + 1), fun σ' H' p' => ⟨xs.length - (i + 1), by omega, rfl, hlt, p'⟩, fun v H' y => ?_⟩
    obtain ⟨q, x, rfl, hq, rfl, hx⟩ := y
    exact hs i x q σ H (hx xs ok) p hq
  · have e : i = xs.length := by omega
    subst e
    exact .inl ⟨⟨xs, ok, Nat.le_refl _⟩, hd σ H p⟩
end
end Wh

/-! ## S0d -/
set_option Elab.async false
set_option linter.all false
set_option maxRecDepth 100000
set_option maxHeartbeats 2000000
namespace Wh
open PySem PySem.Spec PyProof.Rows L2 PySem.W
def kElT (te : TE) (N : Option V → Hp → Prop) (σ2 : L2.St) : Bool → Hp → Prop := fun b H3 => if b = true then te σ2 H3 (fun y H4 => N (some y) H4) else N none H3
section
variable {σ : L2.St} {H : Hp} {tt : TT} {te : TE} {vs : List Nat} {N : Option V → Hp → Prop} {x : V} {c : Bool} {σ2 : L2.St}
theorem el_nameT {j : Nat} (hw : wipe ((wipe σ vs).set j (some x)) vs = wipe σ vs) (q : tt ((wipe σ vs).set j (some x)) H (kElT te N ((wipe σ vs).set j (some x)))) : elS (gName j) tt te vs σ N x H := ⟨hw, q⟩
theorem k_elT (h1 : c = true → te σ2 H (fun y H4 => N (some y) H4)) (h2 : c = false → N none H) : kElT te N σ2 c H := by
  cases c with
  | true => exact h1 rfl
  | false => exact h2 rfl
end
end Wh

/-! ## M0 -/
set_option Elab.async false
set_option linter.all false
namespace Wh
open PySem
/-! ### wanes, things, and what is done to them: plain Lean -/
structure Wn where
  hd : List (Int × Int)
  tl : List (Int × Int)
  cap : Int
  lift : Int
  anew : Bool
deriving DecidableEq
def Wn.coming (w : Wn) (si : Int) : Int × Int :=
  if si < w.hd.length then w.hd.getD si.toNat (1, 0) else w.tl.getD ((si - w.hd.length) % w.tl.length).toNat (1, 0)
def Wn.phase (w : Wn) (si : Int) : Int :=
  if si < w.hd.length + w.tl.length then si else w.hd.length + (si - w.hd.length) % w.tl.length
structure Wn.Ok (w : Wn) : Prop where
  hl : w.hd.length ≤ 24
  tl : w.tl.length = 1 ∨ w.tl.length = 2 ∨ w.tl.length = 3 ∨ w.tl.length = 4 ∨ w.tl.length = 6 ∨ w.tl.length = 8 ∨ w.tl.length = 12 ∨ w.tl.length = 24
  sh : ∀ p ∈ w.hd, 1 ≤ p.1 ∧ p.1 ≤ 9 ∧ 0 ≤ p.2 ∧ p.2 ≤ 1000000000
  st : ∀ p ∈ w.tl, 1 ≤ p.1 ∧ p.1 ≤ 9 ∧ 0 ≤ p.2 ∧ p.2 ≤ 1000000000
  c1 : 1 ≤ w.cap
  c2 : w.cap ≤ 1000000000
  l1 : 0 ≤ w.lift
  l2 : w.lift ≤ 1000000000
structure T where
  nm : Str
  wn : Wn
  kin : Int
  sp : Int
  fo : Int
  si : Int
deriving DecidableEq
structure T.Ok (t : T) : Prop where
  w : t.wn.Ok
  k0 : 0 ≤ t.kin
  k9 : t.kin ≤ 9
  s0 : 0 ≤ t.sp
  f1 : 1 ≤ t.fo
  fc : t.fo ≤ t.wn.cap
  i0 : 0 ≤ t.si
/-- one turn of a thing alone -/
def waneT (t : T) : Option T :=
  if t.fo / (t.wn.coming t.si).1 - (t.wn.coming t.si).2 < 1 then none else some { t with fo := t.fo / (t.wn.coming t.si).1 - (t.wn.coming t.si).2, si := t.si + 1 }
def liftT (t : T) : T := { t with fo := min t.wn.cap (t.fo + t.wn.lift), si := if t.wn.anew then 0 else t.si }
def pressT (pr : Int) (t : T) : Option T := if min t.wn.cap (t.fo + pr) < 1 then none else some { t with fo := min t.wn.cap (t.fo + pr) }
def look (L : List T) (n : Str) : Option T := L.find? fun t => decide (t.nm = n)
def stirOf (stirs : List Int) (k : Int) : Int := stirs.getD k.toNat 0
/-- what the asking for a does to t -/
def askT (stirs : List Int) (a : T) (t : T) : Option T :=
  if t.nm = a.nm then some (liftT t)
  else if stirOf stirs a.kin ≠ 0 ∧ t.kin = a.kin ∧ t.sp = a.sp then pressT (stirOf stirs a.kin) t else some t
def askL (stirs : List Int) (n : Str) (L : List T) : List T := match look L n with
  | none => L
  | some a => L.filterMap (askT stirs a)
def waneL (L : List T) : List T := L.filterMap waneT
def totalL (i : Int) (L : List T) : Int := ((L.filter fun t => decide (t.sp = i)).map (·.fo)).sum
/-- b goes ahead of a -/
def weaker (a b : T) : Prop := b.fo < a.fo ∨ b.fo = a.fo ∧ strLt a.nm b.nm
instance (a b : T) : Decidable (weaker a b) := inferInstanceAs (Decidable (_ ∨ _))
def weak1 (x : T) (L : List T) : T := L.foldl (fun a b => if weaker a b then b else a) x
def weakL (i : Int) (L : List T) : Option T := match L.filter fun t => decide (t.sp = i) with
  | [] => none
  | x :: r => some (weak1 x r)
/-- what f does to the thing named n -/
def updT (n : Str) (f : T → Option T) (L : List T) : List T := L.filterMap fun t => if t.nm = n then f t else some t
def moveT (rooms : Nat) (i : Int) (t : T) : Option T := if i + 1 = rooms then none else some { t with sp := i + 1 }
/-- the thing named n moves on from room i of so many -/
def moveL (rooms : Nat) (i : Int) (n : Str) (L : List T) : List T := updT n (moveT rooms i) L
def settle (rooms : Nat) (hold i : Int) : Nat → List T → List T
  | 0, L => L
  | k + 1, L => if totalL i L > hold then (match weakL i L with
    | none => L
    | some w => settle rooms hold i k (moveL rooms i w.nm L)) else L
def crowdFrom (rooms : List Int) : Nat → Nat → List T → List T
  | _, 0, L => L
  | i, k + 1, L => crowdFrom rooms (i + 1) k (settle rooms.length (rooms.getD i 0) (i : Int) L.length L)
def crowdL (rooms : List Int) (L : List T) : List T := crowdFrom rooms 0 rooms.length L
def stepL (rooms stirs : List Int) (mv : Option Str) (L : List T) : List T := crowdL rooms (match mv with
  | none => waneL L
  | some n => askL stirs n (waneL L))
/-! ### names in order -/
def insS (x : Str) : List Str → List Str
  | [] => [x]
  | y :: r => if strLt y x then y :: insS x r else x :: y :: r
def sortS : List Str → List Str
  | [] => []
  | x :: r => insS x (sortS r)
def row4 (t : T) : St4 := (t.nm, t.sp, t.fo, t.wn.phase t.si)
/-- the state of things -/
def stL (L : List T) : AS := (sortS (L.map (·.nm))).filterMap fun n => (look L n).map row4
def Nd (L : List T) : Prop := (L.map (·.nm)).Nodup
end Wh

/-! ## M1 -/
set_option Elab.async false
set_option linter.all false
namespace Wh
open PySem PyProof.Rows
/-! ### names in order -/
theorem Str.ext2 {a b : Str} (h : a.cps.toList = b.cps.toList) : a = b := by
  cases a; cases b
  congr
  exact Array.toList_inj.mp h
theorem strLt_irrefl (a : Str) : ¬ strLt a a := List.lt_irrefl _
theorem strLt_trans {a b c : Str} (h : strLt a b) (k : strLt b c) : strLt a c := List.lt_trans h k
theorem strLt_tri (a b : Str) : strLt a b ∨ a = b ∨ strLt b a := by
  rcases Decidable.em (strLt a b) with h | h
  · exact .inl h
  rcases Decidable.em (strLt b a) with k | k
  · exact .inr (.inr k)
  · exact .inr (.inl (Str.ext2 (List.le_antisymm (List.not_lt.mp k) (List.not_lt.mp h))))
theorem strLe_trans {a b c : Str} (h : ¬ strLt b a) (k : ¬ strLt c b) : ¬ strLt c a := fun z => by
  rcases strLt_tri a b with q | q | q
  · exact k (strLt_trans z q)
  · subst q; exact k z
  · exact h q
theorem strLe_antisymm {a b : Str} (h : ¬ strLt b a) (k : ¬ strLt a b) : a = b := by
  rcases strLt_tri a b with q | q | q
  · exact absurd q k
  · exact q
  · exact absurd q h
theorem insS_perm (x : Str) : ∀ l, (insS x l).Perm (x :: l)
  | [] => .refl _
  | y :: r => by
    unfold insS
    by_cases h : strLt y x
    · rw [if_pos h]
      exact ((insS_perm x r).cons y).trans (.swap ..)
    · rw [if_neg h]
theorem sortS_perm : ∀ l : List Str, (sortS l).Perm l
  | [] => .refl _
  | x :: r => (insS_perm x _).trans ((sortS_perm r).cons x)
def Srt (l : List Str) : Prop := l.Pairwise fun a b => ¬ strLt b a
theorem insS_srt (x : Str) : ∀ l, Srt l → Srt (insS x l)
  | [], _ => by simp [insS, Srt]
  | y :: r, h => by
    have h2 := List.pairwise_cons.mp h
    unfold insS
    by_cases k : strLt y x
    · rw [if_pos k]
      refine List.pairwise_cons.mpr ⟨fun z hz => ?_, insS_srt x r h2.2⟩
      rcases List.mem_cons.mp ((insS_perm x r).mem_iff.mp hz) with q | q
      · subst q
        exact fun c => strLt_irrefl _ (strLt_trans c k)
      · exact h2.1 z q
    · rw [if_neg k]
      refine List.pairwise_cons.mpr ⟨fun z hz => ?_, h⟩
      rcases List.mem_cons.mp hz with q | q
      · subst q; exact k
      · exact strLe_trans k (h2.1 z q)
theorem sortS_srt : ∀ l, Srt (sortS l)
  | [] => .nil
  | x :: r => insS_srt x _ (sortS_srt r)
theorem Srt.uniq {a b : List Str} (h : a.Perm b) (ha : Srt a) (hb : Srt b) : a = b :=
  List.Perm.eq_of_pairwise (fun x y _ _ h1 h2 => strLe_antisymm h1 h2) ha hb h
theorem sortS_congr {a b : List Str} (h : a.Perm b) : sortS a = sortS b :=
  Srt.uniq (((sortS_perm a).trans h).trans (sortS_perm b).symm) (sortS_srt a) (sortS_srt b)
theorem risingS_srt : ∀ (l : List Str) (p : Str), risingS p l = true → Srt (p :: l)
  | [], p, _ => by simp [Srt]
  | x :: r, p, h => by
    rw [risingS, Bool.and_eq_true, ltCps_eq] at h
    obtain ⟨h1, h2⟩ := h
    have h1' : ¬ strLt x p := by
      intro z
      rw [decide_eq_true (show x.cps.toList < p.cps.toList from z)] at h1
      cases h1
    have ih := risingS_srt r x h2
    refine List.pairwise_cons.mpr ⟨fun z hz => ?_, ih⟩
    rcases List.mem_cons.mp hz with q | q
    · subst q; exact h1'
    · exact strLe_trans h1' ((List.pairwise_cons.mp ih).1 z q)
theorem sortedS_srt {l : List Str} (h : sortedS l = true) : Srt l := by
  cases l with
  | nil => exact .nil
  | cons x r => exact risingS_srt r x h
theorem sorted_eq {ys ks : List Str} (h : ys.Perm ks) (s : sortedS ys = true) : ys = sortS ks :=
  Srt.uniq (h.trans (sortS_perm ks).symm) (sortedS_srt s) (sortS_srt ks)
theorem sortS_mem {x : Str} {l : List Str} : x ∈ sortS l ↔ x ∈ l := (sortS_perm l).mem_iff
theorem sortS_nodup {l : List Str} (h : l.Nodup) : (sortS l).Nodup := (sortS_perm l).nodup_iff.mpr h
theorem sortS_length (l : List Str) : (sortS l).length = l.length := (sortS_perm l).length_eq
end Wh

/-! ## M2 -/
set_option Elab.async false
set_option linter.all false
namespace Wh
open PySem
theorem fm_congr {α β : Type} {f g : α → Option β} : ∀ {l : List α}, (∀ x ∈ l, f x = g x) → l.filterMap f = l.filterMap g
  | [], _ => rfl
  | x :: r, h => by rw [List.filterMap_cons, List.filterMap_cons, h x (List.mem_cons_self ..), fm_congr fun y hy => h y (List.mem_cons_of_mem _ hy)]
/-! ### what is done name by name -/
def part (ns : List Str) (f : T → Option T) (L : List T) : List T := L.filterMap fun t => if t.nm ∈ ns then f t else some t
theorem part_nil (f : T → Option T) (L : List T) : part [] f L = L := by
  unfold part
  simp
theorem part_all {ns : List Str} {f : T → Option T} {L : List T} (h : ∀ t ∈ L, t.nm ∈ ns) : part ns f L = L.filterMap f := by
  unfold part
  induction L with
  | nil => rfl
  | cons t r ih =>
    rw [List.filterMap_cons, List.filterMap_cons, if_pos (h t (List.mem_cons_self ..)), ih fun x hx => h x (List.mem_cons_of_mem _ hx)]
theorem part_snoc {ns : List Str} {n : Str} {f : T → Option T} (hf : ∀ t t', f t = some t' → t'.nm = t.nm) (h : n ∉ ns) (L : List T) : part (ns ++ [n]) f L = updT n f (part ns f L) := by
  unfold part updT
  rw [List.filterMap_filterMap]
  congr 1
  funext t
  by_cases e : t.nm ∈ ns
  · rw [if_pos (List.mem_append.mpr (.inl e)), if_pos e]
    cases y : f t with
    | none => rfl
    | some t' =>
      have := hf _ _ y
      simp only [Option.bind_some]
      rw [if_neg (fun z => h (by rw [← z, this]; exact e))]
  · rw [if_neg e]
    simp only [Option.bind_some]
    by_cases z : t.nm = n
    · rw [if_pos (List.mem_append.mpr (.inr (List.mem_singleton.mpr z))), if_pos z]
    · rw [if_neg (fun y => by
        rcases List.mem_append.mp y with y | y
        · exact e y
        · exact z (List.mem_singleton.mp y)), if_neg z]
theorem part_mem {ns : List Str} {f : T → Option T} {L : List T} {t : T} (h : t ∈ L) (k : t.nm ∉ ns) : t ∈ part ns f L :=
  List.mem_filterMap.mpr ⟨t, h, by rw [if_neg k]⟩
theorem part_fix {ns : List Str} {f : T → Option T} {L : List T} {t : T} (h : t ∈ L) (k : f t = some t) : t ∈ part ns f L :=
  List.mem_filterMap.mpr ⟨t, h, by rw [k]; split <;> rfl⟩
theorem updT_id {n : Str} {f : T → Option T} : ∀ {L : List T}, (∀ t ∈ L, t.nm = n → f t = some t) → updT n f L = L
  | [], _ => rfl
  | t :: r, h => by
    have ih := updT_id (f := f) (n := n) fun x hx => h x (List.mem_cons_of_mem _ hx)
    unfold updT at ih ⊢
    rw [List.filterMap_cons]
    by_cases e : t.nm = n
    · rw [if_pos e, h t (List.mem_cons_self ..) e, ih]
    · rw [if_neg e, ih]
theorem nd_uniq {L : List T} (h : Nd L) {a b : T} (ha : a ∈ L) (hb : b ∈ L) (e : a.nm = b.nm) : a = b := by
  unfold Nd at h
  induction L with
  | nil => cases ha
  | cons d r ih =>
    have h2 := List.nodup_cons.mp h
    rcases List.mem_cons.mp ha with z | z <;> rcases List.mem_cons.mp hb with y | y
    · rw [z, y]
    · exact absurd (List.mem_map.mpr ⟨b, y, by rw [← e, z]⟩) h2.1
    · exact absurd (List.mem_map.mpr ⟨a, z, by rw [e, y]⟩) h2.1
    · exact ih h2.2 z y
theorem look_mem {L : List T} (h : Nd L) {t : T} (ht : t ∈ L) : look L t.nm = some t := by
  unfold look
  cases e : L.find? fun x => decide (x.nm = t.nm) with
  | none =>
    have := List.find?_eq_none.mp e t ht
    simp at this
  | some x =>
    have h1 := List.find?_some e
    have h2 := List.mem_of_find?_eq_some e
    rw [nd_uniq h h2 ht (of_decide_eq_true h1)]
theorem look_some {L : List T} {n : Str} {t : T} (h : look L n = some t) : t ∈ L ∧ t.nm = n := by
  unfold look at h
  exact ⟨List.mem_of_find?_eq_some h, by have := List.find?_some h; simpa using this⟩
theorem look_none {L : List T} {n : Str} (h : look L n = none) : n ∉ L.map (·.nm) := fun z => by
  obtain ⟨t, ht, e⟩ := List.mem_map.mp z
  have := List.find?_eq_none.mp h t ht
  simp [e] at this
/-! ### asking -/
def prT (pr : Int) (a : T) (t : T) : Option T := if t.nm ≠ a.nm ∧ t.kin = a.kin ∧ t.sp = a.sp then pressT pr t else some t
theorem prT_nm {pr : Int} {a t t' : T} (h : prT pr a t = some t') : t'.nm = t.nm := by
  unfold prT pressT at h
  split at h
  · split at h
    · cases h
    · rw [← Option.some.inj h]
  · rw [← Option.some.inj h]
theorem ask_two {stirs : List Int} {a : T} {L : List T} (h : stirOf stirs a.kin ≠ 0) (hl : Nd L) (ha : a ∈ L) :
    L.filterMap (askT stirs a) = (updT a.nm (fun _ => some (liftT a)) L).filterMap (prT (stirOf stirs a.kin) (liftT a)) := by
  unfold updT
  rw [List.filterMap_filterMap]
  refine fm_congr fun t ht => ?_
  unfold askT
  by_cases e : t.nm = a.nm
  · obtain rfl := nd_uniq hl ht ha e
    rw [if_pos rfl, if_pos rfl]
    simp only [Option.bind_some]
    unfold prT
    rw [if_neg (fun z => z.1 rfl)]
  · rw [if_neg e, if_neg e]
    simp only [Option.bind_some]
    unfold prT
    by_cases z : t.kin = a.kin ∧ t.sp = a.sp
    · rw [if_pos ⟨h, z⟩, if_pos ⟨e, z⟩]
    · rw [if_neg (fun y => z y.2), if_neg (fun y => z y.2)]
theorem ask_one {stirs : List Int} {a : T} {L : List T} (h : stirOf stirs a.kin = 0) (hl : Nd L) (ha : a ∈ L) :
    L.filterMap (askT stirs a) = updT a.nm (fun _ => some (liftT a)) L := by
  unfold updT
  refine fm_congr fun t ht => ?_
  unfold askT
  by_cases e : t.nm = a.nm
  · obtain rfl := nd_uniq hl ht ha e
    rw [if_pos rfl, if_pos rfl]
  · rw [if_neg e, if_neg e, if_neg (fun z => z.1 h)]
end Wh

/-! ## M3 -/
set_option Elab.async false
set_option linter.all false
namespace Wh
open PySem
/-! ### the same but for whole tails gone -/
def norm (t : T) : T := { t with si := t.wn.phase t.si }
theorem Wn.Ok.tpos {w : Wn} (h : w.Ok) : 1 ≤ w.tl.length := by
  have := h.tl
  omega
section
variable {w : Wn} {si : Int}
theorem phase_nn (ok : w.Ok) (h0 : 0 ≤ si) : 0 ≤ w.phase si := by
  have := ok.tpos
  unfold Wn.phase
  split
  · exact h0
  · have := Int.emod_nonneg (si - w.hd.length) (show (w.tl.length : Int) ≠ 0 by omega)
    omega
theorem phase_lt (ok : w.Ok) (h0 : 0 ≤ si) : w.phase si < w.hd.length + w.tl.length := by
  have := ok.tpos
  unfold Wn.phase
  split
  · assumption
  · have := Int.emod_lt_of_pos (si - w.hd.length) (show (0 : Int) < w.tl.length by omega)
    omega
theorem phase_idem (ok : w.Ok) (h0 : 0 ≤ si) : w.phase (w.phase si) = w.phase si := by
  have := phase_lt ok h0
  generalize w.phase si = p at *
  unfold Wn.phase
  rw [if_pos this]
theorem coming_phase (ok : w.Ok) (h0 : 0 ≤ si) : w.coming (w.phase si) = w.coming si := by
  have hn := ok.tpos
  by_cases h : si < w.hd.length + w.tl.length
  · rw [show w.phase si = si by unfold Wn.phase; rw [if_pos h]]
  · have e : w.phase si = w.hd.length + (si - w.hd.length) % w.tl.length := by unfold Wn.phase; rw [if_neg h]
    have m0 := Int.emod_nonneg (si - w.hd.length) (show (w.tl.length : Int) ≠ 0 by omega)
    rw [e]
    unfold Wn.coming
    rw [if_neg (by omega), if_neg (by omega)]
    rw [show (w.hd.length : Int) + (si - w.hd.length) % w.tl.length - w.hd.length = (si - w.hd.length) % w.tl.length by omega, Int.emod_emod_of_dvd _ (Int.dvd_refl _)]
theorem phase_succ (ok : w.Ok) (h0 : 0 ≤ si) : w.phase (w.phase si + 1) = w.phase (si + 1) := by
  have hn := ok.tpos
  by_cases h : si < w.hd.length + w.tl.length
  · rw [show w.phase si = si by unfold Wn.phase; rw [if_pos h]]
  · have e : w.phase si = w.hd.length + (si - w.hd.length) % w.tl.length := by unfold Wn.phase; rw [if_neg h]
    have m0 := Int.emod_nonneg (si - w.hd.length) (show (w.tl.length : Int) ≠ 0 by omega)
    have m1 := Int.emod_lt_of_pos (si - w.hd.length) (show (0 : Int) < w.tl.length by omega)
    have e2 : w.phase (si + 1) = w.hd.length + (si + 1 - w.hd.length) % w.tl.length := by unfold Wn.phase; rw [if_neg (by omega)]
    have e3 : (si + 1 - w.hd.length) % w.tl.length = ((si - w.hd.length) % w.tl.length + 1) % w.tl.length := by
      rw [show si + 1 - (w.hd.length : Int) = (si - w.hd.length) + 1 by omega, Int.emod_add_emod]
    rw [e, e2, e3]
    generalize (si - w.hd.length) % w.tl.length = r at *
    unfold Wn.phase
    by_cases k : (w.hd.length : Int) + r + 1 < w.hd.length + w.tl.length
    · rw [if_pos k, Int.emod_eq_of_lt (by omega) (by omega)]
      omega
    · rw [if_neg k]
      have : r + 1 = w.tl.length := by omega
      rw [show (w.hd.length : Int) + r + 1 - w.hd.length = r + 1 by omega]
end
abbrev Sta := Str → Wn × Int
structure Rep (D : Sta) (L : List T) : Prop where
  nd : Nd L
  ok : ∀ t ∈ L, t.Ok
  st : ∀ t ∈ L, (t.wn, t.kin) = D t.nm
theorem norm_idem {t : T} (ok : t.Ok) : norm (norm t) = norm t := by
  unfold norm
  simp only
  rw [phase_idem ok.w ok.i0]
theorem norm_row {t : T} (ok : t.Ok) : row4 (norm t) = row4 t := by
  unfold row4 norm
  simp only
  rw [phase_idem ok.w ok.i0]
/-! ### each step goes with norm -/
theorem wane_norm {t : T} (ok : t.Ok) : (waneT (norm t)).map norm = (waneT t).map norm := by
  unfold waneT
  have e : (norm t).wn.coming (norm t).si = t.wn.coming t.si := coming_phase ok.w ok.i0
  rw [e]
  show (if t.fo / _ - _ < 1 then none else _ : Option T).map norm = _
  split
  · rfl
  · simp only [Option.map_some]
    unfold norm
    simp only
    rw [phase_succ ok.w ok.i0]
theorem lift_norm {t : T} (ok : t.Ok) : norm (liftT (norm t)) = norm (liftT t) := by
  unfold liftT norm
  simp only
  congr 1
  split
  · rfl
  · exact phase_idem ok.w ok.i0
theorem press_norm {t : T} (ok : t.Ok) (pr : Int) : (pressT pr (norm t)).map norm = (pressT pr t).map norm := by
  unfold pressT
  show (if min t.wn.cap (t.fo + pr) < 1 then none else _ : Option T).map norm = _
  split
  · rfl
  · simp only [Option.map_some]
    unfold norm
    simp only
    rw [phase_idem ok.w ok.i0]
theorem ask_norm {stirs : List Int} {a t : T} (ok : t.Ok) : (askT stirs (norm a) (norm t)).map norm = (askT stirs a t).map norm := by
  unfold askT
  show (if t.nm = a.nm then some (liftT (norm t)) else if stirOf stirs a.kin ≠ 0 ∧ t.kin = a.kin ∧ t.sp = a.sp then pressT (stirOf stirs a.kin) (norm t) else some (norm t)).map norm = _
  split
  · simp only [Option.map_some]
    rw [lift_norm ok]
  · split
    · exact press_norm ok _
    · simp only [Option.map_some]
      rw [norm_idem ok]
theorem move_norm {rooms : Nat} {i : Int} {t : T} (ok : t.Ok) : moveT rooms i (norm t) = (moveT rooms i t).map norm := by
  unfold moveT
  split
  · rfl
  · rfl
theorem fm_norm {f g : T → Option T} {L : List T} (h : ∀ t ∈ L, (f (norm t)).map norm = (g t).map norm) : ((L.map norm).filterMap f).map norm = (L.filterMap g).map norm := by
  rw [List.map_filterMap, List.map_filterMap, List.filterMap_map]
  exact fm_congr fun t ht => h t ht
/-! ### crowd goes with norm, and with any order -/
theorem total_norm (i : Int) (L : List T) : totalL i (L.map norm) = totalL i L := by
  unfold totalL
  rw [List.filter_map, List.map_map]
  rfl
theorem weaker_norm (a b : T) : weaker (norm a) (norm b) ↔ weaker a b := Iff.rfl
theorem weak1_norm (x : T) : ∀ L : List T, weak1 (norm x) (L.map norm) = norm (weak1 x L)
  | [] => rfl
  | b :: r => by
    unfold weak1
    rw [List.map_cons, List.foldl_cons, List.foldl_cons]
    have := weak1_norm (if weaker x b then b else x) r
    unfold weak1 at this
    rw [← this]
    congr 1
    by_cases h : weaker x b
    · rw [if_pos h, if_pos ((weaker_norm x b).mpr h)]
    · rw [if_neg h, if_neg (fun z => h ((weaker_norm x b).mp z))]
theorem weakL_norm (i : Int) (L : List T) : weakL i (L.map norm) = (weakL i L).map norm := by
  unfold weakL
  rw [List.filter_map]
  have e : L.filter ((fun t : T => decide (t.sp = i)) ∘ norm) = L.filter (fun t => decide (t.sp = i)) := rfl
  rw [e]
  cases L.filter (fun t => decide (t.sp = i)) with
  | nil => rfl
  | cons x r =>
    simp only [List.map_cons, Option.map_some]
    rw [weak1_norm]
theorem moveL_norm {rooms : Nat} {i : Int} {n : Str} {L : List T} (ok : ∀ t ∈ L, t.Ok) : moveL rooms i n (L.map norm) = (moveL rooms i n L).map norm := by
  unfold moveL updT
  rw [List.map_filterMap, List.filterMap_map]
  refine fm_congr fun t ht => ?_
  show (if t.nm = n then moveT rooms i (norm t) else some (norm t)) = Option.map norm (if t.nm = n then moveT rooms i t else some t)
  split
  · exact move_norm (ok t ht)
  · rfl
theorem moveT_ok {rooms : Nat} {i : Int} {t t' : T} (ok : t.Ok) (i0 : 0 ≤ i) (h : moveT rooms i t = some t') : t'.Ok := by
  unfold moveT at h
  split at h
  · cases h
  · obtain rfl := Option.some.inj h
    exact ⟨ok.w, ok.k0, ok.k9, by show 0 ≤ i + 1; omega, ok.f1, ok.fc, ok.i0⟩
theorem updT_ok {n : Str} {f : T → Option T} {L : List T} (ok : ∀ t ∈ L, t.Ok) (hf : ∀ t t', t.Ok → f t = some t' → t'.Ok) : ∀ t ∈ updT n f L, t.Ok := fun t ht => by
  obtain ⟨c, hc, e⟩ := List.mem_filterMap.mp ht
  split at e
  · exact hf c t (ok c hc) e
  · obtain rfl := Option.some.inj e
    exact ok c hc
theorem settle_norm {rooms : Nat} {hold i : Int} (i0 : 0 ≤ i) : ∀ (m : Nat) (L : List T), (∀ t ∈ L, t.Ok) → settle rooms hold i m (L.map norm) = (settle rooms hold i m L).map norm
  | 0, _, _ => rfl
  | m + 1, L, ok => by
    unfold settle
    rw [total_norm, weakL_norm]
    split
    · cases e : weakL i L with
      | none => rfl
      | some w =>
        simp only [Option.map_some]
        rw [show (norm w).nm = w.nm from rfl, moveL_norm ok]
        exact settle_norm i0 m _ (updT_ok ok fun t t' o h => moveT_ok o i0 h)
    · rfl
theorem settle_ok {rooms : Nat} {hold i : Int} (i0 : 0 ≤ i) : ∀ (m : Nat) (L : List T), (∀ t ∈ L, t.Ok) → ∀ t ∈ settle rooms hold i m L, t.Ok
  | 0, _, ok => ok
  | m + 1, L, ok => by
    unfold settle
    split
    · cases e : weakL i L with
      | none => exact ok
      | some w => exact settle_ok i0 m _ (updT_ok ok fun t t' o h => moveT_ok o i0 h)
    · exact ok
theorem crowdFrom_norm {rooms : List Int} : ∀ (k i : Nat) (L : List T), (∀ t ∈ L, t.Ok) → crowdFrom rooms i k (L.map norm) = (crowdFrom rooms i k L).map norm
  | 0, _, _, _ => rfl
  | k + 1, i, L, ok => by
    unfold crowdFrom
    rw [List.length_map, settle_norm (by omega) _ _ ok]
    exact crowdFrom_norm k (i + 1) _ (settle_ok (by omega) _ _ ok)
theorem crowdFrom_ok {rooms : List Int} : ∀ (k i : Nat) (L : List T), (∀ t ∈ L, t.Ok) → ∀ t ∈ crowdFrom rooms i k L, t.Ok
  | 0, _, _, ok => ok
  | k + 1, i, L, ok => by
    unfold crowdFrom
    exact crowdFrom_ok k (i + 1) _ (settle_ok (by omega) _ _ ok)
theorem crowd_norm {rooms : List Int} {L : List T} (ok : ∀ t ∈ L, t.Ok) : crowdL rooms (L.map norm) = (crowdL rooms L).map norm := crowdFrom_norm _ _ _ ok
theorem crowd_ok {rooms : List Int} {L : List T} (ok : ∀ t ∈ L, t.Ok) : ∀ t ∈ crowdL rooms L, t.Ok := crowdFrom_ok _ _ _ ok
end Wh

/-! ## M4 -/
set_option Elab.async false
set_option linter.all false
namespace Wh
open PySem
/-! ### any order -/
theorem Nd.perm {L L' : List T} (h : Nd L) (p : L.Perm L') : Nd L' := (p.map _).nodup_iff.mp h
theorem updT_nd {n : Str} {f : T → Option T} (hf : ∀ t t', f t = some t' → t'.nm = t.nm) : ∀ {L : List T}, ((updT n f L).map (·.nm)).Sublist (L.map (·.nm))
  | [] => .slnil
  | t :: r => by
    have ih := updT_nd (n := n) hf (L := r)
    unfold updT at ih ⊢
    rw [List.filterMap_cons]
    by_cases e : t.nm = n
    · rw [if_pos e]
      cases y : f t with
      | none => exact ih.cons _
      | some t' =>
        simp only [List.map_cons]
        rw [hf _ _ y]
        exact ih.cons₂ _
    · rw [if_neg e]
      simp only [List.map_cons]
      exact ih.cons₂ _
theorem fm_nd {f : T → Option T} (hf : ∀ t t', f t = some t' → t'.nm = t.nm) : ∀ {L : List T}, ((L.filterMap f).map (·.nm)).Sublist (L.map (·.nm))
  | [] => .slnil
  | t :: r => by
    have ih := fm_nd hf (L := r)
    rw [List.filterMap_cons]
    cases y : f t with
    | none => exact ih.cons _
    | some t' =>
      simp only [List.map_cons]
      rw [hf _ _ y]
      exact ih.cons₂ _
theorem sum_perm {a b : List Int} (p : a.Perm b) : a.sum = b.sum := by
  induction p with
  | nil => rfl
  | cons x _ ih => rw [List.sum_cons, List.sum_cons, ih]
  | swap x y l => simp only [List.sum_cons]; omega
  | trans _ _ h1 h2 => exact h1.trans h2
theorem total_perm {i : Int} {L L' : List T} (p : L.Perm L') : totalL i L = totalL i L' := by
  unfold totalL
  exact sum_perm ((p.filter _).map _)
theorem weak1_mem (x : T) : ∀ r : List T, weak1 x r ∈ x :: r
  | [] => List.mem_singleton.mpr rfl
  | b :: r => by
    unfold weak1
    rw [List.foldl_cons]
    have := weak1_mem (if weaker x b then b else x) r
    unfold weak1 at this
    rcases List.mem_cons.mp this with z | z
    · rw [z]
      split
      · exact List.mem_cons_of_mem _ (List.mem_cons_self ..)
      · exact List.mem_cons_self ..
    · exact List.mem_cons_of_mem _ (List.mem_cons_of_mem _ z)
theorem weaker_trans {a b c : T} (h : weaker a b) (k : weaker b c) : weaker a c := by
  rcases h with h | ⟨h, h'⟩ <;> rcases k with k | ⟨k, k'⟩
  · exact .inl (by omega)
  · exact .inl (by omega)
  · exact .inl (by omega)
  · exact .inr ⟨by omega, strLt_trans h' k'⟩
theorem weaker_tri (a b : T) : weaker a b ∨ (a.fo = b.fo ∧ a.nm = b.nm) ∨ weaker b a := by
  rcases Int.lt_trichotomy a.fo b.fo with h | h | h
  · exact .inr (.inr (.inl h))
  · rcases strLt_tri a.nm b.nm with k | k | k
    · exact .inl (.inr ⟨h.symm, k⟩)
    · exact .inr (.inl ⟨h, k⟩)
    · exact .inr (.inr (.inr ⟨h, k⟩))
  · exact .inl (.inl h)
theorem weaker_irrefl (a : T) : ¬ weaker a a := by
  rintro (h | ⟨_, h⟩)
  · omega
  · exact strLt_irrefl _ h
theorem weak1_max (x : T) : ∀ r : List T, ∀ b ∈ x :: r, ¬ weaker (weak1 x r) b
  | [], b, hb => by
    obtain rfl := List.mem_singleton.mp hb
    exact weaker_irrefl _
  | c :: r, b, hb => by
    unfold weak1
    rw [List.foldl_cons]
    have ih := weak1_max (if weaker x c then c else x) r
    unfold weak1 at ih
    have h0 := ih _ (List.mem_cons_self ..)
    -- the fold's start is weaker than x and c
    have hx : ¬ weaker (if weaker x c then c else x) x ∧ ¬ weaker (if weaker x c then c else x) c := by
      by_cases h : weaker x c
      · rw [if_pos h]
        exact ⟨fun z => weaker_irrefl _ (weaker_trans h z), weaker_irrefl _⟩
      · rw [if_neg h]
        exact ⟨weaker_irrefl _, h⟩
    have trans_ : ∀ {w s y : T}, ¬ weaker w s → ¬ weaker s y → ¬ weaker w y := fun {w s y} h1 h2 h3 => by
      rcases weaker_tri w s with k | k | k
      · exact h1 k
      · rcases h3 with z | ⟨z, z'⟩
        · exact h2 (.inl (by omega))
        · exact h2 (.inr ⟨by omega, by rw [← k.2]; exact z'⟩)
      · exact h2 (weaker_trans k h3)
    rcases List.mem_cons.mp hb with z | z
    · rw [z]; exact trans_ h0 hx.1
    · rcases List.mem_cons.mp z with y | y
      · rw [y]; exact trans_ h0 hx.2
      · exact ih b (List.mem_cons_of_mem _ y)
theorem weakL_spec {i : Int} {L : List T} {w : T} (h : weakL i L = some w) : w ∈ L ∧ w.sp = i ∧ ∀ b ∈ L, b.sp = i → ¬ weaker w b := by
  unfold weakL at h
  cases e : L.filter (fun t => decide (t.sp = i)) with
  | nil => rw [e] at h; cases h
  | cons x r =>
    rw [e] at h
    obtain rfl := Option.some.inj h
    have hm := weak1_mem x r
    rw [← e] at hm
    obtain ⟨h1, h2⟩ := List.mem_filter.mp hm
    refine ⟨h1, of_decide_eq_true h2, fun b hb hs => weak1_max x r b ?_⟩
    rw [← e]
    exact List.mem_filter.mpr ⟨hb, decide_eq_true hs⟩
theorem weakL_none {i : Int} {L : List T} : weakL i L = none ↔ ∀ b ∈ L, b.sp ≠ i := by
  unfold weakL
  cases e : L.filter (fun t => decide (t.sp = i)) with
  | nil =>
    refine ⟨fun _ b hb hs => ?_, fun _ => rfl⟩
    have : b ∈ L.filter (fun t => decide (t.sp = i)) := List.mem_filter.mpr ⟨hb, decide_eq_true hs⟩
    rw [e] at this
    cases this
  | cons x r =>
    refine ⟨(fun h => by cases h), fun h => ?_⟩
    have : x ∈ L.filter (fun t => decide (t.sp = i)) := by rw [e]; exact List.mem_cons_self ..
    obtain ⟨h1, h2⟩ := List.mem_filter.mp this
    exact absurd (of_decide_eq_true h2) (h x h1)
theorem weakL_uniq {i : Int} {L L' : List T} (nd : Nd L) (p : ∀ t, t ∈ L ↔ t ∈ L') : weakL i L = weakL i L' := by
  cases e : weakL i L with
  | none =>
    have h := weakL_none.mp e
    exact (weakL_none.mpr fun b hb => h b ((p b).mpr hb)).symm
  | some w =>
    obtain ⟨h1, h2, h3⟩ := weakL_spec e
    cases e' : weakL i L' with
    | none => exact absurd h2 (weakL_none.mp e' w ((p w).mp h1))
    | some w' =>
      obtain ⟨k1, k2, k3⟩ := weakL_spec e'
      have a1 := h3 w' ((p w').mpr k1) k2
      have a2 := k3 w ((p w).mp h1) h2
      rcases weaker_tri w w' with z | z | z
      · exact absurd z a1
      · rw [nd_uniq nd h1 ((p w').mpr k1) z.2]
      · exact absurd z a2
theorem updT_perm {n : Str} {f : T → Option T} {L L' : List T} (p : L.Perm L') : (updT n f L).Perm (updT n f L') := p.filterMap _
theorem settle_perm {rooms : Nat} {hold i : Int} : ∀ (m : Nat) {L L' : List T}, Nd L → L.Perm L' → (settle rooms hold i m L).Perm (settle rooms hold i m L')
  | 0, _, _, _, p => p
  | m + 1, L, L', nd, p => by
    unfold settle
    rw [total_perm p, weakL_uniq nd (fun t => p.mem_iff)]
    split
    · cases e : weakL i L' with
      | none => exact p
      | some w => exact settle_perm m ((updT_nd (fun t t' h => (moveT_nm' h))).nodup nd) (updT_perm p)
    · exact p
where
  moveT_nm' {rooms : Nat} {i : Int} {t t' : T} (h : moveT rooms i t = some t') : t'.nm = t.nm := by
    unfold moveT at h
    split at h
    · cases h
    · rw [← Option.some.inj h]
theorem moveT_nm2 {rooms : Nat} {i : Int} {t t' : T} (h : moveT rooms i t = some t') : t'.nm = t.nm := by
  unfold moveT at h
  split at h
  · cases h
  · rw [← Option.some.inj h]
theorem settle_nd {rooms : Nat} {hold i : Int} : ∀ (m : Nat) {L : List T}, Nd L → Nd (settle rooms hold i m L)
  | 0, _, nd => nd
  | m + 1, L, nd => by
    unfold settle
    split
    · cases e : weakL i L with
      | none => exact nd
      | some w => exact settle_nd m ((updT_nd (fun t t' h => (moveT_nm2 h))).nodup nd)
    · exact nd
theorem crowdFrom_perm {rooms : List Int} : ∀ (k i : Nat) {L L' : List T}, Nd L → L.Perm L' → (crowdFrom rooms i k L).Perm (crowdFrom rooms i k L')
  | 0, _, _, _, _, p => p
  | k + 1, i, L, L', nd, p => by
    unfold crowdFrom
    rw [p.length_eq]
    exact crowdFrom_perm k (i + 1) (settle_nd _ nd) (settle_perm _ nd p)
theorem crowdFrom_nd {rooms : List Int} : ∀ (k i : Nat) {L : List T}, Nd L → Nd (crowdFrom rooms i k L)
  | 0, _, _, nd => nd
  | k + 1, i, L, nd => by
    unfold crowdFrom
    exact crowdFrom_nd k (i + 1) (settle_nd _ nd)
theorem crowd_perm {rooms : List Int} {L L' : List T} (nd : Nd L) (p : L.Perm L') : (crowdL rooms L).Perm (crowdL rooms L') := crowdFrom_perm _ _ nd p
theorem crowd_nd {rooms : List Int} {L : List T} (nd : Nd L) : Nd (crowdL rooms L) := crowdFrom_nd _ _ nd
theorem look_perm {L L' : List T} {n : Str} (nd : Nd L) (p : L.Perm L') : look L n = look L' n := by
  cases e : look L n with
  | none =>
    cases e' : look L' n with
    | none => rfl
    | some t =>
      obtain ⟨h1, h2⟩ := look_some e'
      exact absurd (List.mem_map.mpr ⟨t, p.mem_iff.mpr h1, h2⟩) (look_none e)
  | some t =>
    obtain ⟨h1, rfl⟩ := look_some e
    exact (look_mem (nd.perm p) (p.mem_iff.mp h1)).symm
theorem ask_perm {stirs : List Int} {n : Str} {L L' : List T} (nd : Nd L) (p : L.Perm L') : (askL stirs n L).Perm (askL stirs n L') := by
  unfold askL
  rw [look_perm nd p]
  cases look L' n with
  | none => exact p
  | some a => exact p.filterMap _
theorem wane_perm {L L' : List T} (p : L.Perm L') : (waneL L).Perm (waneL L') := p.filterMap _
theorem waneT_nm2 {t t' : T} (h : waneT t = some t') : t'.nm = t.nm := by
  unfold waneT at h
  split at h
  · cases h
  · rw [← Option.some.inj h]
theorem wane_nd {L : List T} (nd : Nd L) : Nd (waneL L) := (fm_nd fun t t' => waneT_nm2).nodup nd
theorem askT_nm {stirs : List Int} {a t t' : T} (h : askT stirs a t = some t') : t'.nm = t.nm := by
  unfold askT pressT at h
  split at h
  · rw [← Option.some.inj h]; rfl
  · split at h
    · split at h
      · cases h
      · rw [← Option.some.inj h]
    · rw [← Option.some.inj h]
theorem ask_nd {stirs : List Int} {n : Str} {L : List T} (nd : Nd L) : Nd (askL stirs n L) := by
  unfold askL
  cases look L n with
  | none => exact nd
  | some a => exact (fm_nd fun t t' => askT_nm).nodup nd
theorem step_perm {rooms stirs : List Int} {mv : Option Str} {L L' : List T} (nd : Nd L) (p : L.Perm L') : (stepL rooms stirs mv L).Perm (stepL rooms stirs mv L') := by
  unfold stepL
  cases mv with
  | none => exact crowd_perm (wane_nd nd) (wane_perm p)
  | some n => exact crowd_perm (ask_nd (wane_nd nd)) (ask_perm (wane_nd nd) (wane_perm p))
theorem step_nd {rooms stirs : List Int} {mv : Option Str} {L : List T} (nd : Nd L) : Nd (stepL rooms stirs mv L) := by
  unfold stepL
  cases mv with
  | none => exact crowd_nd (wane_nd nd)
  | some n => exact crowd_nd (ask_nd (wane_nd nd))
/-! ### what is kept -/
theorem wane_ok {t t' : T} (ok : t.Ok) (h : waneT t = some t') (c : 1 ≤ (t.wn.coming t.si).1 ∧ 0 ≤ (t.wn.coming t.si).2) : t'.Ok ∧ t'.wn = t.wn ∧ t'.kin = t.kin := by
  unfold waneT at h
  split at h
  · cases h
  · rename_i hn
    obtain rfl := Option.some.inj h
    have le0 : t.fo / (t.wn.coming t.si).1 ≤ t.fo := Int.ediv_le_self _ (by have := ok.f1; omega)
    exact ⟨⟨ok.w, ok.k0, ok.k9, ok.s0, by show 1 ≤ t.fo / _ - _; omega, by show t.fo / _ - _ ≤ t.wn.cap; have := ok.fc; omega, by show 0 ≤ t.si + 1; have := ok.i0; omega⟩, rfl, rfl⟩
theorem lift_ok {t : T} (ok : t.Ok) : (liftT t).Ok := by
  have h1 := ok.f1; have h2 := ok.fc; have h3 := ok.w.c1; have h4 := ok.w.l1; have h5 := ok.i0
  refine ⟨ok.w, ok.k0, ok.k9, ok.s0, by show 1 ≤ min t.wn.cap (t.fo + t.wn.lift); omega, by show min t.wn.cap _ ≤ t.wn.cap; omega, ?_⟩
  show 0 ≤ (if t.wn.anew then 0 else t.si)
  split <;> omega
theorem press_ok {t t' : T} {pr : Int} (ok : t.Ok) (h : pressT pr t = some t') : t'.Ok ∧ t'.wn = t.wn ∧ t'.kin = t.kin := by
  unfold pressT at h
  split at h
  · cases h
  · obtain rfl := Option.some.inj h
    exact ⟨⟨ok.w, ok.k0, ok.k9, ok.s0, by show 1 ≤ min _ _; omega, by show min _ _ ≤ t.wn.cap; omega, ok.i0⟩, rfl, rfl⟩
theorem ask_ok {stirs : List Int} {a t t' : T} (ok : t.Ok) (h : askT stirs a t = some t') : t'.Ok ∧ t'.wn = t.wn ∧ t'.kin = t.kin := by
  unfold askT at h
  split at h
  · obtain rfl := Option.some.inj h
    exact ⟨lift_ok ok, rfl, rfl⟩
  · split at h
    · exact press_ok ok h
    · obtain rfl := Option.some.inj h
      exact ⟨ok, rfl, rfl⟩
end Wh

/-! ## M5 -/
set_option Elab.async false
set_option linter.all false
namespace Wh
open PySem
/-! ### alike lists -/
def Eqv (L L' : List T) : Prop := (L.map norm).Perm (L'.map norm)
def OkL (L : List T) : Prop := Nd L ∧ ∀ t ∈ L, t.Ok
theorem OkL.norm {L : List T} (h : OkL L) : OkL (L.map norm) := by
  refine ⟨?_, fun t ht => ?_⟩
  · unfold Nd
    rw [List.map_map]
    exact h.1
  · obtain ⟨s, hs, rfl⟩ := List.mem_map.mp ht
    have o := h.2 s hs
    exact ⟨o.w, o.k0, o.k9, o.s0, o.f1, o.fc, phase_nn o.w o.i0⟩
theorem coming_sh {w : Wn} (ok : w.Ok) {si : Int} (h0 : 0 ≤ si) : 1 ≤ (w.coming si).1 ∧ 0 ≤ (w.coming si).2 := by
  have t0 := ok.tpos
  unfold Wn.coming
  by_cases h : si < (w.hd.length : Int)
  · rw [if_pos h, List.getD_eq_getElem?_getD, List.getElem?_eq_getElem (by omega)]
    have := ok.sh _ (List.getElem_mem (by omega : si.toNat < w.hd.length))
    exact ⟨this.1, this.2.2.1⟩
  · have m0 : 0 ≤ (si - (w.hd.length : Int)) % (w.tl.length : Int) := Int.emod_nonneg _ (by omega)
    have m1 : (si - (w.hd.length : Int)) % (w.tl.length : Int) < (w.tl.length : Int) := Int.emod_lt_of_pos _ (by omega)
    rw [if_neg h, List.getD_eq_getElem?_getD, List.getElem?_eq_getElem (by omega)]
    have := ok.st _ (List.getElem_mem (by omega : ((si - (w.hd.length : Int)) % (w.tl.length : Int)).toNat < w.tl.length))
    exact ⟨this.1, this.2.2.1⟩
theorem wane_okL {L : List T} (h : OkL L) : OkL (waneL L) :=
  ⟨wane_nd h.1, fun t ht => by
    obtain ⟨s, hs, e⟩ := List.mem_filterMap.mp ht
    have o := h.2 s hs
    exact (wane_ok o e (coming_sh o.w o.i0)).1⟩
theorem ask_okL {stirs : List Int} {n : Str} {L : List T} (h : OkL L) : OkL (askL stirs n L) := by
  refine ⟨ask_nd h.1, ?_⟩
  unfold askL
  cases look L n with
  | none => exact h.2
  | some a =>
    intro t ht
    obtain ⟨s, hs, e⟩ := List.mem_filterMap.mp ht
    exact (ask_ok (h.2 s hs) e).1
theorem crowd_okL {rooms : List Int} {L : List T} (h : OkL L) : OkL (crowdL rooms L) := ⟨crowd_nd h.1, crowd_ok h.2⟩
theorem step_okL {rooms stirs : List Int} {mv : Option Str} {L : List T} (h : OkL L) : OkL (stepL rooms stirs mv L) := by
  unfold stepL
  cases mv with
  | none => exact crowd_okL (wane_okL h)
  | some n => exact crowd_okL (ask_okL (wane_okL h))
/-- an operation that goes with norm and any order -/
theorem eqv_of {F : List T → List T} (hp : ∀ {L L' : List T}, Nd L → L.Perm L' → (F L).Perm (F L')) (hn : ∀ {L : List T}, OkL L → ((F (L.map norm)).map norm) = (F L).map norm) {L L' : List T} (o : OkL L) (o' : OkL L') (e : Eqv L L') : Eqv (F L) (F L') := by
  unfold Eqv
  rw [← hn o, ← hn o']
  exact (hp o.norm.1 e).map norm
theorem eqv_wane {L L' : List T} (o : OkL L) (o' : OkL L') (e : Eqv L L') : Eqv (waneL L) (waneL L') :=
  eqv_of (fun _ p => wane_perm p) (fun {L} o => fm_norm fun t ht => wane_norm (o.2 t ht)) o o' e
theorem look_norm (n : Str) : ∀ L : List T, look (L.map norm) n = (look L n).map norm
  | [] => rfl
  | t :: r => by
    have ih := look_norm n r
    unfold look at ih ⊢
    rw [List.map_cons, List.find?_cons, List.find?_cons]
    show (match decide (t.nm = n) with | true => some (norm t) | false => _) = _
    cases decide (t.nm = n) with
    | true => rfl
    | false => exact ih
theorem eqv_ask {stirs : List Int} {n : Str} {L L' : List T} (o : OkL L) (o' : OkL L') (e : Eqv L L') : Eqv (askL stirs n L) (askL stirs n L') := by
  refine eqv_of (fun nd p => ask_perm nd p) (fun {L} o => ?_) o o' e
  unfold askL
  rw [look_norm]
  cases look L n with
  | none =>
    simp only [Option.map_none]
    rw [List.map_map]
    exact List.map_congr_left fun t ht => norm_idem (o.2 t ht)
  | some a => exact fm_norm fun t ht => ask_norm (o.2 t ht)
theorem eqv_crowd {rooms : List Int} {L L' : List T} (o : OkL L) (o' : OkL L') (e : Eqv L L') : Eqv (crowdL rooms L) (crowdL rooms L') := by
  refine eqv_of (fun nd p => crowd_perm nd p) (fun {L} o => ?_) o o' e
  rw [crowd_norm o.2, List.map_map]
  exact List.map_congr_left fun t ht => norm_idem (crowd_ok o.2 t ht)
theorem eqv_step {rooms stirs : List Int} {mv : Option Str} {L L' : List T} (o : OkL L) (o' : OkL L') (e : Eqv L L') : Eqv (stepL rooms stirs mv L) (stepL rooms stirs mv L') := by
  unfold stepL
  cases mv with
  | none => exact eqv_crowd (wane_okL o) (wane_okL o') (eqv_wane o o' e)
  | some n => exact eqv_crowd (ask_okL (wane_okL o)) (ask_okL (wane_okL o')) (eqv_ask (wane_okL o) (wane_okL o') (eqv_wane o o' e))
theorem eqv_names {L L' : List T} (e : Eqv L L') : (L.map (·.nm)).Perm (L'.map (·.nm)) := by
  have := e.map (fun t : T => t.nm)
  rw [List.map_map, List.map_map] at this
  exact this
theorem st_norm {L : List T} (o : OkL L) : stL (L.map norm) = stL L := by
  unfold stL
  rw [List.map_map]
  show (sortS (L.map (·.nm))).filterMap _ = _
  refine fm_congr fun n _ => ?_
  rw [look_norm]
  cases e : look L n with
  | none => rfl
  | some t =>
    simp only [Option.map_some]
    rw [norm_row (o.2 t (look_some e).1)]
theorem st_perm {L L' : List T} (nd : Nd L) (p : L.Perm L') : stL L = stL L' := by
  unfold stL
  rw [sortS_congr (p.map _)]
  exact fm_congr fun n _ => by rw [look_perm nd p]
theorem eqv_st {L L' : List T} (o : OkL L) (o' : OkL L') (e : Eqv L L') : stL L = stL L' := by
  rw [← st_norm o, ← st_norm o']
  exact st_perm o.norm.1 e
theorem names_look {L : List T} (nd : Nd L) {β : Type} (g : T → β) : ((L.map (·.nm)).filterMap fun n => (look L n).map g) = L.map g := by
  rw [List.filterMap_map]
  have : ∀ M : List T, (∀ t ∈ M, t ∈ L) → M.filterMap ((fun n => (look L n).map g) ∘ fun t => t.nm) = M.map g := fun M hM => by
    induction M with
    | nil => rfl
    | cons t r ih =>
      rw [List.filterMap_cons, List.map_cons, ih fun x hx => hM x (List.mem_cons_of_mem _ hx)]
      show (match (look L t.nm).map g with | none => _ | some b => b :: _) = _
      rw [look_mem nd (hM t (List.mem_cons_self ..))]
      rfl
  exact this L fun t h => h
theorem st_rows {L : List T} (nd : Nd L) : (stL L).Perm (L.map row4) := by
  rw [← names_look nd row4]
  exact (sortS_perm _).filterMap _
def mkD (D : Sta) (r : St4) : T := ⟨r.1, (D r.1).1, (D r.1).2, r.2.1, r.2.2.1, r.2.2.2⟩
theorem mk_row {D : Sta} {t : T} (h : (t.wn, t.kin) = D t.nm) : mkD D (row4 t) = norm t := by
  unfold mkD row4 norm
  simp only
  rw [← h]
def Rp (D : Sta) (L : List T) : Prop := OkL L ∧ ∀ t ∈ L, (t.wn, t.kin) = D t.nm
theorem rows_norm {D : Sta} {L : List T} (h : Rp D L) : (L.map row4).map (mkD D) = L.map norm := by
  rw [List.map_map]
  exact List.map_congr_left fun t ht => mk_row (h.2 t ht)
theorem canon_eqv {D : Sta} {L : List T} (h : Rp D L) : Eqv L ((stL L).map (mkD D)) ∧ OkL ((stL L).map (mkD D)) := by
  have p : ((stL L).map (mkD D)).Perm (L.map norm) := by
    rw [← rows_norm h]
    exact (st_rows h.1.1).map _
  have ok : OkL ((stL L).map (mkD D)) := ⟨h.1.norm.1.perm p.symm, fun t ht => h.1.norm.2 t (p.mem_iff.mp ht)⟩
  refine ⟨?_, ok⟩
  unfold Eqv
  have := p.symm.map norm
  rw [List.map_map] at this
  have e : L.map (norm ∘ norm) = L.map norm := List.map_congr_left fun t ht => norm_idem (h.1.2 t ht)
  rw [e] at this
  exact this
/-! ### moves and ways -/
def movL (L : List T) : List (Option Str) := none :: ((sortS (L.map (·.nm))).filter fun n => ((look L n).bind waneT).isSome).map some
def allIn (names : List Str) (L : List T) : Bool := names.all fun n => decide (n ∈ L.map (·.nm))
def ways (rooms stirs : List Int) (names : List Str) (L : List T) : List (Option Str × AS) := (movL L).filterMap fun mv => if allIn names (stepL rooms stirs mv L) then some (mv, stL (stepL rooms stirs mv L)) else none
theorem wane_some {t : T} (ok : t.Ok) : (waneT (norm t)).isSome = (waneT t).isSome := by
  have := wane_norm ok
  cases h : waneT (norm t) <;> cases k : waneT t <;> rw [h, k] at this <;> simp_all
theorem mov_norm {L : List T} (o : OkL L) : movL (L.map norm) = movL L := by
  unfold movL
  rw [List.map_map]
  congr 2
  show (sortS (L.map (·.nm))).filter _ = _
  refine List.filter_congr fun n _ => ?_
  rw [look_norm]
  cases e : look L n with
  | none => rfl
  | some t => exact wane_some (o.2 t (look_some e).1)
theorem mov_perm {L L' : List T} (nd : Nd L) (p : L.Perm L') : movL L = movL L' := by
  unfold movL
  rw [sortS_congr (p.map _)]
  congr 2
  exact List.filter_congr fun n _ => by rw [look_perm nd p]
theorem eqv_mov {L L' : List T} (o : OkL L) (o' : OkL L') (e : Eqv L L') : movL L = movL L' := by
  rw [← mov_norm o, ← mov_norm o']
  exact mov_perm o.norm.1 e
theorem allIn_perm {names : List Str} {L L' : List T} (p : (L.map (·.nm)).Perm (L'.map (·.nm))) : allIn names L = allIn names L' := by
  unfold allIn
  congr 1
  funext n
  exact decide_eq_decide.mpr p.mem_iff
theorem eqv_ways {rooms stirs : List Int} {names : List Str} {L L' : List T} (o : OkL L) (o' : OkL L') (e : Eqv L L') : ways rooms stirs names L = ways rooms stirs names L' := by
  unfold ways
  rw [eqv_mov o o' e]
  refine fm_congr fun mv _ => ?_
  have e2 := eqv_step (rooms := rooms) (stirs := stirs) (mv := mv) o o' e
  rw [allIn_perm (eqv_names e2), eqv_st (step_okL o) (step_okL o') e2]
/-- the ways of a state -/
def succS (D : Sta) (rooms stirs : List Int) (names : List Str) (s : AS) : List (Option Str × AS) := ways rooms stirs names (s.map (mkD D))
theorem ways_succ {D : Sta} {rooms stirs : List Int} {names : List Str} {L : List T} (h : Rp D L) : ways rooms stirs names L = succS D rooms stirs names (stL L) :=
  eqv_ways h.1 (canon_eqv h).2 (canon_eqv h).1
theorem moveT_st {rooms : Nat} {i : Int} {t t' : T} (h : moveT rooms i t = some t') : t'.wn = t.wn ∧ t'.kin = t.kin ∧ t'.nm = t.nm := by
  unfold moveT at h
  split at h
  · cases h
  · rw [← Option.some.inj h]
    exact ⟨rfl, rfl, rfl⟩
def StaL (D : Sta) (L : List T) : Prop := ∀ t ∈ L, (t.wn, t.kin) = D t.nm
theorem fm_sta {D : Sta} {f : T → Option T} {L : List T} (h : StaL D L) (hf : ∀ t ∈ L, ∀ t', f t = some t' → t'.wn = t.wn ∧ t'.kin = t.kin ∧ t'.nm = t.nm) : StaL D (L.filterMap f) := fun t ht => by
  obtain ⟨s, hs, e⟩ := List.mem_filterMap.mp ht
  obtain ⟨h1, h2, h3⟩ := hf s hs t e
  rw [h1, h2, h3]
  exact h s hs
theorem updT_sta {D : Sta} {n : Str} {f : T → Option T} {L : List T} (h : StaL D L) (hf : ∀ t t', f t = some t' → t'.wn = t.wn ∧ t'.kin = t.kin ∧ t'.nm = t.nm) : StaL D (updT n f L) := fm_sta h fun t _ t' e => by
  split at e
  · exact hf _ _ e
  · obtain rfl := Option.some.inj e
    exact ⟨rfl, rfl, rfl⟩
theorem settle_sta {D : Sta} {rooms : Nat} {hold i : Int} : ∀ (m : Nat) {L : List T}, StaL D L → StaL D (settle rooms hold i m L)
  | 0, _, h => h
  | m + 1, L, h => by
    unfold settle
    split
    · cases e : weakL i L with
      | none => exact h
      | some w => exact settle_sta m (updT_sta h fun t t' => moveT_st)
    · exact h
theorem crowdFrom_sta {D : Sta} {rooms : List Int} : ∀ (k i : Nat) {L : List T}, StaL D L → StaL D (crowdFrom rooms i k L)
  | 0, _, _, h => h
  | k + 1, i, L, h => by
    unfold crowdFrom
    exact crowdFrom_sta k (i + 1) (settle_sta _ h)
theorem wane_sta {D : Sta} {L : List T} (h : StaL D L) : StaL D (waneL L) := fm_sta h fun t _ t' e => by
  unfold waneT at e
  split at e
  · cases e
  · rw [← Option.some.inj e]
    exact ⟨rfl, rfl, rfl⟩
theorem ask_sta {D : Sta} {stirs : List Int} {n : Str} {L : List T} (h : StaL D L) : StaL D (askL stirs n L) := by
  unfold askL
  cases look L n with
  | none => exact h
  | some a =>
    refine fm_sta h fun t _ t' e => ?_
    unfold askT pressT at e
    split at e
    · rw [← Option.some.inj e]; exact ⟨rfl, rfl, rfl⟩
    · split at e
      · split at e
        · cases e
        · rw [← Option.some.inj e]; exact ⟨rfl, rfl, rfl⟩
      · rw [← Option.some.inj e]; exact ⟨rfl, rfl, rfl⟩
theorem step_rp {D : Sta} {rooms stirs : List Int} {mv : Option Str} {L : List T} (h : Rp D L) : Rp D (stepL rooms stirs mv L) := by
  refine ⟨step_okL h.1, ?_⟩
  unfold stepL
  cases mv with
  | none => exact crowdFrom_sta _ _ (wane_sta h.2)
  | some n => exact crowdFrom_sta _ _ (ask_sta (wane_sta h.2))
/-! ### in how many turns a game is lost -/
def max0 (l : List Nat) : Nat := l.foldl max 0
inductive Rk (su : AS → List (Option Str × AS)) : AS → Nat → Prop where
  | mk (s : AS) (f : AS → Nat) (h : ∀ p ∈ su s, Rk su p.2 (f p.2)) : Rk su s (1 + max0 ((su s).map fun p => f p.2))
theorem Rk.uniq {su : AS → List (Option Str × AS)} {s : AS} {n m : Nat} (h : Rk su s n) (k : Rk su s m) : n = m := by
  induction h generalizing m with
  | mk s f h ih =>
    cases k with
    | mk _ g k =>
      congr 2
      exact List.map_congr_left fun p hp => ih p hp (k p hp)
theorem le_max0 : ∀ {l : List Nat} {a x : Nat}, x ∈ l ∨ x ≤ a → x ≤ l.foldl max a
  | [], a, x, h => by
    rcases h with h | h
    · cases h
    · exact h
  | y :: r, a, x, h => by
    rw [List.foldl_cons]
    rcases h with h | h
    · rcases List.mem_cons.mp h with z | z
      · exact le_max0 (.inr (by rw [z]; exact Nat.le_max_right ..))
      · exact le_max0 (.inl z)
    · exact le_max0 (.inr (Nat.le_trans h (Nat.le_max_left ..)))
theorem max0_mem : ∀ (l : List Nat) (a : Nat), l.foldl max a = a ∨ l.foldl max a ∈ l
  | [], a => .inl rfl
  | y :: r, a => by
    rw [List.foldl_cons]
    rcases max0_mem r (max a y) with h | h
    · rw [h]
      rcases Nat.le_total a y with z | z
      · rw [Nat.max_eq_right z]; exact .inr (List.mem_cons_self ..)
      · rw [Nat.max_eq_left z]; exact .inl rfl
    · exact .inr (List.mem_cons_of_mem _ h)
/-- a way lessens the rank -/
theorem Rk.less {su : AS → List (Option Str × AS)} {s : AS} {n : Nat} (h : Rk su s n) {p : Option Str × AS} (hp : p ∈ su s) : ∃ m, Rk su p.2 m ∧ m + 1 ≤ n := by
  cases h with
  | mk _ f h =>
    refine ⟨f p.2, h p hp, ?_⟩
    have := le_max0 (a := 0) (.inl (List.mem_map.mpr ⟨p, hp, rfl⟩) : f p.2 ∈ (su s).map (fun p => f p.2) ∨ _)
    unfold max0
    omega
theorem Rk.pos {su : AS → List (Option Str × AS)} {s : AS} {n : Nat} (h : Rk su s n) : 1 ≤ n := by
  cases h with
  | mk _ f h => omega
/-- some way lessens it by one alone -/
theorem Rk.best {su : AS → List (Option Str × AS)} {s : AS} {n : Nat} (h : Rk su s (n + 2)) : ∃ p ∈ su s, Rk su p.2 (n + 1) := by
  generalize hk : n + 2 = k at h
  cases h with
  | mk _ f h =>
    rcases max0_mem ((su s).map fun p => f p.2) 0 with z | z
    · unfold max0 at hk
      omega
    · obtain ⟨p, hp, e⟩ := List.mem_map.mp z
      refine ⟨p, hp, ?_⟩
      have := h p hp
      unfold max0 at hk
      have e2 : f p.2 = n + 1 := by omega
      rw [e2] at this
      exact this
end Wh

/-! ## M6 -/
set_option Elab.async false
set_option linter.all false
namespace Wh
open PySem
/-! ### numbers of places -/
abbrev Wy := List (List (Option Str × Nat))
abbrev Nu := List (Nat × Nat)
def numAt (nu : Nu) (p : Nat) : Option Nat := (nu.find? fun e => decide (e.1 = p)).map (·.2)
structure NumOk (W : Wy) (nu : Nu) : Prop where
  nd : (nu.map (·.1)).Nodup
  lt : ∀ e ∈ nu, e.1 < W.length
  ok : ∀ e ∈ nu, ∀ q ∈ W.getD e.1 [], (numAt nu q.2).isSome ∧ (numAt nu q.2).getD 0 + 1 ≤ e.2
  eq : ∀ e ∈ nu, e.2 = 1 + max0 ((W.getD e.1 []).map fun q => (numAt nu q.2).getD 0)
/-- all that could be numbered is -/
def NumAll (W : Wy) (nu : Nu) : Prop := ∀ p, p < W.length → (∀ q ∈ W.getD p [], (numAt nu q.2).isSome) → (numAt nu p).isSome
theorem numAt_none {nu : Nu} {p : Nat} : numAt nu p = none ↔ p ∉ nu.map (·.1) := by
  unfold numAt
  rw [Option.map_eq_none_iff, List.find?_eq_none]
  refine ⟨fun h z => ?_, fun h e he z => ?_⟩
  · obtain ⟨e, he, ee⟩ := List.mem_map.mp z
    exact h e he (by simp [ee])
  · exact h (List.mem_map.mpr ⟨e, he, of_decide_eq_true z⟩)
theorem numAt_isSome {nu : Nu} {p : Nat} : (numAt nu p).isSome ↔ p ∈ nu.map (·.1) := by
  cases h : numAt nu p with
  | none => simpa using numAt_none.mp h
  | some n =>
    refine ⟨fun _ => ?_, fun _ => rfl⟩
    by_cases z : p ∈ nu.map (·.1)
    · exact z
    · rw [numAt_none.mpr z] at h; cases h
theorem numAt_snoc {nu : Nu} {p v q : Nat} : numAt (nu ++ [(p, v)]) q = (numAt nu q).or (if p = q then some v else none) := by
  unfold numAt
  rw [List.find?_append]
  cases nu.find? fun e => decide (e.1 = q) with
  | some e => rfl
  | none =>
    by_cases h : p = q
    · simp [h]
    · simp [h]
theorem numAt_keep {nu : Nu} {p v q : Nat} (h : (numAt nu q).isSome) : numAt (nu ++ [(p, v)]) q = numAt nu q := by
  rw [numAt_snoc]
  cases e : numAt nu q with
  | none => rw [e] at h; cases h
  | some n => rfl
theorem NumOk.nil (W : Wy) : NumOk W [] := ⟨.nil, (fun _ h => nomatch h), (fun _ h => nomatch h), (fun _ h => nomatch h)⟩
theorem NumOk.snoc {W : Wy} {nu : Nu} (h : NumOk W nu) {p : Nat} (hp : p < W.length) (new : p ∉ nu.map (·.1)) (all : ∀ q ∈ W.getD p [], (numAt nu q.2).isSome) : NumOk W (nu ++ [(p, 1 + max0 ((W.getD p []).map fun q => (numAt nu q.2).getD 0))]) := by
  have keepE : ∀ e ∈ nu, ∀ v, ((W.getD e.1 []).map fun q => (numAt (nu ++ [(p, v)]) q.2).getD 0) = (W.getD e.1 []).map fun q => (numAt nu q.2).getD 0 := fun e he v =>
    List.map_congr_left fun q hq => by rw [numAt_keep (h.ok e he q hq).1]
  have keepP : ∀ v, ((W.getD p []).map fun q => (numAt (nu ++ [(p, v)]) q.2).getD 0) = (W.getD p []).map fun q => (numAt nu q.2).getD 0 := fun v =>
    List.map_congr_left fun q hq => by rw [numAt_keep (all q hq)]
  refine ⟨?_, fun e he => ?_, fun e he q hq => ?_, fun e he => ?_⟩
  · rw [List.map_append]
    refine List.nodup_append.mpr ⟨h.nd, by simp, fun a ha c hc z => ?_⟩
    obtain rfl : c = p := by simpa using hc
    exact new (z ▸ ha)
  · rcases List.mem_append.mp he with z | z
    · exact h.lt e z
    · rw [List.mem_singleton.mp z]; exact hp
  · rcases List.mem_append.mp he with z | z
    · obtain ⟨a, b⟩ := h.ok e z q hq
      rw [numAt_keep a]
      exact ⟨a, b⟩
    · obtain rfl := List.mem_singleton.mp z
      have a := all q hq
      rw [numAt_keep a]
      refine ⟨a, ?_⟩
      have := le_max0 (a := 0) (.inl (List.mem_map.mpr ⟨q, hq, rfl⟩) : (numAt nu q.2).getD 0 ∈ (W.getD p []).map (fun q => (numAt nu q.2).getD 0) ∨ _)
      show _ ≤ 1 + max0 _
      unfold max0
      omega
  · rcases List.mem_append.mp he with z | z
    · rw [keepE e z]; exact h.eq e z
    · obtain rfl := List.mem_singleton.mp z
      rw [keepP]
/-- how many ways lead out of what is numbered -/
def openW (W : Wy) (nu : Nu) (p : Nat) : Nat := ((W.getD p []).filter fun q => decide (q.2 ∉ nu.map (·.1))).length
theorem openW_zero {W : Wy} {nu : Nu} {p : Nat} : openW W nu p = 0 ↔ ∀ q ∈ W.getD p [], (numAt nu q.2).isSome := by
  unfold openW
  rw [List.length_eq_zero_iff, List.filter_eq_nil_iff]
  refine ⟨fun h q hq => numAt_isSome.mpr ?_, fun h q hq z => ?_⟩
  · have := h q hq
    simpa using this
  · have := numAt_isSome.mp (h q hq)
    exact (of_decide_eq_true z) this
theorem openW_snoc {W : Wy} {nu : Nu} {p v t : Nat} (new : t ∉ nu.map (·.1)) : openW W nu p = openW W (nu ++ [(t, v)]) p + ((W.getD p []).filter fun q => decide (q.2 = t)).length := by
  unfold openW
  generalize W.getD p [] = r
  induction r with
  | nil => rfl
  | cons q r ih =>
    simp only [List.filter_cons]
    by_cases h : q.2 = t
    · have h1 : q.2 ∉ nu.map (·.1) := by rw [h]; exact new
      have h2 : ¬ (q.2 ∉ (nu ++ [(t, v)]).map (·.1)) := fun z => z (by rw [h]; simp)
      rw [decide_eq_true h1, decide_eq_false h2, decide_eq_true h]
      simp only [if_true, Bool.false_eq_true, if_false, List.length_cons]
      omega
    · rw [decide_eq_false h]
      by_cases h1 : q.2 ∈ nu.map (·.1)
      · have h2 : ¬ (q.2 ∉ (nu ++ [(t, v)]).map (·.1)) := fun z => z (by rw [List.map_append]; exact List.mem_append.mpr (.inl h1))
        rw [decide_eq_false (fun z => z h1), decide_eq_false h2]
        simpa using ih
      · have h2 : q.2 ∉ (nu ++ [(t, v)]).map (·.1) := fun z => by
          rw [List.map_append] at z
          rcases List.mem_append.mp z with y | y
          · exact h1 y
          · exact h (by simpa using y)
        rw [decide_eq_true h1, decide_eq_true h2]
        simp only [if_true, Bool.false_eq_true, if_false, List.length_cons]
        omega
end Wh

/-! ## M7 -/
set_option Elab.async false
set_option linter.all false
namespace Wh
open PySem
def NmSub (L' L : List T) : Prop := (L'.map (·.nm)).Sublist (L.map (·.nm))
theorem settle_sub {rooms : Nat} {hold i : Int} : ∀ (m : Nat) (L : List T), NmSub (settle rooms hold i m L) L
  | 0, L => List.Sublist.refl _
  | m + 1, L => by
    unfold settle
    split
    · cases e : weakL i L with
      | none => exact List.Sublist.refl _
      | some w => exact (settle_sub m _).trans (updT_nd (fun t t' h => (moveT_nm2 h)))
    · exact List.Sublist.refl _
theorem crowdFrom_sub {rooms : List Int} : ∀ (k i : Nat) (L : List T), NmSub (crowdFrom rooms i k L) L
  | 0, _, L => List.Sublist.refl _
  | k + 1, i, L => by
    unfold crowdFrom
    exact (crowdFrom_sub k (i + 1) _).trans (settle_sub _ _)
theorem wane_sub (L : List T) : NmSub (waneL L) L := fm_nd fun t t' => waneT_nm2
theorem ask_sub (stirs : List Int) (n : Str) (L : List T) : NmSub (askL stirs n L) L := by
  unfold askL
  cases look L n with
  | none => exact List.Sublist.refl _
  | some a => exact fm_nd fun t t' => askT_nm
theorem step_sub (rooms stirs : List Int) (mv : Option Str) (L : List T) : NmSub (stepL rooms stirs mv L) L := by
  unfold stepL
  cases mv with
  | none => exact (crowdFrom_sub _ _ _).trans (wane_sub L)
  | some n => exact (crowdFrom_sub _ _ _).trans ((ask_sub _ _ _).trans (wane_sub L))
theorem mov_in {L : List T} {n : Str} (h : some n ∈ movL L) : n ∈ L.map (·.nm) := by
  unfold movL at h
  rcases List.mem_cons.mp h with z | z
  · cases z
  · obtain ⟨x, hx, e⟩ := List.mem_map.mp z
    obtain rfl := Option.some.inj e
    exact sortS_mem.mp (List.mem_filter.mp hx).1
end Wh

/-! ## S3f -/
set_option Elab.async false
set_option linter.all false
set_option maxRecDepth 100000
set_option maxHeartbeats 2000000
namespace Wh
open PySem PySem.Spec PyProof.Rows L2
theorem flN {f : Str} {v : V} {n : Nat} : ∀ {fs : List (Str × V)}, fs.length < n → (putF f v fs).length < n + 1
  | [], h => by show 1 < n + 1; have : 0 < n := h; omega
  | (g, x) :: r, h => by
    unfold putF
    by_cases e : g = f
    · rw [if_pos e]; simp only [List.length_cons] at h ⊢; omega
    · rw [if_neg e]
      cases n with
      | zero => exact absurd h (Nat.not_lt_zero _)
      | succ n => simp only [List.length_cons] at h ⊢; exact Nat.succ_lt_succ (flN (Nat.lt_of_succ_lt_succ h))
def fWane (v_head_steps v_tail_steps v_cap_at v_lift_by v_begins : V) : List (Str × V) := [("head_steps", v_head_steps), ("tail_steps", v_tail_steps), ("cap_at", v_cap_at), ("lift_by", v_lift_by), ("begins", v_begins)]
section
variable {v_head_steps v_tail_steps v_cap_at v_lift_by v_begins x : V}
theorem lWane_head_steps : (fWane v_head_steps v_tail_steps v_cap_at v_lift_by v_begins).lookup ("head_steps" : Str) = some v_head_steps := by rfl
theorem pWane_head_steps : putF "head_steps" x (fWane v_head_steps v_tail_steps v_cap_at v_lift_by v_begins) = fWane x v_tail_steps v_cap_at v_lift_by v_begins := by rfl
theorem lWane_tail_steps : (fWane v_head_steps v_tail_steps v_cap_at v_lift_by v_begins).lookup ("tail_steps" : Str) = some v_tail_steps := by rfl
theorem pWane_tail_steps : putF "tail_steps" x (fWane v_head_steps v_tail_steps v_cap_at v_lift_by v_begins) = fWane v_head_steps x v_cap_at v_lift_by v_begins := by rfl
theorem lWane_cap_at : (fWane v_head_steps v_tail_steps v_cap_at v_lift_by v_begins).lookup ("cap_at" : Str) = some v_cap_at := by rfl
theorem pWane_cap_at : putF "cap_at" x (fWane v_head_steps v_tail_steps v_cap_at v_lift_by v_begins) = fWane v_head_steps v_tail_steps x v_lift_by v_begins := by rfl
theorem lWane_lift_by : (fWane v_head_steps v_tail_steps v_cap_at v_lift_by v_begins).lookup ("lift_by" : Str) = some v_lift_by := by rfl
theorem pWane_lift_by : putF "lift_by" x (fWane v_head_steps v_tail_steps v_cap_at v_lift_by v_begins) = fWane v_head_steps v_tail_steps v_cap_at x v_begins := by rfl
theorem lWane_begins : (fWane v_head_steps v_tail_steps v_cap_at v_lift_by v_begins).lookup ("begins" : Str) = some v_begins := by rfl
theorem pWane_begins : putF "begins" x (fWane v_head_steps v_tail_steps v_cap_at v_lift_by v_begins) = fWane v_head_steps v_tail_steps v_cap_at v_lift_by x := by rfl
theorem lenWane : (fWane v_head_steps v_tail_steps v_cap_at v_lift_by v_begins).length < 1000 := by show 5 < 1000; decide
theorem lnWane {n : Nat} (h : 5 < n) : (fWane v_head_steps v_tail_steps v_cap_at v_lift_by v_begins).length < n := h
theorem nmWane_cap : (fWane v_head_steps v_tail_steps v_cap_at v_lift_by v_begins).lookup ("cap" : Str) = none := by rfl
theorem nmWane_lift : (fWane v_head_steps v_tail_steps v_cap_at v_lift_by v_begins).lookup ("lift" : Str) = none := by rfl
theorem nmWane_is_anew : (fWane v_head_steps v_tail_steps v_cap_at v_lift_by v_begins).lookup ("is_anew" : Str) = none := by rfl
theorem nmWane_coming : (fWane v_head_steps v_tail_steps v_cap_at v_lift_by v_begins).lookup ("coming" : Str) = none := by rfl
theorem nmWane_phase_of : (fWane v_head_steps v_tail_steps v_cap_at v_lift_by v_begins).lookup ("phase_of" : Str) = none := by rfl
end
theorem mkWane {v_head_steps v_tail_steps v_cap_at v_lift_by v_begins : V} : (putF "begins" v_begins (putF "lift_by" v_lift_by (putF "cap_at" v_cap_at (putF "tail_steps" v_tail_steps (putF "head_steps" v_head_steps []))))) = fWane v_head_steps v_tail_steps v_cap_at v_lift_by v_begins := by rfl
def fBody (v_name v_kin v_wane v_force v_since v_asked v_spot : V) : List (Str × V) := [("name", v_name), ("kin", v_kin), ("wane", v_wane), ("force", v_force), ("since", v_since), ("asked", v_asked), ("spot", v_spot)]
section
variable {v_name v_kin v_wane v_force v_since v_asked v_spot x : V}
theorem lBody_name : (fBody v_name v_kin v_wane v_force v_since v_asked v_spot).lookup ("name" : Str) = some v_name := by rfl
theorem pBody_name : putF "name" x (fBody v_name v_kin v_wane v_force v_since v_asked v_spot) = fBody x v_kin v_wane v_force v_since v_asked v_spot := by rfl
theorem lBody_kin : (fBody v_name v_kin v_wane v_force v_since v_asked v_spot).lookup ("kin" : Str) = some v_kin := by rfl
theorem pBody_kin : putF "kin" x (fBody v_name v_kin v_wane v_force v_since v_asked v_spot) = fBody v_name x v_wane v_force v_since v_asked v_spot := by rfl
theorem lBody_wane : (fBody v_name v_kin v_wane v_force v_since v_asked v_spot).lookup ("wane" : Str) = some v_wane := by rfl
theorem pBody_wane : putF "wane" x (fBody v_name v_kin v_wane v_force v_since v_asked v_spot) = fBody v_name v_kin x v_force v_since v_asked v_spot := by rfl
theorem lBody_force : (fBody v_name v_kin v_wane v_force v_since v_asked v_spot).lookup ("force" : Str) = some v_force := by rfl
theorem pBody_force : putF "force" x (fBody v_name v_kin v_wane v_force v_since v_asked v_spot) = fBody v_name v_kin v_wane x v_since v_asked v_spot := by rfl
theorem lBody_since : (fBody v_name v_kin v_wane v_force v_since v_asked v_spot).lookup ("since" : Str) = some v_since := by rfl
theorem pBody_since : putF "since" x (fBody v_name v_kin v_wane v_force v_since v_asked v_spot) = fBody v_name v_kin v_wane v_force x v_asked v_spot := by rfl
theorem lBody_asked : (fBody v_name v_kin v_wane v_force v_since v_asked v_spot).lookup ("asked" : Str) = some v_asked := by rfl
theorem pBody_asked : putF "asked" x (fBody v_name v_kin v_wane v_force v_since v_asked v_spot) = fBody v_name v_kin v_wane v_force v_since x v_spot := by rfl
theorem lBody_spot : (fBody v_name v_kin v_wane v_force v_since v_asked v_spot).lookup ("spot" : Str) = some v_spot := by rfl
theorem pBody_spot : putF "spot" x (fBody v_name v_kin v_wane v_force v_since v_asked v_spot) = fBody v_name v_kin v_wane v_force v_since v_asked x := by rfl
theorem lenBody : (fBody v_name v_kin v_wane v_force v_since v_asked v_spot).length < 1000 := by show 7 < 1000; decide
theorem lnBody {n : Nat} (h : 7 < n) : (fBody v_name v_kin v_wane v_force v_since v_asked v_spot).length < n := h
theorem nmBody_twin : (fBody v_name v_kin v_wane v_force v_since v_asked v_spot).lookup ("twin" : Str) = none := by rfl
end
theorem mkBody {v_name v_kin v_wane v_force v_since v_asked v_spot : V} : (putF "spot" v_spot (putF "asked" v_asked (putF "since" v_since (putF "force" v_force (putF "wane" v_wane (putF "kin" v_kin (putF "name" v_name []))))))) = fBody v_name v_kin v_wane v_force v_since v_asked v_spot := by rfl
def fScene (v_moment v_holds v_presses v_grains v_fades v_bodies v_marks v_doers v_hired v_watch v_tale : V) : List (Str × V) := [("moment", v_moment), ("holds", v_holds), ("presses", v_presses), ("grains", v_grains), ("fades", v_fades), ("bodies", v_bodies), ("marks", v_marks), ("doers", v_doers), ("hired", v_hired), ("watch", v_watch), ("tale", v_tale)]
section
variable {v_moment v_holds v_presses v_grains v_fades v_bodies v_marks v_doers v_hired v_watch v_tale x : V}
theorem lScene_moment : (fScene v_moment v_holds v_presses v_grains v_fades v_bodies v_marks v_doers v_hired v_watch v_tale).lookup ("moment" : Str) = some v_moment := by rfl
theorem pScene_moment : putF "moment" x (fScene v_moment v_holds v_presses v_grains v_fades v_bodies v_marks v_doers v_hired v_watch v_tale) = fScene x v_holds v_presses v_grains v_fades v_bodies v_marks v_doers v_hired v_watch v_tale := by rfl
theorem lScene_holds : (fScene v_moment v_holds v_presses v_grains v_fades v_bodies v_marks v_doers v_hired v_watch v_tale).lookup ("holds" : Str) = some v_holds := by rfl
theorem pScene_holds : putF "holds" x (fScene v_moment v_holds v_presses v_grains v_fades v_bodies v_marks v_doers v_hired v_watch v_tale) = fScene v_moment x v_presses v_grains v_fades v_bodies v_marks v_doers v_hired v_watch v_tale := by rfl
theorem lScene_presses : (fScene v_moment v_holds v_presses v_grains v_fades v_bodies v_marks v_doers v_hired v_watch v_tale).lookup ("presses" : Str) = some v_presses := by rfl
theorem pScene_presses : putF "presses" x (fScene v_moment v_holds v_presses v_grains v_fades v_bodies v_marks v_doers v_hired v_watch v_tale) = fScene v_moment v_holds x v_grains v_fades v_bodies v_marks v_doers v_hired v_watch v_tale := by rfl
theorem lScene_grains : (fScene v_moment v_holds v_presses v_grains v_fades v_bodies v_marks v_doers v_hired v_watch v_tale).lookup ("grains" : Str) = some v_grains := by rfl
theorem pScene_grains : putF "grains" x (fScene v_moment v_holds v_presses v_grains v_fades v_bodies v_marks v_doers v_hired v_watch v_tale) = fScene v_moment v_holds v_presses x v_fades v_bodies v_marks v_doers v_hired v_watch v_tale := by rfl
theorem lScene_fades : (fScene v_moment v_holds v_presses v_grains v_fades v_bodies v_marks v_doers v_hired v_watch v_tale).lookup ("fades" : Str) = some v_fades := by rfl
theorem pScene_fades : putF "fades" x (fScene v_moment v_holds v_presses v_grains v_fades v_bodies v_marks v_doers v_hired v_watch v_tale) = fScene v_moment v_holds v_presses v_grains x v_bodies v_marks v_doers v_hired v_watch v_tale := by rfl
theorem lScene_bodies : (fScene v_moment v_holds v_presses v_grains v_fades v_bodies v_marks v_doers v_hired v_watch v_tale).lookup ("bodies" : Str) = some v_bodies := by rfl
theorem pScene_bodies : putF "bodies" x (fScene v_moment v_holds v_presses v_grains v_fades v_bodies v_marks v_doers v_hired v_watch v_tale) = fScene v_moment v_holds v_presses v_grains v_fades x v_marks v_doers v_hired v_watch v_tale := by rfl
theorem lScene_marks : (fScene v_moment v_holds v_presses v_grains v_fades v_bodies v_marks v_doers v_hired v_watch v_tale).lookup ("marks" : Str) = some v_marks := by rfl
theorem pScene_marks : putF "marks" x (fScene v_moment v_holds v_presses v_grains v_fades v_bodies v_marks v_doers v_hired v_watch v_tale) = fScene v_moment v_holds v_presses v_grains v_fades v_bodies x v_doers v_hired v_watch v_tale := by rfl
theorem lScene_doers : (fScene v_moment v_holds v_presses v_grains v_fades v_bodies v_marks v_doers v_hired v_watch v_tale).lookup ("doers" : Str) = some v_doers := by rfl
theorem pScene_doers : putF "doers" x (fScene v_moment v_holds v_presses v_grains v_fades v_bodies v_marks v_doers v_hired v_watch v_tale) = fScene v_moment v_holds v_presses v_grains v_fades v_bodies v_marks x v_hired v_watch v_tale := by rfl
theorem lScene_hired : (fScene v_moment v_holds v_presses v_grains v_fades v_bodies v_marks v_doers v_hired v_watch v_tale).lookup ("hired" : Str) = some v_hired := by rfl
theorem pScene_hired : putF "hired" x (fScene v_moment v_holds v_presses v_grains v_fades v_bodies v_marks v_doers v_hired v_watch v_tale) = fScene v_moment v_holds v_presses v_grains v_fades v_bodies v_marks v_doers x v_watch v_tale := by rfl
theorem lScene_watch : (fScene v_moment v_holds v_presses v_grains v_fades v_bodies v_marks v_doers v_hired v_watch v_tale).lookup ("watch" : Str) = some v_watch := by rfl
theorem pScene_watch : putF "watch" x (fScene v_moment v_holds v_presses v_grains v_fades v_bodies v_marks v_doers v_hired v_watch v_tale) = fScene v_moment v_holds v_presses v_grains v_fades v_bodies v_marks v_doers v_hired x v_tale := by rfl
theorem lScene_tale : (fScene v_moment v_holds v_presses v_grains v_fades v_bodies v_marks v_doers v_hired v_watch v_tale).lookup ("tale" : Str) = some v_tale := by rfl
theorem pScene_tale : putF "tale" x (fScene v_moment v_holds v_presses v_grains v_fades v_bodies v_marks v_doers v_hired v_watch v_tale) = fScene v_moment v_holds v_presses v_grains v_fades v_bodies v_marks v_doers v_hired v_watch x := by rfl
theorem lenScene : (fScene v_moment v_holds v_presses v_grains v_fades v_bodies v_marks v_doers v_hired v_watch v_tale).length < 1000 := by show 11 < 1000; decide
theorem lnScene {n : Nat} (h : 11 < n) : (fScene v_moment v_holds v_presses v_grains v_fades v_bodies v_marks v_doers v_hired v_watch v_tale).length < n := h
theorem nmScene_twin : (fScene v_moment v_holds v_presses v_grains v_fades v_bodies v_marks v_doers v_hired v_watch v_tale).lookup ("twin" : Str) = none := by rfl
theorem nmScene_state : (fScene v_moment v_holds v_presses v_grains v_fades v_bodies v_marks v_doers v_hired v_watch v_tale).lookup ("state" : Str) = none := by rfl
end
theorem mkScene {v_moment v_holds v_presses v_grains v_fades v_bodies v_marks v_doers v_hired v_watch v_tale : V} : (putF "tale" v_tale (putF "watch" v_watch (putF "hired" v_hired (putF "doers" v_doers (putF "marks" v_marks (putF "bodies" v_bodies (putF "fades" v_fades (putF "grains" v_grains (putF "presses" v_presses (putF "holds" v_holds (putF "moment" v_moment []))))))))))) = fScene v_moment v_holds v_presses v_grains v_fades v_bodies v_marks v_doers v_hired v_watch v_tale := by rfl
def fStore (v_scene : V) : List (Str × V) := [("scene", v_scene)]
section
variable {v_scene x : V}
theorem lStore_scene : (fStore v_scene).lookup ("scene" : Str) = some v_scene := by rfl
theorem pStore_scene : putF "scene" x (fStore v_scene) = fStore x := by rfl
theorem lenStore : (fStore v_scene).length < 1000 := by show 1 < 1000; decide
theorem lnStore {n : Nat} (h : 1 < n) : (fStore v_scene).length < n := h
theorem nmStore_body_of : (fStore v_scene).lookup ("body_of" : Str) = none := by rfl
theorem nmStore_put : (fStore v_scene).lookup ("put" : Str) = none := by rfl
theorem nmStore_hire : (fStore v_scene).lookup ("hire" : Str) = none := by rfl
theorem nmStore_dismiss : (fStore v_scene).lookup ("dismiss" : Str) = none := by rfl
theorem nmStore_pass_on : (fStore v_scene).lookup ("pass_on" : Str) = none := by rfl
theorem nmStore_now : (fStore v_scene).lookup ("now" : Str) = none := by rfl
theorem nmStore_there : (fStore v_scene).lookup ("there" : Str) = none := by rfl
theorem nmStore_thing : (fStore v_scene).lookup ("thing" : Str) = none := by rfl
theorem nmStore_wane_of : (fStore v_scene).lookup ("wane_of" : Str) = none := by rfl
theorem nmStore_askers : (fStore v_scene).lookup ("askers" : Str) = none := by rfl
theorem nmStore_mender : (fStore v_scene).lookup ("mender" : Str) = none := by rfl
theorem nmStore_state : (fStore v_scene).lookup ("state" : Str) = none := by rfl
theorem nmStore_copied : (fStore v_scene).lookup ("copied" : Str) = none := by rfl
end
theorem mkStore {v_scene : V} : (putF "scene" v_scene []) = fStore v_scene := by rfl
end Wh

/-! ## S3 -/
set_option Elab.async false
set_option linter.all false
set_option maxRecDepth 100000
set_option maxHeartbeats 2000000
namespace Wh
open PySem PySem.Spec PyProof.Rows L2
/-! ### what stays -/
structure Kp (G : Addr → Prop) (H H' : Hp) : Prop where
  g : ∀ a o, G a → H a = some o → H' a = some o
  t : ∀ a xs, H a = some (.tup xs) → H' a = some (.tup xs)
theorem Kp.refl (G : Addr → Prop) (H : Hp) : Kp G H H := ⟨fun _ _ _ h => h, fun _ _ h => h⟩
theorem Kp.trans {G : Addr → Prop} {H H1 H2 : Hp} (a : Kp G H H1) (b : Kp G H1 H2) : Kp G H H2 := ⟨fun c o g h => b.g c o g (a.g c o g h), fun c xs h => b.t c xs (a.t c xs h)⟩
theorem Kp.mono {G G' : Addr → Prop} {H H1 : Hp} (a : Kp G H H1) (h : ∀ c, G' c → G c) : Kp G' H H1 := ⟨fun c o g e => a.g c o (h c g) e, a.t⟩
theorem Kp.tups {G : Addr → Prop} {H H1 : Hp} (a : Kp G H H1) : Tups H H1 := a.t
/-- a new object -/
theorem Kp.new {G : Addr → Prop} {H : Hp} {p : Addr} {o : HO} (h : H p = none) : Kp G H (upd H p o) :=
  ⟨fun a u _ e => by rw [upd_ne (ne_of_none e h)]; exact e, fun a xs e => by rw [upd_ne (ne_of_none e h)]; exact e⟩
theorem Kp.same {G : Addr → Prop} {H H' : Hp} (h : Same H H') : Kp G H H' := ⟨fun a o _ e => h a o e, fun a xs e => h a _ e⟩
/-- no tuple -/
def NoTup : HO → Prop
  | .tup _ => False
  | _ => True
theorem Kp.put {G : Addr → Prop} {H : Hp} {p : Addr} {o o' : HO} (g : ¬ G p) (h : H p = some o) (n : NoTup o) : Kp G H (upd H p o') :=
  ⟨fun a u ga e => by rw [upd_ne (fun z => g (by rw [← z]; exact ga))]; exact e, fun a xs e => by
    rw [upd_ne (fun z => by
      rw [z, h] at e
      cases e
      exact n)]
    exact e⟩
def Dm (G : Addr → Prop) (H : Hp) : Prop := ∀ a, G a → H a ≠ none
theorem Dm.kp {G : Addr → Prop} {H H' : Hp} (d : Dm G H) (k : Kp G H H') : Dm G H' := fun a g e => by
  cases h : H a with
  | none => exact d a g h
  | some o =>
    rw [k.g a o g h] at e
    cases e
theorem Dm.fresh {G : Addr → Prop} {H : Hp} {p : Addr} (d : Dm G H) (h : H p = none) : ¬ G p := fun g => d p g h
/-! ### steps, wanes -/
def StepsAt (H : Hp) (l : Addr) (ps : List (Int × Int)) : Prop := ∃ as : List Addr, H l = some (.lst (as.map V.ref)) ∧ Paired (fun a p => H a = some (.tup [.int p.1, .int p.2])) as ps
theorem StepsAt.kp {G : Addr → Prop} {H H' : Hp} {l : Addr} {ps : List (Int × Int)} (h : StepsAt H l ps) (k : Kp G H H') (g : G l) : StepsAt H' l ps := by
  obtain ⟨as, e, p⟩ := h
  exact ⟨as, k.g _ _ g e, Paired.mapP p fun a b z => k.t _ _ z⟩
structure WaneAt (K : PySem.W.Frag) (G : Addr → Prop) (H : Hp) (a : Addr) (w : Wn) : Prop where
  ex : ∃ dx hl tl, G a ∧ G hl ∧ G tl ∧ H a = some (.ins (He.ga K "Wane") dx (fWane (.ref hl) (.ref tl) (.int w.cap) (.int w.lift) (.bl w.anew))) ∧ StepsAt H hl w.hd ∧ StepsAt H tl w.tl
theorem WaneAt.kp {K : PySem.W.Frag} {G : Addr → Prop} {H H' : Hp} {a : Addr} {w : Wn} (h : WaneAt K G H a w) (k : Kp G H H') : WaneAt K G H' a w := by
  obtain ⟨dx, hl, tl, g1, g2, g3, e, s1, s2⟩ := h.ex
  exact ⟨dx, hl, tl, g1, g2, g3, k.g _ _ g1 e, s1.kp k g2, s2.kp k g3⟩
theorem WaneAt.mono {K : PySem.W.Frag} {G G' : Addr → Prop} {H : Hp} {a : Addr} {w : Wn} (h : WaneAt K G H a w) (k : ∀ c, G c → G' c) : WaneAt K G' H a w := by
  obtain ⟨dx, hl, tl, g1, g2, g3, r⟩ := h.ex
  exact ⟨dx, hl, tl, k _ g1, k _ g2, k _ g3, r⟩
/-! ### bodies -/
structure Bd where
  t : T
  p : Addr
  wa : Addr
def bF (b : Bd) (as : Int) : List (Str × V) := fBody (.str b.t.nm) (.int b.t.kin) (.ref b.wa) (.int b.t.fo) (.int b.t.si) (.int as) (.int b.t.sp)
structure BodyAt (K : PySem.W.Frag) (G : Addr → Prop) (H : Hp) (b : Bd) : Prop where
  ex : ∃ dx as, H b.p = some (.ins (He.ga K "Body") dx (bF b as))
  g : ¬ G b.p
  w : WaneAt K G H b.wa b.t.wn
  ok : b.t.Ok
def kvsB (bl : List Bd) : List (Key × V) := bl.map fun b => (Sum.inr b.t.nm, V.ref b.p)
def pot (bl : List Bd) : Nat := (bl.map fun b => 5 - b.t.sp.toNat).sum
abbrev Doer := Int × Str × List Int
def DoAt (K : PySem.W.Frag) (H : Hp) (a : Addr) (d : Doer) : Prop := ∃ ht, H a = some (.tup [.int d.1, .str d.2.1, .ref ht]) ∧ (H ht = some (.tup (d.2.2.map V.int)) ∨ ∀ H0, SqT K H0 ht (d.2.2.map V.int))
theorem DoAt.tups {K : PySem.W.Frag} {H H' : Hp} {a : Addr} {d : Doer} (h : DoAt K H a d) (k : Tups H H') : DoAt K H' a d := by
  obtain ⟨ht, e1, e2⟩ := h
  exact ⟨ht, k _ _ e1, e2.elim (fun e => .inl (k _ _ e)) .inr⟩
theorem DoAt.hours {K : PySem.W.Frag} {H : Hp} {a : Addr} {d : Doer} (h : DoAt K H a d) : ∃ ht, H a = some (.tup [.int d.1, .str d.2.1, .ref ht]) ∧ SqT K H ht (d.2.2.map V.int) := by
  obtain ⟨ht, e1, e2⟩ := h
  exact ⟨ht, e1, e2.elim (fun e => SqT.of e) fun e => e H⟩
structure Sc where
  q : Addr
  ho : Addr
  pr : Addr
  bo : Addr
  ma : Addr
  da : Addr
  ta : Addr
  mo : Int
  hi : Int
  hold : List Int
  pres : List Int
  dl : List Addr
  ds : List Doer
  bl : List Bd
structure ScOk (S : Sc) : Prop where
  r1 : 1 ≤ S.hold.length
  r4 : S.hold.length ≤ 4
  rp : ∀ n ∈ S.hold, 1 ≤ n
  p10 : S.pres.length = 10
  d8 : S.ds.length ≤ 8
  l8 : S.bl.length ≤ 8
  sp : ∀ b ∈ S.bl, b.t.sp < S.hold.length
  nn : (S.bl.map (·.t.nm)).Nodup
  np : (S.bl.map (·.p)).Nodup
  nq : ∀ b ∈ S.bl, b.p ≠ S.q
def scF (S : Sc) : List (Str × V) := fScene (.int S.mo) (.ref S.ho) (.ref S.pr) (.int 0) (.int 1) (.ref S.bo) (.ref S.ma) (.ref S.da) (.int S.hi) .non (.ref S.ta)
structure SceneAt (K : PySem.W.Frag) (G : Addr → Prop) (H : Hp) (S : Sc) (N : Nat) : Prop where
  dm : Dm G H
  ins : ∃ dx, H S.q = some (.ins (He.ga K "Scene") dx (scF S))
  gq : ¬ G S.q
  gbo : ¬ G S.bo
  gma : ¬ G S.ma
  gda : ¬ G S.da
  gta : ¬ G S.ta
  gho : G S.ho
  gpr : G S.pr
  ho : H S.ho = some (.lst (S.hold.map V.int))
  pr : H S.pr = some (.lst (S.pres.map V.int))
  bo : H S.bo = some (.dK (kvsB S.bl))
  ma : H S.ma = some (.dK [])
  da : H S.da = some (.lst (S.dl.map V.ref))
  dd : Paired (DoAt K H) S.dl S.ds
  ta : ∃ tl, H S.ta = some (.lst tl) ∧ tl.length + pot S.bl ≤ N
  bd : ∀ b ∈ S.bl, BodyAt K G H b
  n1 : S.bo ≠ S.ma
  n2 : S.da ≠ S.ta
  ok : ScOk S
theorem SceneAt.gmono {K : PySem.W.Frag} {G G' : Addr → Prop} {H : Hp} {S : Sc} {N : Nat} (h : SceneAt K G H S N) (hg : ∀ a, G a → G' a) (dm : Dm G' H) (g1 : ¬ G' S.q) (g2 : ¬ G' S.bo) (g3 : ¬ G' S.ma) (g4 : ¬ G' S.da) (g5 : ¬ G' S.ta) (g6 : ∀ b ∈ S.bl, ¬ G' b.p) : SceneAt K G' H S N :=
  ⟨dm, h.ins, g1, g2, g3, g4, g5, hg _ h.gho, hg _ h.gpr, h.ho, h.pr, h.bo, h.ma, h.da, h.dd, h.ta, fun b hb => ⟨(h.bd b hb).ex, g6 b hb, (h.bd b hb).w.mono hg, (h.bd b hb).ok⟩, h.n1, h.n2, h.ok⟩
/-- all that a scene owns -/
def own (S : Sc) (a : Addr) : Prop := a = S.q ∨ a = S.bo ∨ a = S.ma ∨ a = S.da ∨ a = S.ta ∨ ∃ b ∈ S.bl, a = b.p
theorem SceneAt.gmono' {K : PySem.W.Frag} {G G' : Addr → Prop} {H : Hp} {S : Sc} {N : Nat} (h : SceneAt K G H S N) (hg : ∀ a, G a → G' a) (dm : Dm G' H) (g : ∀ a, own S a → ¬ G' a) : SceneAt K G' H S N :=
  h.gmono hg dm (g _ (.inl rfl)) (g _ (.inr (.inl rfl))) (g _ (.inr (.inr (.inl rfl)))) (g _ (.inr (.inr (.inr (.inl rfl))))) (g _ (.inr (.inr (.inr (.inr (.inl rfl)))))) fun b hb => g _ (.inr (.inr (.inr (.inr (.inr ⟨b, hb, rfl⟩)))))
/-- a smaller G -/
theorem SceneAt.notG {K : PySem.W.Frag} {G : Addr → Prop} {H : Hp} {S : Sc} {N : Nat} (h : SceneAt K G H S N) {a : Addr} (o : own S a) : ¬ G a := by
  rcases o with rfl | rfl | rfl | rfl | rfl | ⟨b, hb, rfl⟩
  · exact h.gq
  · exact h.gbo
  · exact h.gma
  · exact h.gda
  · exact h.gta
  · exact (h.bd b hb).g
theorem SceneAt.there {K : PySem.W.Frag} {G : Addr → Prop} {H : Hp} {S : Sc} {N : Nat} (h : SceneAt K G H S N) {a : Addr} (o : own S a) : H a ≠ none := by
  intro e
  rcases o with rfl | rfl | rfl | rfl | rfl | ⟨b, hb, rfl⟩
  · obtain ⟨dx, z⟩ := h.ins; rw [z] at e; cases e
  · rw [h.bo] at e; cases e
  · rw [h.ma] at e; cases e
  · rw [h.da] at e; cases e
  · obtain ⟨tl, z, _⟩ := h.ta; rw [z] at e; cases e
  · obtain ⟨dx, as, z⟩ := (h.bd b hb).ex; rw [z] at e; cases e
/-- all but what the scene owns stays, and the scene -/
theorem SceneAt.all {K : PySem.W.Frag} {G : Addr → Prop} {H : Hp} {S : Sc} {N : Nat} (h : SceneAt K G H S N) : SceneAt K (fun a => H a ≠ none ∧ ¬ own S a) H S N :=
  h.gmono' (fun a g => ⟨h.dm a g, fun o => h.notG o g⟩) (fun a g => g.1) fun a o g => g.2 o
/-- nothing of the scene is touched -/
theorem SceneAt.same {K : PySem.W.Frag} {G : Addr → Prop} {H H' : Hp} {S : Sc} {N : Nat} (h : SceneAt K G H S N) (k : Same H H') : SceneAt K G H' S N := by
  obtain ⟨dx, e⟩ := h.ins
  obtain ⟨tl, e2, l⟩ := h.ta
  exact ⟨h.dm.kp (Kp.same k), ⟨dx, k _ _ e⟩, h.gq, h.gbo, h.gma, h.gda, h.gta, h.gho, h.gpr, k _ _ h.ho, k _ _ h.pr, k _ _ h.bo, k _ _ h.ma, k _ _ h.da, Paired.mapP h.dd fun a d z => z.tups fun a xs q => k _ _ q, ⟨tl, k _ _ e2, l⟩,
    fun b hb => by
      obtain ⟨dx, as, z⟩ := (h.bd b hb).ex
      exact ⟨⟨dx, as, k _ _ z⟩, (h.bd b hb).g, (h.bd b hb).w.kp (Kp.same k), (h.bd b hb).ok⟩, h.n1, h.n2, h.ok⟩
/-- the store at p -/
structure StoreAt (K : PySem.W.Frag) (G : Addr → Prop) (H : Hp) (p : Addr) (S : Sc) (N : Nat) : Prop where
  ins : ∃ dx, H p = some (.ins (He.ga K "Store") dx (fStore (.ref S.q)))
  g : ¬ G p
  sc : SceneAt K G H S N
end Wh

local macro_rules | `(tactic| walk_at "rd") => `(tactic| ((with_reducible refine' Wh.g_tup ?h ?l ?_); (case h => (refine' L2.SqT.of ?h2; (case h2 => walk_at "hp"))); (case l => rfl)))
local macro_rules | `(tactic| walk_at "rd") => `(tactic| ((with_reducible refine' Wh.r_aug ?h ?_); (case h => rfl)))
local macro_rules | `(tactic| walk_at "rd") => `(tactic| ((with_reducible refine' Wh.k_augI ?e ?_); (case e => walk_at "set")))
local macro_rules | `(tactic| walk_at "rd") => `(tactic| ((with_reducible refine' Wh.k_meth ?h ?l ?_); (case h => walk_at "hp"); (case l => rfl)))
local macro_rules | `(tactic| walk_at "rd") => `(tactic| ((with_reducible refine' Wh.k_lst ?l ?_); (case l => walk_at "len")))
local macro_rules | `(tactic| walk_at "rd") => `(tactic| ((with_reducible refine' Wh.k_tup ?l ?_); (case l => walk_at "len")))
local macro_rules | `(tactic| walk_at "rd") => `(tactic| ((with_reducible refine' Wh.g_name ?e ?_); (case e => walk_at "set")))
local macro_rules | `(tactic| walk_at "rd") => `(tactic| ((with_reducible refine' Wh.k_sf2 ?h ?c ?n ?l ?_); (case h => walk_at "hp"); (case c => walk_at "cls"); (case n => walk_at "noat"); (case l => walk_at "fl")))
local macro_rules | `(tactic| walk_at "rd") => `(tactic| ((with_reducible refine' Wh.k_fld ?h ?c ?n ?l ?_); (case h => walk_at "hp"); (case c => walk_at "cls"); (case n => walk_at "noat"); (case l => rfl)))
local macro_rules | `(tactic| walk_at "rd") => `(tactic| ((with_reducible refine' Wh.r_var ?h ?_); (case h => rfl)))
local macro_rules | `(tactic| walk_at "rd") => `(tactic| with_reducible refine Wh.k_andVF ?_)
local macro_rules | `(tactic| walk_at "rd") => `(tactic| with_reducible refine Wh.k_andVNT ?_)
local macro_rules | `(tactic| walk_at "rd") => `(tactic| with_reducible refine Wh.k_andNT ?_)
local macro_rules | `(tactic| walk_at "rd") => `(tactic| with_reducible refine Wh.k_andNF ?_)
local macro_rules | `(tactic| walk_at "rd") => `(tactic| with_reducible refine Wh.k_orNT ?_)
local macro_rules | `(tactic| walk_at "rd") => `(tactic| with_reducible refine Wh.k_orNF ?_)
local macro_rules | `(tactic| walk_at "rd") => `(tactic| with_reducible refine Wh.k_ifNT ?_)
local macro_rules | `(tactic| walk_at "rd") => `(tactic| with_reducible refine Wh.k_ifNF ?_)
local macro_rules | `(tactic| walk_at "rd") => `(tactic| with_reducible refine Wh.r_lc ?_)
local macro_rules | `(tactic| walk_at "rd") => `(tactic| with_reducible refine Wh.k_as1 ?_)
local macro_rules | `(tactic| walk_at "rd") => `(tactic| with_reducible refine Wh.r_augS ?_)
local macro_rules | `(tactic| walk_at "rd") => `(tactic| with_reducible refine Wh.k_m1b ?_)
local macro_rules | `(tactic| walk_at "rd") => `(tactic| with_reducible refine Wh.k_m1 ?_)
local macro_rules | `(tactic| walk_at "rd") => `(tactic| with_reducible refine Wh.r_m1 ?_)
local macro_rules | `(tactic| walk_at "rd") => `(tactic| with_reducible refine Wh.k_kw2 ?_)
local macro_rules | `(tactic| walk_at "rd") => `(tactic| with_reducible refine Wh.k_kw ?_)
local macro_rules | `(tactic| walk_at "rd") => `(tactic| with_reducible refine Wh.r_kw ?_)
local macro_rules | `(tactic| walk_at "rd") => `(tactic| with_reducible refine Wh.k_mkK ?_)
local macro_rules | `(tactic| walk_at "rd") => `(tactic| with_reducible refine Wh.r_makeK ?_)
local macro_rules | `(tactic| walk_at "rd") => `(tactic| with_reducible refine Wh.k_pop2b ?_)
local macro_rules | `(tactic| walk_at "rd") => `(tactic| with_reducible refine Wh.r_pop2 ?_)
local macro_rules | `(tactic| walk_at "rd") => `(tactic| with_reducible refine Wh.r_pop1 ?_)
local macro_rules | `(tactic| walk_at "rd") => `(tactic| with_reducible refine Wh.k_dg2b ?_)
local macro_rules | `(tactic| walk_at "rd") => `(tactic| with_reducible refine Wh.r_dg2 ?_)
local macro_rules | `(tactic| walk_at "rd") => `(tactic| with_reducible refine Wh.r_iN ?_)
local macro_rules | `(tactic| walk_at "rd") => `(tactic| with_reducible refine Wh.r_iE ?_)
local macro_rules | `(tactic| walk_at "rd") => `(tactic| with_reducible refine Wh.r_iV ?_)
local macro_rules | `(tactic| walk_at "rd") => `(tactic| with_reducible refine Wh.r_iK ?_)
local macro_rules | `(tactic| walk_at "rd") => `(tactic| with_reducible refine Wh.k_iS ?_)
local macro_rules | `(tactic| walk_at "rd") => `(tactic| with_reducible refine Wh.r_iS ?_)
local macro_rules | `(tactic| walk_at "rd") => `(tactic| with_reducible refine Wh.k_ifEF ?_)
local macro_rules | `(tactic| walk_at "rd") => `(tactic| with_reducible refine Wh.k_ifET ?_)
local macro_rules | `(tactic| walk_at "rd") => `(tactic| with_reducible refine Wh.k_ifF ?_)
local macro_rules | `(tactic| walk_at "rd") => `(tactic| with_reducible refine Wh.k_ifT ?_)
local macro_rules | `(tactic| walk_at "rd") => `(tactic| with_reducible refine Wh.k_andVT ?_)
local macro_rules | `(tactic| walk_at "rd") => `(tactic| with_reducible refine Wh.k_orF ?_)
local macro_rules | `(tactic| walk_at "rd") => `(tactic| with_reducible refine Wh.k_orT ?_)
local macro_rules | `(tactic| walk_at "rd") => `(tactic| with_reducible refine Wh.k_andF ?_)
local macro_rules | `(tactic| walk_at "rd") => `(tactic| with_reducible refine Wh.k_andT ?_)
local macro_rules | `(tactic| walk_at "rd") => `(tactic| with_reducible refine Wh.r_iR ?_)
local macro_rules | `(tactic| walk_at "rd") => `(tactic| with_reducible refine Wh.r_iT ?_)
local macro_rules | `(tactic| walk_at "rd") => `(tactic| with_reducible refine Wh.r_iL ?_)
local macro_rules | `(tactic| walk_at "rd") => `(tactic| with_reducible refine Wh.r_for ?_)
local macro_rules | `(tactic| walk_at "rd") => `(tactic| with_reducible refine Wh.k_dp2 ?_)
local macro_rules | `(tactic| walk_at "rd") => `(tactic| with_reducible refine Wh.k_dp ?_)
local macro_rules | `(tactic| walk_at "rd") => `(tactic| with_reducible refine Wh.r_dput ?_)
local macro_rules | `(tactic| walk_at "rd") => `(tactic| with_reducible refine' Wh.r_augF ?_)
local macro_rules | `(tactic| walk_at "rd") => `(tactic| with_reducible refine Wh.k_sf ?_)
local macro_rules | `(tactic| walk_at "rd") => `(tactic| with_reducible refine Wh.r_setF ?_)
local macro_rules | `(tactic| walk_at "rd") => `(tactic| with_reducible refine Wh.k_sub ?_)
local macro_rules | `(tactic| walk_at "rd") => `(tactic| with_reducible refine Wh.g_sub ?_)
local macro_rules | `(tactic| walk_at "rd") => `(tactic| with_reducible refine Wh.g_cons ?_)
local macro_rules | `(tactic| walk_at "rd") => `(tactic| with_reducible refine Wh.g_nil ?_)
local macro_rules | `(tactic| walk_at "rd") => `(tactic| with_reducible refine Wh.k_asg ?_)
local macro_rules | `(tactic| walk_at "rd") => `(tactic| with_reducible refine Wh.r_asg ?_)
local macro_rules | `(tactic| walk_at "rd") => `(tactic| with_reducible refine Wh.r_if ?_)
local macro_rules | `(tactic| walk_at "rd") => `(tactic| with_reducible refine Wh.k_drop ?_)
local macro_rules | `(tactic| walk_at "rd") => `(tactic| with_reducible refine Wh.r_drop ?_)
local macro_rules | `(tactic| walk_at "rd") => `(tactic| with_reducible refine Wh.r_brk ?_)
local macro_rules | `(tactic| walk_at "rd") => `(tactic| with_reducible refine Wh.r_retN ?_)
local macro_rules | `(tactic| walk_at "rd") => `(tactic| with_reducible refine Wh.r_ret ?_)
local macro_rules | `(tactic| walk_at "rd") => `(tactic| with_reducible refine Wh.r_next ?_)
local macro_rules | `(tactic| walk_at "rd") => `(tactic| with_reducible refine Wh.r_seq ?_)
local macro_rules | `(tactic| walk_at "rd") => `(tactic| with_reducible refine Wh.k_part ?_)
local macro_rules | `(tactic| walk_at "rd") => `(tactic| with_reducible refine Wh.r_part ?_)
local macro_rules | `(tactic| walk_at "rd") => `(tactic| with_reducible refine Wh.r_nopart ?_)
local macro_rules | `(tactic| walk_at "rd") => `(tactic| with_reducible refine Wh.k_sl3 ?_)
local macro_rules | `(tactic| walk_at "rd") => `(tactic| with_reducible refine Wh.k_sl2 ?_)
local macro_rules | `(tactic| walk_at "rd") => `(tactic| with_reducible refine Wh.k_sl ?_)
local macro_rules | `(tactic| walk_at "rd") => `(tactic| with_reducible refine Wh.r_slice ?_)
local macro_rules | `(tactic| walk_at "rd") => `(tactic| with_reducible refine Wh.k_ch2 ?_)
local macro_rules | `(tactic| walk_at "rd") => `(tactic| with_reducible refine Wh.k_ch ?_)
local macro_rules | `(tactic| walk_at "rd") => `(tactic| with_reducible refine Wh.r_chain ?_)
local macro_rules | `(tactic| walk_at "rd") => `(tactic| with_reducible refine Wh.k_di ?_)
local macro_rules | `(tactic| walk_at "rd") => `(tactic| with_reducible refine Wh.r_dnin ?_)
local macro_rules | `(tactic| walk_at "rd") => `(tactic| with_reducible refine Wh.r_din ?_)
local macro_rules | `(tactic| walk_at "rd") => `(tactic| with_reducible refine Wh.k_dg ?_)
local macro_rules | `(tactic| walk_at "rd") => `(tactic| with_reducible refine Wh.r_dget ?_)
local macro_rules | `(tactic| walk_at "rd") => `(tactic| with_reducible refine Wh.r_bm0 ?_)
local macro_rules | `(tactic| walk_at "rd") => `(tactic| with_reducible refine Wh.r_bm ?_)
local macro_rules | `(tactic| walk_at "rd") => `(tactic| with_reducible refine Wh.k_cb ?_)
local macro_rules | `(tactic| walk_at "rd") => `(tactic| with_reducible refine Wh.r_cb ?_)
local macro_rules | `(tactic| walk_at "rd") => `(tactic| with_reducible refine Wh.r_make ?_)
local macro_rules | `(tactic| walk_at "rd") => `(tactic| with_reducible refine' Wh.k_meth2 ?_)
local macro_rules | `(tactic| walk_at "rd") => `(tactic| with_reducible refine Wh.r_meth ?_)
local macro_rules | `(tactic| walk_at "rd") => `(tactic| with_reducible refine Wh.k_call ?_)
local macro_rules | `(tactic| walk_at "rd") => `(tactic| with_reducible refine Wh.r_call ?_)
local macro_rules | `(tactic| walk_at "rd") => `(tactic| with_reducible refine Wh.r_lst ?_)
local macro_rules | `(tactic| walk_at "rd") => `(tactic| with_reducible refine Wh.r_tup ?_)
local macro_rules | `(tactic| walk_at "rd") => `(tactic| with_reducible refine Wh.k_cons2 ?_)
local macro_rules | `(tactic| walk_at "rd") => `(tactic| with_reducible refine Wh.r_nil ?_)
local macro_rules | `(tactic| walk_at "rd") => `(tactic| with_reducible refine Wh.k_cons ?_)
local macro_rules | `(tactic| walk_at "rd") => `(tactic| with_reducible refine Wh.r_cons ?_)
local macro_rules | `(tactic| walk_at "rd") => `(tactic| with_reducible refine Wh.r_fld ?_)
local macro_rules | `(tactic| walk_at "rd") => `(tactic| with_reducible refine Wh.r_ifE ?_)
local macro_rules | `(tactic| walk_at "rd") => `(tactic| with_reducible refine Wh.k_notNr ?_)
local macro_rules | `(tactic| walk_at "rd") => `(tactic| with_reducible refine Wh.k_notNs ?_)
local macro_rules | `(tactic| walk_at "rd") => `(tactic| with_reducible refine Wh.k_notNi ?_)
local macro_rules | `(tactic| walk_at "rd") => `(tactic| with_reducible refine Wh.k_notN0 ?_)
local macro_rules | `(tactic| walk_at "rd") => `(tactic| with_reducible refine Wh.k_isNr ?_)
local macro_rules | `(tactic| walk_at "rd") => `(tactic| with_reducible refine Wh.k_isNs ?_)
local macro_rules | `(tactic| walk_at "rd") => `(tactic| with_reducible refine Wh.k_isNi ?_)
local macro_rules | `(tactic| walk_at "rd") => `(tactic| with_reducible refine Wh.k_isN0 ?_)
local macro_rules | `(tactic| walk_at "rd") => `(tactic| with_reducible refine Wh.r_notN ?_)
local macro_rules | `(tactic| walk_at "rd") => `(tactic| with_reducible refine Wh.r_isN ?_)
local macro_rules | `(tactic| walk_at "rd") => `(tactic| with_reducible refine Wh.k_notV ?_)
local macro_rules | `(tactic| walk_at "rd") => `(tactic| with_reducible refine Wh.r_notV ?_)
local macro_rules | `(tactic| walk_at "rd") => `(tactic| with_reducible refine Wh.r_orV ?_)
local macro_rules | `(tactic| walk_at "rd") => `(tactic| with_reducible refine Wh.r_andV ?_)
local macro_rules | `(tactic| walk_at "rd") => `(tactic| with_reducible refine Wh.k_T ?_)
local macro_rules | `(tactic| walk_at "rd") => `(tactic| with_reducible refine Wh.r_B ?_)
local macro_rules | `(tactic| walk_at "rd") => `(tactic| with_reducible refine Wh.r_test ?_)
local macro_rules | `(tactic| walk_at "rd") => `(tactic| with_reducible refine Wh.k_not ?_)
local macro_rules | `(tactic| walk_at "rd") => `(tactic| with_reducible refine Wh.r_not ?_)
local macro_rules | `(tactic| walk_at "rd") => `(tactic| with_reducible refine Wh.r_or ?_)
local macro_rules | `(tactic| walk_at "rd") => `(tactic| with_reducible refine Wh.r_and ?_)
local macro_rules | `(tactic| walk_at "rd") => `(tactic| with_reducible refine Wh.x_neS ?_)
local macro_rules | `(tactic| walk_at "rd") => `(tactic| with_reducible refine Wh.x_eqS ?_)
local macro_rules | `(tactic| walk_at "rd") => `(tactic| with_reducible refine Wh.x_neI ?_)
local macro_rules | `(tactic| walk_at "rd") => `(tactic| with_reducible refine Wh.x_eqI ?_)
local macro_rules | `(tactic| walk_at "rd") => `(tactic| with_reducible refine Wh.x_ip ?_)
local macro_rules | `(tactic| walk_at "rd") => `(tactic| with_reducible refine Wh.x_sub ?_)
local macro_rules | `(tactic| walk_at "rd") => `(tactic| with_reducible refine Wh.x_add ?_)
local macro_rules | `(tactic| walk_at "rd") => `(tactic| with_reducible refine Wh.x_I0 ?_)
local macro_rules | `(tactic| walk_at "rd") => `(tactic| with_reducible refine Wh.k_un ?_)
local macro_rules | `(tactic| walk_at "rd") => `(tactic| with_reducible refine Wh.r_un ?_)
local macro_rules | `(tactic| walk_at "rd") => `(tactic| with_reducible refine Wh.k_op2 ?_)
local macro_rules | `(tactic| walk_at "rd") => `(tactic| with_reducible refine Wh.k_op ?_)
local macro_rules | `(tactic| walk_at "rd") => `(tactic| with_reducible refine Wh.r_op ?_)
local macro_rules | `(tactic| walk_at "rd") => `(tactic| with_reducible refine Wh.r_c ?_)
local macro_rules | `(tactic| walk_at "rds") => `(tactic| repeat walk_at "rd")
local macro_rules | `(tactic| walk_at "fl") => `(tactic| decide)
local macro_rules | `(tactic| walk_at "fl") => `(tactic| ((with_reducible refine Wh.flN ?_); walk_at "fl"))
local macro_rules | `(tactic| walk_at "fl") => `(tactic| with_reducible exact Wh.lnStore (by decide))
local macro_rules | `(tactic| walk_at "fl") => `(tactic| with_reducible exact Wh.lnWane (by decide))
local macro_rules | `(tactic| walk_at "fl") => `(tactic| with_reducible exact Wh.lnBody (by decide))
local macro_rules | `(tactic| walk_at "fl") => `(tactic| with_reducible exact Wh.lnScene (by decide))
local macro_rules | `(tactic| walk_at "len") => `(tactic| (simp only [List.length_cons, List.length_nil]; decide))
local macro_rules | `(tactic| walk_at "len") => `(tactic| assumption)
local macro_rules | `(tactic| walk_at "set") => `(tactic| rfl)
local macro_rules | `(tactic| walk_at "set") => `(tactic| (dsimp only [List.set]; rfl))
local macro_rules | `(tactic| walk_at "noat") => `(tactic| with_reducible exact Wh.n_Store_scene (by assumption))
local macro_rules | `(tactic| walk_at "noat") => `(tactic| with_reducible exact Wh.n_Scene_tale (by assumption))
local macro_rules | `(tactic| walk_at "noat") => `(tactic| with_reducible exact Wh.n_Scene_watch (by assumption))
local macro_rules | `(tactic| walk_at "noat") => `(tactic| with_reducible exact Wh.n_Scene_hired (by assumption))
local macro_rules | `(tactic| walk_at "noat") => `(tactic| with_reducible exact Wh.n_Scene_doers (by assumption))
local macro_rules | `(tactic| walk_at "noat") => `(tactic| with_reducible exact Wh.n_Scene_marks (by assumption))
local macro_rules | `(tactic| walk_at "noat") => `(tactic| with_reducible exact Wh.n_Scene_bodies (by assumption))
local macro_rules | `(tactic| walk_at "noat") => `(tactic| with_reducible exact Wh.n_Scene_fades (by assumption))
local macro_rules | `(tactic| walk_at "noat") => `(tactic| with_reducible exact Wh.n_Scene_grains (by assumption))
local macro_rules | `(tactic| walk_at "noat") => `(tactic| with_reducible exact Wh.n_Scene_presses (by assumption))
local macro_rules | `(tactic| walk_at "noat") => `(tactic| with_reducible exact Wh.n_Scene_holds (by assumption))
local macro_rules | `(tactic| walk_at "noat") => `(tactic| with_reducible exact Wh.n_Scene_moment (by assumption))
local macro_rules | `(tactic| walk_at "noat") => `(tactic| with_reducible exact Wh.n_Body_spot (by assumption))
local macro_rules | `(tactic| walk_at "noat") => `(tactic| with_reducible exact Wh.n_Body_asked (by assumption))
local macro_rules | `(tactic| walk_at "noat") => `(tactic| with_reducible exact Wh.n_Body_since (by assumption))
local macro_rules | `(tactic| walk_at "noat") => `(tactic| with_reducible exact Wh.n_Body_force (by assumption))
local macro_rules | `(tactic| walk_at "noat") => `(tactic| with_reducible exact Wh.n_Body_wane (by assumption))
local macro_rules | `(tactic| walk_at "noat") => `(tactic| with_reducible exact Wh.n_Body_kin (by assumption))
local macro_rules | `(tactic| walk_at "noat") => `(tactic| with_reducible exact Wh.n_Body_name (by assumption))
local macro_rules | `(tactic| walk_at "noat") => `(tactic| with_reducible exact Wh.n_Wane_begins (by assumption))
local macro_rules | `(tactic| walk_at "noat") => `(tactic| with_reducible exact Wh.n_Wane_lift_by (by assumption))
local macro_rules | `(tactic| walk_at "noat") => `(tactic| with_reducible exact Wh.n_Wane_cap_at (by assumption))
local macro_rules | `(tactic| walk_at "noat") => `(tactic| with_reducible exact Wh.n_Wane_tail_steps (by assumption))
local macro_rules | `(tactic| walk_at "noat") => `(tactic| with_reducible exact Wh.n_Wane_head_steps (by assumption))
local macro_rules | `(tactic| walk_at "cls") => `(tactic| with_reducible exact Wh.c_Wane (by assumption))
local macro_rules | `(tactic| walk_at "cls") => `(tactic| with_reducible exact Wh.c_Body (by assumption))
local macro_rules | `(tactic| walk_at "cls") => `(tactic| with_reducible exact Wh.c_Scene (by assumption))
local macro_rules | `(tactic| walk_at "cls") => `(tactic| with_reducible exact Wh.c_Store (by assumption))
local macro_rules | `(tactic| walk_at "ne") => `(tactic| (apply Ne.symm; refine' L2.ne_of_none (h' := by assumption) ?h; (case h => walk_at "hp")))
local macro_rules | `(tactic| walk_at "ne") => `(tactic| (refine' L2.ne_of_none (h' := by assumption) ?h; (case h => walk_at "hp")))
local macro_rules | `(tactic| walk_at "ne") => `(tactic| (apply Ne.symm; assumption))
local macro_rules | `(tactic| walk_at "ne") => `(tactic| assumption)
local macro_rules | `(tactic| walk_at "hp") => `(tactic| (with_reducible refine Eq.trans (L2.upd_ne ?_) ?_; (focus walk_at "ne"); walk_at "hp"))
local macro_rules | `(tactic| walk_at "hp") => `(tactic| with_reducible exact L2.upd_same)
local macro_rules | `(tactic| walk_at "hp") => `(tactic| with_reducible assumption)

/-! ## S2 -/
set_option Elab.async false
set_option linter.all false
set_option maxRecDepth 100000
set_option maxHeartbeats 4000000


namespace Wh
open PySem PySem.Spec PyProof.Rows L2
section
variable {P : Program} {wo : World} {K : PySem.W.Frag} {mg : Str → Option Value} {base : Heap}
theorem k_isi (T : Tx K mg) {x : V} {t : Value} {n : String} {b : Bool} {H : Hp} {Q : VK} (ty : TyX K H x t) (k : PySem.W.kitOne K t (.type n) = some b) (q : Q (.bl b) H) : rIsi K [x, .ty n] H Q := ⟨x, .ty n, t, .type n, b, rfl, .ty n, ty, k, q⟩
theorem x_bT {b : Bool} {H : Hp} {Q : VK} (h : b = true) (q : Q (.bl true) H) : Q (.bl b) H := by
  subst h
  exact q
theorem x_bF {b : Bool} {H : Hp} {Q : VK} (h : b = false) (q : Q (.bl false) H) : Q (.bl b) H := by
  subst h
  exact q
/-- isinstance(n, int), not isinstance(n, bool) -/
def sp_is_whole : Sp := fun vs H Q _ => ∃ n : Int, vs = [.int n] ∧ Q (.bl true) H
theorem ok_is_whole (T : Tx K mg) : FnOk P wo K mg base CX0 1 (He.ga K "is_whole") (fdA K (He.ga K "is_whole")) ["thing"] (sp_is_whole) := by
  refine okD (F_is_whole T) sc_is_whole (fun vs H Q E h => ?_) (fun cdv A outer s H vs Q E hr h => ?_)
  · obtain ⟨n, rfl, _⟩ := h
    rfl
  · obtain ⟨n, rfl, q⟩ := h
    obtain ⟨_, _, k1, k2, _⟩ := exk T
    refine ⟨_, (pss_one (ps_ret (pe_and (pe_callB (call_isiK (K := K)) (by rfl) (z_isinstance T) (by decide +kernel) (pa_cons (pv 0) (pa_cons (pe_bltn (v := .ty "int") (by rfl) (z_int T) (by decide +kernel) rfl) pa_nil))) (pe_one (pe_not (pe_callB (call_isiK (K := K)) (by rfl) (z_isinstance T) (by decide +kernel) (pa_cons (pv 0) (pa_cons (pe_bltn (v := .ty "bool") (by rfl) (z_bool T) (by decide +kernel) rfl) pa_nil)))))))), ?_⟩
    walk_at "rds"
    refine k_isi T (.base (.int n)) k1 ?_
    walk_at "rds"
    refine k_isi T (.base (.int n)) k2 ?_
    walk_at "rds"
    exact q
def sp_is_within : Sp := fun vs H Q _ => ∃ n lo hi : Int, vs = [.int n, .int lo, .int hi] ∧ lo ≤ n ∧ n ≤ hi ∧ Q (.bl true) H
theorem ok_is_within (T : Tx K mg) : FnOk P wo K mg base CX0 2 (He.ga K "is_within") (fdA K (He.ga K "is_within")) ["thing", "least", "most"] (sp_is_within) := by
  refine okD (F_is_within T) sc_is_within (fun vs H Q E h => ?_) (fun cdv A outer s H vs Q E hr h => ?_)
  · obtain ⟨n, lo, hi, rfl, _⟩ := h
    rfl
  · obtain ⟨n, lo, hi, rfl, h1, h2, q⟩ := h
    refine ⟨_, (pss_one (ps_ret (pe_and (pe_call (ok_is_whole (P := P) (wo := wo) (K := K) T) (hr.mono (by decide)) rfl (g_is_whole T) (F_is_whole T).kp (b_is_whole T) .nil pass0 (pa_cons (pv 0) pa_nil)) (pe_one (pe_chain op_le op_le (pv 1) (pv 0) (pv 2)))))), ?_⟩
    walk_at "rds"
    refine ⟨n, rfl, ?_⟩
    walk_at "rds"
    refine k_ch3 (fun _ => ?_) (fun z => absurd h1 (of_decide_eq_false z))
    walk_at "rds"
    rw [decide_eq_true h2]
    exact q
/-! the like of is_within -/
def spW (lo hi : Int) : Sp := fun vs H Q _ => ∃ n : Int, vs = [.int n] ∧ lo ≤ n ∧ n ≤ hi ∧ Q (.bl true) H
theorem ok_is_sort (T : Tx K mg) : FnOk P wo K mg base CX0 3 (He.ga K "is_sort") (fdA K (He.ga K "is_sort")) ["thing"] (spW 0 9) := by
  refine okD (F_is_sort T) sc_is_sort (fun vs H Q E h => ?_) (fun cdv A outer s H vs Q E hr h => ?_)
  · obtain ⟨n, rfl, _⟩ := h
    rfl
  · obtain ⟨n, rfl, h1, h2, q⟩ := h
    refine ⟨_, (pss_one (ps_ret (pe_call (ok_is_within (P := P) (wo := wo) (K := K) T) (hr.mono (by decide)) rfl (g_is_within T) (F_is_within T).kp (b_is_within T) .nil pass0 (pa_cons (pv 0) (pa_cons pe_int (pa_cons pe_int pa_nil)))))), ?_⟩
    walk_at "rds"
    exact ⟨_, _, _, rfl, h1, h2, q⟩
theorem ok_is_strength (T : Tx K mg) : FnOk P wo K mg base CX0 3 (He.ga K "is_strength") (fdA K (He.ga K "is_strength")) ["thing"] (spW 1 1000000000) := by
  refine okD (F_is_strength T) sc_is_strength (fun vs H Q E h => ?_) (fun cdv A outer s H vs Q E hr h => ?_)
  · obtain ⟨n, rfl, _⟩ := h
    rfl
  · obtain ⟨n, rfl, h1, h2, q⟩ := h
    refine ⟨_, (pss_one (ps_ret (pe_call (ok_is_within (P := P) (wo := wo) (K := K) T) (hr.mono (by decide)) rfl (g_is_within T) (F_is_within T).kp (b_is_within T) .nil pass0 (pa_cons (pv 0) (pa_cons pe_int (pa_cons (pe_globI (by rfl) (i_MOST_STRENGTH T)) pa_nil)))))), ?_⟩
    walk_at "rds"
    exact ⟨_, _, _, rfl, h1, h2, q⟩
theorem ok_is_size (T : Tx K mg) : FnOk P wo K mg base CX0 3 (He.ga K "is_size") (fdA K (He.ga K "is_size")) ["thing"] (spW 0 1000000000) := by
  refine okD (F_is_size T) sc_is_size (fun vs H Q E h => ?_) (fun cdv A outer s H vs Q E hr h => ?_)
  · obtain ⟨n, rfl, _⟩ := h
    rfl
  · obtain ⟨n, rfl, h1, h2, q⟩ := h
    refine ⟨_, (pss_one (ps_ret (pe_call (ok_is_within (P := P) (wo := wo) (K := K) T) (hr.mono (by decide)) rfl (g_is_within T) (F_is_within T).kp (b_is_within T) .nil pass0 (pa_cons (pv 0) (pa_cons pe_int (pa_cons (pe_globI (by rfl) (i_MOST_STRENGTH T)) pa_nil)))))), ?_⟩
    walk_at "rds"
    exact ⟨_, _, _, rfl, h1, h2, q⟩
theorem ok_is_shift (T : Tx K mg) : FnOk P wo K mg base CX0 3 (He.ga K "is_shift") (fdA K (He.ga K "is_shift")) ["thing"] (spW (0 - 1000000000) 1000000000) := by
  refine okD (F_is_shift T) sc_is_shift (fun vs H Q E h => ?_) (fun cdv A outer s H vs Q E hr h => ?_)
  · obtain ⟨n, rfl, _⟩ := h
    rfl
  · obtain ⟨n, rfl, h1, h2, q⟩ := h
    refine ⟨_, (pss_one (ps_ret (pe_call (ok_is_within (P := P) (wo := wo) (K := K) T) (hr.mono (by decide)) rfl (g_is_within T) (F_is_within T).kp (b_is_within T) .nil pass0 (pa_cons (pv 0) (pa_cons (pe_op op_sub pe_int (pe_globI (by rfl) (i_MOST_STRENGTH T))) (pa_cons (pe_globI (by rfl) (i_MOST_STRENGTH T)) pa_nil)))))), ?_⟩
    walk_at "rds"
    exact ⟨_, _, _, rfl, h1, h2, q⟩
theorem ok_is_room (T : Tx K mg) : FnOk P wo K mg base CX0 3 (He.ga K "is_room") (fdA K (He.ga K "is_room")) ["thing"] (spW 1 1000000000000) := by
  refine okD (F_is_room T) sc_is_room (fun vs H Q E h => ?_) (fun cdv A outer s H vs Q E hr h => ?_)
  · obtain ⟨n, rfl, _⟩ := h
    rfl
  · obtain ⟨n, rfl, h1, h2, q⟩ := h
    refine ⟨_, (pss_one (ps_ret (pe_call (ok_is_within (P := P) (wo := wo) (K := K) T) (hr.mono (by decide)) rfl (g_is_within T) (F_is_within T).kp (b_is_within T) .nil pass0 (pa_cons (pv 0) (pa_cons pe_int (pa_cons (pe_globI (by rfl) (i_MOST_ROOM T)) pa_nil)))))), ?_⟩
    walk_at "rds"
    exact ⟨_, _, _, rfl, h1, h2, q⟩
theorem ok_is_moment (T : Tx K mg) : FnOk P wo K mg base CX0 3 (He.ga K "is_moment") (fdA K (He.ga K "is_moment")) ["thing"] (spW 0 1000000000000000000000000000000) := by
  refine okD (F_is_moment T) sc_is_moment (fun vs H Q E h => ?_) (fun cdv A outer s H vs Q E hr h => ?_)
  · obtain ⟨n, rfl, _⟩ := h
    rfl
  · obtain ⟨n, rfl, h1, h2, q⟩ := h
    refine ⟨_, (pss_one (ps_ret (pe_call (ok_is_within (P := P) (wo := wo) (K := K) T) (hr.mono (by decide)) rfl (g_is_within T) (F_is_within T).kp (b_is_within T) .nil pass0 (pa_cons (pv 0) (pa_cons pe_int (pa_cons (pe_globI (by rfl) (i_MOST_MOMENT T)) pa_nil)))))), ?_⟩
    walk_at "rds"
    exact ⟨_, _, _, rfl, h1, h2, q⟩
/-! ### names -/
def LET : Str := "abcdefghijklmnopqrstuvwxyz"
structure NameOk (x : Str) : Prop where
  l1 : 1 ≤ x.length
  l8 : x.length ≤ 8
  le : ∀ c ∈ x.cps.toList, c ∈ LET.cps.toList
theorem x_allT {H : Hp} {a : Addr} {xs : List V} {Q : VK} (h : H a = some (.lst (xs.filterMap fun _ => some (V.bl true)))) (q : Q (.bl true) H) : rAll K [.ref a] H Q := by
  have e : (xs.filterMap fun _ => some (V.bl true)) = (List.replicate xs.length true).map V.bl := by
    clear h
    induction xs with
    | nil => rfl
    | cons x r ih => rw [List.filterMap_cons, ih]; rfl
  rw [e] at h
  refine ⟨a, List.replicate xs.length true, rfl, SqL.of h, ?_⟩
  have : (List.replicate xs.length true).all id = true := by simp
  rw [this]
  exact q
def spNm : Sp := fun vs H Q _ => ∃ x : Str, vs = [.str x] ∧ NameOk x ∧ ∀ H', Same H H' → Q (.bl true) H'
theorem sz8 {n : Nat} (h : n ≤ 200) : n < sizeLine := Nat.lt_of_le_of_lt h (by decide)
theorem ok_is_name (T : Tx K mg) : FnOk P wo K mg base CX0 1 (He.ga K "is_name") (fdA K (He.ga K "is_name")) ["thing"] (spNm) := by
  refine okD (F_is_name T) sc_is_name (fun vs H Q E h => ?_) (fun cdv A outer s H vs Q E hr h => ?_)
  · obtain ⟨n, rfl, _⟩ := h
    rfl
  · obtain ⟨x, rfl, ok, q⟩ := h
    obtain ⟨_, _, _, _, k3, _⟩ := exk T
    refine ⟨_, (pss_cons (ps_if (PW.pt (pw_or (pt_not (pt_val (pe_callB (call_isiK (K := K)) (by rfl) (z_isinstance T) (by decide +kernel) (pa_cons (pv 0) (pa_cons (pe_bltn (v := .ty "str") (by rfl) (z_str T) (by decide +kernel) rfl) pa_nil))))) (pw_or1 (pt_not (pt_chain op_le op_le pe_int (pe_callB call_len_str (by rfl) (z_len T) (by decide +kernel) (pa_cons (pv 0) pa_nil)) (pe_globI (by rfl) (i_LONGEST_NAME T))))))) (pss_one (ps_ret pe_bl)) pss_nil)
 (pss_one (ps_ret (pe_callB (cr_allK (K := K) rfl) (by rfl) (z_all T) (by decide +kernel) (pa_cons (pe_lc (own := [("sign", 1)]) rfl sc_is_name.nd (pi_str (pv 0)) (blkOk_by (N := ["thing", "sign"]) (sc := defScope s_is_name) (by decide +kernel)) (fun _ _ _ _ _ => (pg_name (i := 1) sc_is_name.nd rfl (Or.inl rfl))) (fun _ _ _ _ _ => pts_nil) (fun _ _ _ _ _ => (pe_cmpR op_in_sign (pv 1) (pe_globS (by rfl) (x_LETTERS T)) (by rfl)))) pa_nil))))), ?_⟩
    walk_at "rds"
    refine k_isi T (.base (.str x)) k3 ?_
    walk_at "rds"
    refine ⟨x, rfl, by have := ok.l8; exact Nat.le_trans this (by decide), ?_⟩
    walk_at "rds"
    refine k_ch3 (fun _ => ?_) (fun z => absurd (of_decide_eq_false z) (by have := ok.l1; omega))
    walk_at "rds"
    have e : decide ((x.length : Int) ≤ 8) = true := decide_eq_true (by have := ok.l8; omega)
    rw [e]
    walk_at "rds"
    refine k_lcP (itx_s x) (fun _ => some (.bl true)) (fun _ _ => trivial) ?_ (fun v H' N hv _ hN => ?_) (fun D H' _ k e => ?_)
    · have := ok.l8
      have e2 : (x.cps.toList.map fun c => V.str ⟨#[c]⟩).length = x.length := by rw [List.length_map]; rfl
      rw [e2]
      exact sz8 (by omega)
    · refine el_name rfl ?_
      walk_at "rds"
      obtain ⟨c, hc, rfl⟩ := List.mem_map.mp hv
      refine ⟨c, LET, rfl, rfl, ?_⟩
      rw [decide_eq_true (ok.le c hc)]
      exact hN _ (Same.refl _)
    · walk_at "rds"
      exact x_allT e (q H' k)
/-! ### hours -/
theorem tyx_tup {H : Hp} {a : Addr} {xs : List V} (h : SqT K H a xs) : TyX K H (.ref a) (.type "tuple") := by
  rcases h with (h | ⟨o, h⟩) | ⟨o, its, n, h, c, _⟩
  · exact .base (.tup h)
  · exact .fTuple h
  · exact .kTuple h c
theorem x_lenL {H : Hp} {a : Addr} {xs : List V} {Q : VK} (h : SqL K H a xs) (q : Q (.int (xs.length : Nat)) H) : rLenS K [.ref a] H Q := ⟨a, xs, rfl, .inl h, q⟩
theorem x_lenT {H : Hp} {a : Addr} {xs : List V} {Q : VK} (h : SqT K H a xs) (q : Q (.int (xs.length : Nat)) H) : rLenS K [.ref a] H Q := ⟨a, xs, rfl, .inr h, q⟩
theorem same_seqT {H H' : Hp} {a : Addr} {xs : List V} (k : Same H H') (h : SqT K H a xs) : SqT K H' a xs := by
  rcases h with (h | ⟨o, h⟩) | h
  · exact .inl (.inl (k _ _ h))
  · exact .inl (.inr ⟨o, k _ _ h⟩)
  · exact .inr h
theorem atI_nat {xs : List V} {n : Int} {v : V} (h0 : 0 ≤ n) (h : xs[n.toNat]? = some v) : atI xs n = some v := by
  have hl : n.toNat < xs.length := (List.getElem?_eq_some_iff.mp h).1
  unfold atI ixN
  rw [if_pos h0, if_pos (by omega)]
  exact h
theorem atI_N {xs : List V} {n : Nat} {v : V} (h : xs[n]? = some v) : atI xs (n : Int) = some v := atI_nat (Int.natCast_nonneg n) h
structure HoursOk (hs : List Int) : Prop where
  ne : hs ≠ []
  l : hs.length ≤ 24
  b : ∀ h ∈ hs, 0 ≤ h ∧ h ≤ 23
  r : ∀ k : Nat, k + 1 < hs.length → hs.getD k 0 < hs.getD (k + 1) 0
def spHours : Sp := fun vs H Q _ => ∃ a hs, vs = [.ref a] ∧ SqT K H a (hs.map V.int) ∧ HoursOk hs ∧ ∀ H', Same H H' → Q (.bl true) H'
theorem ok_are_hours (T : Tx K mg) : FnOk P wo K mg base CX0 3 (He.ga K "are_hours") (fdA K (He.ga K "are_hours")) ["thing"] (spHours (K := K)) := by
  refine okD (F_are_hours T) sc_are_hours (fun vs H Q E h => ?_) (fun cdv A outer s H vs Q E hr h => ?_)
  · obtain ⟨a, hs, rfl, _⟩ := h
    rfl
  · obtain ⟨a, hs, rfl, ht, ok, q⟩ := h
    obtain ⟨_, _, _, _, _, _, kt, _⟩ := exk T
    have hl : hs.length ≤ 24 := ok.l
    have h0 : 0 < hs.length := List.length_pos_iff.mpr ok.ne
    refine ⟨_, (pss_cons (ps_if (PW.pt (pw_or (pt_not (pt_val (pe_callB (call_isiK (K := K)) (by rfl) (z_isinstance T) (by decide +kernel) (pa_cons (pv 0) (pa_cons (pe_bltn (v := .ty "tuple") (by rfl) (z_tuple T) (by decide +kernel) rfl) pa_nil))))) (pw_or1 (pt_cmpR op_eq (pe_callB (call_len_seqK (K := K)) (by rfl) (z_len T) (by decide +kernel) (pa_cons (pv 0) pa_nil)) pe_int (nomark _))))) (pss_one (ps_ret pe_bl)) pss_nil)
 (pss_cons (ps_if (pt_not (pt_val (pe_callB (cr_allK (K := K) rfl) (by rfl) (z_all T) (by decide +kernel) (pa_cons (pe_lc (own := [("hour", 1)]) rfl sc_are_hours.nd (pi_tup (pv 0)) (blkOk_by (N := ["thing", "hour", "k"]) (sc := defScope s_are_hours) (by decide +kernel)) (fun _ _ _ _ _ => (pg_name (i := 1) sc_are_hours.nd rfl (Or.inl rfl))) (fun _ _ _ _ _ => pts_nil) (fun _ _ _ _ _ => (pe_call (ok_is_within (P := P) (wo := wo) (K := K) T) (hr.mono (by decide)) rfl (g_is_within T) (F_is_within T).kp (b_is_within T) .nil pass0 (pa_cons (pv 1) (pa_cons pe_int (pa_cons (pe_op op_sub (pe_globI (by rfl) (i_DAY T)) pe_int) pa_nil)))))) pa_nil)))) (pss_one (ps_ret pe_bl)) pss_nil)
 (pss_one (ps_ret (pe_callB (cr_allK (K := K) rfl) (by rfl) (z_all T) (by decide +kernel) (pa_cons (pe_lc (own := [("k", 2)]) rfl sc_are_hours.nd (pi_range1 rfl (z_range T) (pa_cons (pe_op op_sub (pe_callB (call_len_seqK (K := K)) (by rfl) (z_len T) (by decide +kernel) (pa_cons (pv 0) pa_nil)) pe_int) pa_nil)) (blkOk_by (N := ["thing", "hour", "k"]) (sc := defScope s_are_hours) (by decide +kernel)) (fun _ _ _ _ _ => (pg_name (i := 2) sc_are_hours.nd rfl (Or.inl rfl))) (fun _ _ _ _ _ => pts_nil) (fun _ _ _ _ _ => (pe_cmpR op_lt (pe_ix (ix_tupK (K := K)) (pv 0) (pv 2) (fun _ _ => rfl)) (pe_ix (ix_tupK (K := K)) (pv 0) (pe_op op_add (pv 2) pe_int) (fun _ _ => rfl)) (nomark _)))) pa_nil)))))), ?_⟩
    walk_at "rds"
    refine k_isi T (tyx_tup ht) kt ?_
    walk_at "rds"
    refine x_lenT ht ?_
    walk_at "rds"
    rw [decide_eq_false (by rw [List.length_map]; omega)]
    walk_at "rds"
    refine k_iT ht ?_
    refine k_lcP (itx_t K a (hs.map V.int)) (fun _ => some (.bl true)) (fun H' k => same_seqT k ht) ?_ (fun v H' N hv k hN => ?_) (fun D H' _ k e => ?_)
    · rw [List.length_map]; exact sz8 (by omega)
    · refine el_name rfl ?_
      obtain ⟨n, hn, rfl⟩ := List.mem_map.mp hv
      walk_at "rds"
      exact ⟨n, 0, 23, rfl, (ok.b n hn).1, (ok.b n hn).2, hN _ (Same.refl _)⟩
    · walk_at "rds"
      refine x_allT e ?_
      walk_at "rds"
      refine x_lenT (same_seqT k ht) ?_
      walk_at "rds"
      have e2 : (((hs.map V.int).length : Nat) : Int) - 1 = ((hs.length - 1 : Nat) : Int) := by rw [List.length_map]; omega
      rw [e2]
      refine k_iR (by omega) (by omega) ?_
      rw [Int.toNat_natCast]
      refine k_lcP (itx_r 0 (hs.length - 1)) (fun _ => some (.bl true)) (fun H' k => trivial) ?_ (fun v H2 N hv k2 hN => ?_) (fun D2 H2 _ k2 e2 => ?_)
      · rw [List.length_map, List.length_range]; exact sz8 (by omega)
      · refine el_name rfl ?_
        obtain ⟨i, hi, rfl⟩ := List.mem_map.mp hv
        have hi2 : i + 1 < hs.length := by
          have := List.mem_range.mp hi
          omega
        have g1 : (hs.map V.int)[i]? = some (.int (hs.getD i 0)) := by
          rw [List.getElem?_map, List.getD_eq_getElem?_getD, List.getElem?_eq_getElem (by omega)]; rfl
        have g2 : (hs.map V.int)[i + 1]? = some (.int (hs.getD (i + 1) 0)) := by
          rw [List.getElem?_map, List.getD_eq_getElem?_getD, List.getElem?_eq_getElem (by omega)]; rfl
        have t2 := same_seqT k2 (same_seqT k ht)
        walk_at "rds"
        refine x_ixT t2 (by rw [Int.zero_add]; exact atI_N g1) ?_
        walk_at "rds"
        have e3 : (0 : Int) + (i : Int) + 1 = ((i + 1 : Nat) : Int) := by omega
        refine x_ixT t2 (by rw [e3]; exact atI_N g2) ?_
        walk_at "rds"
        rw [decide_eq_true (ok.r i hi2)]
        exact hN _ (Same.refl _)
      · walk_at "rds"
        exact x_allT e2 (q _ (k.trans k2))
def spStep : Sp := fun vs H Q _ => ∃ a b t, vs = [.ref a] ∧ H a = some (.tup [.int b, .int t]) ∧ 1 ≤ b ∧ b ≤ 9 ∧ 0 ≤ t ∧ t ≤ 1000000000 ∧ Q (.bl true) H
theorem ok_is_step (T : Tx K mg) : FnOk P wo K mg base CX0 4 (He.ga K "is_step") (fdA K (He.ga K "is_step")) ["thing"] (spStep) := by
  refine okD (F_is_step T) sc_is_step (fun vs H Q E h => ?_) (fun cdv A outer s H vs Q E hr h => ?_)
  · obtain ⟨a, b, t, rfl, _⟩ := h
    rfl
  · obtain ⟨a, b, t, rfl, ht, h1, h2, h3, h4, q⟩ := h
    obtain ⟨_, _, _, _, _, _, kt, _⟩ := exk T
    refine ⟨_, (pss_one (ps_ret (pe_and (pe_callB (call_isiK (K := K)) (by rfl) (z_isinstance T) (by decide +kernel) (pa_cons (pv 0) (pa_cons (pe_bltn (v := .ty "tuple") (by rfl) (z_tuple T) (by decide +kernel) rfl) pa_nil))) (pe_and (pe_cmpR op_eq (pe_callB (call_len_seqK (K := K)) (by rfl) (z_len T) (by decide +kernel) (pa_cons (pv 0) pa_nil)) pe_int (nomark _)) (pe_and (pe_call (ok_is_within (P := P) (wo := wo) (K := K) T) (hr.mono (by decide)) rfl (g_is_within T) (F_is_within T).kp (b_is_within T) .nil pass0 (pa_cons (pe_ix (ix_tupK (K := K)) (pv 0) pe_int (fun _ _ => rfl)) (pa_cons pe_int (pa_cons pe_int pa_nil)))) (pe_one (pe_call (ok_is_size (P := P) (wo := wo) (K := K) T) (hr.mono (by decide)) rfl (g_is_size T) (F_is_size T).kp (b_is_size T) .nil pass0 (pa_cons (pe_ix (ix_tupK (K := K)) (pv 0) pe_int (fun _ _ => rfl)) pa_nil)))))))), ?_⟩
    walk_at "rds"
    refine k_isi T (.base (.tup ht)) kt ?_
    walk_at "rds"
    refine x_lenT (SqT.of ht) ?_
    walk_at "rds"
    refine x_bT (by rfl) ?_
    walk_at "rds"
    refine x_ixT (SqT.of ht) (by rfl) ?_
    walk_at "rds"
    refine ⟨b, 1, 9, rfl, h1, h2, ?_⟩
    walk_at "rds"
    refine x_ixT (SqT.of ht) (by rfl) ?_
    walk_at "rds"
    exact ⟨t, rfl, h3, h4, q⟩
def StepOk (p : Int × Int) : Prop := 1 ≤ p.1 ∧ p.1 ≤ 9 ∧ 0 ≤ p.2 ∧ p.2 ≤ 1000000000
theorem StepsAt.same {H H' : Hp} {l : Addr} {ps : List (Int × Int)} (h : StepsAt H l ps) (k : Same H H') : StepsAt H' l ps := by
  obtain ⟨as, e, p⟩ := h
  exact ⟨as, k _ _ e, Paired.mapP p fun a b z => k _ _ z⟩
theorem Paired.memL {α β : Type} {F : α → β → Prop} : ∀ {xs : List α} {ys : List β}, Paired F xs ys → ∀ x ∈ xs, ∃ y ∈ ys, F x y
  | _, _, .nil, x, h => nomatch h
  | _, _, .cons r t, x, h => by
    rcases List.mem_cons.mp h with rfl | h
    · exact ⟨_, List.mem_cons_self .., r⟩
    · obtain ⟨y, hy, f⟩ := Paired.memL t x h
      exact ⟨y, List.mem_cons_of_mem _ hy, f⟩
def spHead : Sp := fun vs H Q _ => ∃ a ps, vs = [.ref a] ∧ StepsAt H a ps ∧ ps.length ≤ 24 ∧ (∀ p ∈ ps, StepOk p) ∧ ∀ H', Same H H' → Q (.bl true) H'
theorem ok_is_head (T : Tx K mg) : FnOk P wo K mg base CX0 5 (He.ga K "is_head") (fdA K (He.ga K "is_head")) ["thing"] (spHead) := by
  refine okD (F_is_head T) sc_is_head (fun vs H Q E h => ?_) (fun cdv A outer s H vs Q E hr h => ?_)
  · obtain ⟨a, ps, rfl, _⟩ := h
    rfl
  · obtain ⟨a, ps, rfl, hs, hl, ok, q⟩ := h
    obtain ⟨_, _, _, _, _, kl, _⟩ := exk T
    obtain ⟨as, e, p⟩ := id hs
    have hl2 : as.length ≤ 24 := by rw [Paired.length p]; exact hl
    refine ⟨_, (pss_one (ps_ret (pe_and (pe_callB (call_isiK (K := K)) (by rfl) (z_isinstance T) (by decide +kernel) (pa_cons (pv 0) (pa_cons (pe_bltn (v := .ty "list") (by rfl) (z_list T) (by decide +kernel) rfl) pa_nil))) (pe_and (pe_cmpR op_le (pe_callB (call_len_seqK (K := K)) (by rfl) (z_len T) (by decide +kernel) (pa_cons (pv 0) pa_nil)) (pe_globI (by rfl) (i_LONGEST_HEAD T)) (nomark _)) (pe_one (pe_callB (cr_allK (K := K) rfl) (by rfl) (z_all T) (by decide +kernel) (pa_cons (pe_lc (own := [("one", 1)]) rfl sc_is_head.nd (pi_list (pv 0)) (blkOk_by (N := ["thing", "one"]) (sc := defScope s_is_head) (by decide +kernel)) (fun _ _ _ _ _ => (pg_name (i := 1) sc_is_head.nd rfl (Or.inl rfl))) (fun _ _ _ _ _ => pts_nil) (fun _ _ _ _ _ => (pe_call (ok_is_step (P := P) (wo := wo) (K := K) T) (hr.mono (by decide)) rfl (g_is_step T) (F_is_step T).kp (b_is_step T) .nil pass0 (pa_cons (pv 1) pa_nil)))) pa_nil))))))), ?_⟩
    walk_at "rds"
    refine k_isi T (.base (.lst e)) kl ?_
    walk_at "rds"
    refine x_lenL (SqL.of e) ?_
    walk_at "rds"
    rw [decide_eq_true (by rw [List.length_map]; omega)]
    walk_at "rds"
    refine k_iL (SqL.of e) ?_
    refine k_lcP (itx_l K a (as.map V.ref)) (fun _ => some (.bl true)) (fun H' k => SqL.of (k _ _ e)) ?_ (fun v H' N hv k hN => ?_) (fun D H' _ k e => ?_)
    · rw [List.length_map]; exact sz8 (by omega)
    · refine el_name rfl ?_
      obtain ⟨n, hn, rfl⟩ := List.mem_map.mp hv
      obtain ⟨y, hy, f⟩ := Paired.memL p n hn
      obtain ⟨o1, o2, o3, o4⟩ := ok y hy
      walk_at "rds"
      exact ⟨n, _, _, rfl, k _ _ f, o1, o2, o3, o4, hN _ (Same.refl _)⟩
    · walk_at "rds"
      exact x_allT e (q H' k)
def TailLen (n : Nat) : Prop := n = 1 ∨ n = 2 ∨ n = 3 ∨ n = 4 ∨ n = 6 ∨ n = 8 ∨ n = 12 ∨ n = 24
theorem TailLen.le {n : Nat} (h : TailLen n) : 1 ≤ n ∧ n ≤ 24 := by
  unfold TailLen at h
  omega
def spTail : Sp := fun vs H Q _ => ∃ a ps, vs = [.ref a] ∧ StepsAt H a ps ∧ TailLen ps.length ∧ (∀ p ∈ ps, StepOk p) ∧ ∀ H', Same H H' → Q (.bl true) H'
theorem ok_is_tail (T : Tx K mg) : FnOk P wo K mg base CX0 5 (He.ga K "is_tail") (fdA K (He.ga K "is_tail")) ["thing"] (spTail) := by
  refine okD (F_is_tail T) sc_is_tail (fun vs H Q E h => ?_) (fun cdv A outer s H vs Q E hr h => ?_)
  · obtain ⟨a, ps, rfl, _⟩ := h
    rfl
  · obtain ⟨a, ps, rfl, hs, hl, ok, q⟩ := h
    obtain ⟨_, _, _, _, _, kl, _⟩ := exk T
    obtain ⟨as, e, p⟩ := id hs
    have hl2 : as.length ≤ 24 := by rw [Paired.length p]; exact hl.le.2
    refine ⟨_, (pss_one (ps_ret (pe_and (pe_callB (call_isiK (K := K)) (by rfl) (z_isinstance T) (by decide +kernel) (pa_cons (pv 0) (pa_cons (pe_bltn (v := .ty "list") (by rfl) (z_list T) (by decide +kernel) rfl) pa_nil))) (pe_and (pe_cmpR (op_inK (K := K)) (pe_callB (call_len_seqK (K := K)) (by rfl) (z_len T) (by decide +kernel) (pa_cons (pv 0) pa_nil)) (pe_glob (v := .ref _) (by rfl) (g_TAILS (K := K) T) rfl) (by rfl)) (pe_one (pe_callB (cr_allK (K := K) rfl) (by rfl) (z_all T) (by decide +kernel) (pa_cons (pe_lc (own := [("one", 1)]) rfl sc_is_tail.nd (pi_list (pv 0)) (blkOk_by (N := ["thing", "one"]) (sc := defScope s_is_tail) (by decide +kernel)) (fun _ _ _ _ _ => (pg_name (i := 1) sc_is_tail.nd rfl (Or.inl rfl))) (fun _ _ _ _ _ => pts_nil) (fun _ _ _ _ _ => (pe_call (ok_is_step (P := P) (wo := wo) (K := K) T) (hr.mono (by decide)) rfl (g_is_step T) (F_is_step T).kp (b_is_step T) .nil pass0 (pa_cons (pv 1) pa_nil)))) pa_nil))))))), ?_⟩
    walk_at "rds"
    refine k_isi T (.base (.lst e)) kl ?_
    walk_at "rds"
    refine x_lenL (SqL.of e) ?_
    walk_at "rds"
    refine ⟨He.ga K "TAILS", _, rfl, .inr (sqTAILS T H), rfl, by decide, ?_⟩
    have e2 : ((as.map V.ref).length : Nat) = ps.length := by rw [List.length_map, Paired.length p]
    refine x_bT (?_ : _ = true) ?_
    · show inV (.int (((as.map V.ref).length : Nat) : Int)) [.int 1, .int 2, .int 3, .int 4, .int 6, .int 8, .int 12, .int 24] = true
      rw [e2]
      rcases hl with h | h | h | h | h | h | h | h <;> rw [h] <;> decide
    walk_at "rds"
    refine k_iL (SqL.of e) ?_
    refine k_lcP (itx_l K a (as.map V.ref)) (fun _ => some (.bl true)) (fun H' k => SqL.of (k _ _ e)) ?_ (fun v H' N hv k hN => ?_) (fun D H' _ k e => ?_)
    · rw [List.length_map]; exact sz8 (by omega)
    · refine el_name rfl ?_
      obtain ⟨n, hn, rfl⟩ := List.mem_map.mp hv
      obtain ⟨y, hy, f⟩ := Paired.memL p n hn
      obtain ⟨o1, o2, o3, o4⟩ := ok y hy
      walk_at "rds"
      exact ⟨n, _, _, rfl, k _ _ f, o1, o2, o3, o4, hN _ (Same.refl _)⟩
    · walk_at "rds"
      exact x_allT e (q H' k)
/-! ### rooms, stirs -/
def spRooms : Sp := fun vs H Q _ => ∃ (a : Addr) (rs : List Int), vs = [.ref a] ∧ H a = some (.lst (rs.map V.int)) ∧ 1 ≤ rs.length ∧ rs.length ≤ 4 ∧ (∀ r ∈ rs, 1 ≤ r ∧ r ≤ 1000000000000) ∧ ∀ H', Same H H' → Q (.bl true) H'
theorem ok_are_rooms (T : Tx K mg) : FnOk P wo K mg base CX0 4 (He.ga K "are_rooms") (fdA K (He.ga K "are_rooms")) ["thing"] (spRooms) := by
  refine okD (F_are_rooms T) sc_are_rooms (fun vs H Q E h => ?_) (fun cdv A outer s H vs Q E hr h => ?_)
  · obtain ⟨a, ps, rfl, _⟩ := h
    rfl
  · obtain ⟨a, rs, rfl, e, l1, l2, ok, q⟩ := h
    obtain ⟨_, _, _, _, _, kl, _⟩ := exk T
    refine ⟨_, (pss_one (ps_ret (pe_and (pe_callB (call_isiK (K := K)) (by rfl) (z_isinstance T) (by decide +kernel) (pa_cons (pv 0) (pa_cons (pe_bltn (v := .ty "list") (by rfl) (z_list T) (by decide +kernel) rfl) pa_nil))) (pe_and (pe_chain op_le op_le pe_int (pe_callB (call_len_seqK (K := K)) (by rfl) (z_len T) (by decide +kernel) (pa_cons (pv 0) pa_nil)) pe_int) (pe_one (pe_callB (cr_allK (K := K) rfl) (by rfl) (z_all T) (by decide +kernel) (pa_cons (pe_lc (own := [("one", 1)]) rfl sc_are_rooms.nd (pi_list (pv 0)) (blkOk_by (N := ["thing", "one"]) (sc := defScope s_are_rooms) (by decide +kernel)) (fun _ _ _ _ _ => (pg_name (i := 1) sc_are_rooms.nd rfl (Or.inl rfl))) (fun _ _ _ _ _ => pts_nil) (fun _ _ _ _ _ => (pe_call (ok_is_room (P := P) (wo := wo) (K := K) T) (hr.mono (by decide)) rfl (g_is_room T) (F_is_room T).kp (b_is_room T) .nil pass0 (pa_cons (pv 1) pa_nil)))) pa_nil))))))), ?_⟩
    walk_at "rds"
    refine k_isi T (.base (.lst e)) kl ?_
    walk_at "rds"
    refine x_lenL (SqL.of e) ?_
    walk_at "rds"
    refine k_ch3 (fun _ => ?_) (fun z => absurd (of_decide_eq_false z) (by rw [List.length_map]; omega))
    walk_at "rds"
    rw [decide_eq_true (by rw [List.length_map]; omega)]
    walk_at "rds"
    refine k_iL (SqL.of e) ?_
    refine k_lcP (itx_l K a (rs.map V.int)) (fun _ => some (.bl true)) (fun H' k => SqL.of (k _ _ e)) ?_ (fun v H' N hv k hN => ?_) (fun D H' _ k e => ?_)
    · rw [List.length_map]; exact sz8 (by omega)
    · refine el_name rfl ?_
      obtain ⟨n, hn, rfl⟩ := List.mem_map.mp hv
      walk_at "rds"
      exact ⟨n, rfl, (ok n hn).1, (ok n hn).2, hN _ (Same.refl _)⟩
    · walk_at "rds"
      exact x_allT e (q H' k)
def spStirs : Sp := fun vs H Q _ => (vs = [.non] ∧ Q (.bl true) H) ∨ ∃ (a : Addr) (rs : List Int), vs = [.ref a] ∧ H a = some (.lst (rs.map V.int)) ∧ rs.length = 10 ∧ (∀ r ∈ rs, -1000000000 ≤ r ∧ r ≤ 1000000000) ∧ ∀ H', Same H H' → Q (.bl true) H'
theorem ok_are_stirs (T : Tx K mg) : FnOk P wo K mg base CX0 4 (He.ga K "are_stirs") (fdA K (He.ga K "are_stirs")) ["thing"] (spStirs) := by
  refine okD (F_are_stirs T) sc_are_stirs (fun vs H Q E h => ?_) (fun cdv A outer s H vs Q E hr h => ?_)
  · rcases h with ⟨rfl, _⟩ | ⟨a, rs, rfl, _⟩ <;> rfl
  · obtain ⟨_, _, _, _, _, kl, _⟩ := exk T
    refine ⟨_, (pss_cons (ps_if (pt_cmp (pc_isN (pv 0))) (pss_one (ps_ret pe_bl)) pss_nil)
 (pss_one (ps_ret (pe_and (pe_callB (call_isiK (K := K)) (by rfl) (z_isinstance T) (by decide +kernel) (pa_cons (pv 0) (pa_cons (pe_bltn (v := .ty "list") (by rfl) (z_list T) (by decide +kernel) rfl) pa_nil))) (pe_and (pe_cmpR op_eq (pe_callB (call_len_seqK (K := K)) (by rfl) (z_len T) (by decide +kernel) (pa_cons (pv 0) pa_nil)) pe_int (nomark _)) (pe_one (pe_callB (cr_allK (K := K) rfl) (by rfl) (z_all T) (by decide +kernel) (pa_cons (pe_lc (own := [("one", 1)]) rfl sc_are_stirs.nd (pi_list (pv 0)) (blkOk_by (N := ["thing", "one"]) (sc := defScope s_are_stirs) (by decide +kernel)) (fun _ _ _ _ _ => (pg_name (i := 1) sc_are_stirs.nd rfl (Or.inl rfl))) (fun _ _ _ _ _ => pts_nil) (fun _ _ _ _ _ => (pe_call (ok_is_shift (P := P) (wo := wo) (K := K) T) (hr.mono (by decide)) rfl (g_is_shift T) (F_is_shift T).kp (b_is_shift T) .nil pass0 (pa_cons (pv 1) pa_nil)))) pa_nil)))))))), ?_⟩
    rcases h with ⟨rfl, q⟩ | ⟨a, rs, rfl, e, l1, ok, q⟩
    · walk_at "rds"
      exact q
    walk_at "rds"
    refine k_isi T (.base (.lst e)) kl ?_
    walk_at "rds"
    refine x_lenL (SqL.of e) ?_
    walk_at "rds"
    rw [decide_eq_true (by rw [List.length_map]; omega)]
    walk_at "rds"
    refine k_iL (SqL.of e) ?_
    refine k_lcP (itx_l K a (rs.map V.int)) (fun _ => some (.bl true)) (fun H' k => SqL.of (k _ _ e)) ?_ (fun v H' N hv k hN => ?_) (fun D H' _ k e => ?_)
    · rw [List.length_map]; exact sz8 (by omega)
    · refine el_name rfl ?_
      obtain ⟨n, hn, rfl⟩ := List.mem_map.mp hv
      walk_at "rds"
      exact ⟨n, rfl, by have := (ok n hn).1; omega, (ok n hn).2, hN _ (Same.refl _)⟩
    · walk_at "rds"
      exact x_allT e (q H' k)
end
end Wh

/-! ## S4a -/
set_option Elab.async false
set_option linter.all false
set_option maxRecDepth 100000
set_option maxHeartbeats 4000000


namespace Wh
open PySem PySem.Spec PyProof.Rows L2
section
variable {P : Program} {wo : World} {K : PySem.W.Frag} {mg : Str → Option Value} {base : Heap}
/-! ### wanes -/
def spWane0 (K : PySem.W.Frag) (F : Wn → V) : Sp := fun vs H Q _ => ∃ G a w, vs = [.ref a] ∧ WaneAt K G H a w ∧ Q (F w) H
def sp_cap (K : PySem.W.Frag) : Sp := spWane0 K fun w => .int w.cap
theorem ok_Wane_cap (T : Tx K mg) : FnOk P wo K mg base CX0 1 (He.ma K (He.ga K "Wane") "cap") (fdA K (He.ma K (He.ga K "Wane") "cap")) ["self"] (sp_cap K) := by
  refine okD (F_Wane_cap T) sc_Wane_cap (fun vs H Q E h => ?_) (fun cdv A outer s H vs Q E hr h => ?_)
  · obtain ⟨G, a, w, rfl, _⟩ := h
    rfl
  · obtain ⟨G, a, w, rfl, ⟨dx, hl, tl, _, _, _, e, _⟩, q⟩ := h
    refine ⟨_, (pss_one (ps_ret (pe_fldK (K := K) (pv 0) rfl))), ?_⟩
    try dsimp only [cxK, cxP, cxW]
    walk_at "rds"
    exact q
def sp_lift (K : PySem.W.Frag) : Sp := spWane0 K fun w => .int w.lift
theorem ok_Wane_lift (T : Tx K mg) : FnOk P wo K mg base CX0 1 (He.ma K (He.ga K "Wane") "lift") (fdA K (He.ma K (He.ga K "Wane") "lift")) ["self"] (sp_lift K) := by
  refine okD (F_Wane_lift T) sc_Wane_lift (fun vs H Q E h => ?_) (fun cdv A outer s H vs Q E hr h => ?_)
  · obtain ⟨G, a, w, rfl, _⟩ := h
    rfl
  · obtain ⟨G, a, w, rfl, ⟨dx, hl, tl, _, _, _, e, _⟩, q⟩ := h
    refine ⟨_, (pss_one (ps_ret (pe_fldK (K := K) (pv 0) rfl))), ?_⟩
    try dsimp only [cxK, cxP, cxW]
    walk_at "rds"
    exact q
def sp_is_anew (K : PySem.W.Frag) : Sp := spWane0 K fun w => .bl w.anew
theorem ok_Wane_is_anew (T : Tx K mg) : FnOk P wo K mg base CX0 1 (He.ma K (He.ga K "Wane") "is_anew") (fdA K (He.ma K (He.ga K "Wane") "is_anew")) ["self"] (sp_is_anew K) := by
  refine okD (F_Wane_is_anew T) sc_Wane_is_anew (fun vs H Q E h => ?_) (fun cdv A outer s H vs Q E hr h => ?_)
  · obtain ⟨G, a, w, rfl, _⟩ := h
    rfl
  · obtain ⟨G, a, w, rfl, ⟨dx, hl, tl, _, _, _, e, _⟩, q⟩ := h
    refine ⟨_, (pss_one (ps_ret (pe_fldK (K := K) (pv 0) rfl))), ?_⟩
    try dsimp only [cxK, cxP, cxW]
    walk_at "rds"
    exact q
theorem Paired.getR {α β : Type} {F : α → β → Prop} : ∀ {xs : List α} {ys : List β}, Paired F xs ys → ∀ (i : Nat) (y : β), ys[i]? = some y → ∃ x, xs[i]? = some x ∧ F x y
  | _, _, .nil, i, y, h => by simp at h
  | _, _, .cons r t, 0, y, h => by
    simp only [List.getElem?_cons_zero, Option.some.injEq] at h
    subst h
    exact ⟨_, rfl, r⟩
  | _, _, .cons r t, i + 1, y, h => by
    simp only [List.getElem?_cons_succ] at h
    obtain ⟨x, hx, f⟩ := Paired.getR t i y h
    exact ⟨x, by simpa using hx, f⟩
def spComing (K : PySem.W.Frag) : Sp := fun vs H Q _ => ∃ G a w si, vs = [.ref a, .int si] ∧ WaneAt K G H a w ∧ w.Ok ∧ 0 ≤ si ∧ ∀ p, H p = some (.tup [.int (w.coming si).1, .int (w.coming si).2]) → Q (.ref p) H
theorem Wn.Ok.tl0 {w : Wn} (h : w.Ok) : 1 ≤ w.tl.length ∧ w.tl.length ≤ 24 := by
  have := h.tl
  omega
theorem ok_Wane_coming (T : Tx K mg) : FnOk P wo K mg base CX0 1 (He.ma K (He.ga K "Wane") "coming") (fdA K (He.ma K (He.ga K "Wane") "coming")) ["self", "since"] (spComing K) := by
  refine okD (F_Wane_coming T) sc_Wane_coming (fun vs H Q E h => ?_) (fun cdv A outer s H vs Q E hr h => ?_)
  · obtain ⟨G, a, w, si, rfl, _⟩ := h
    rfl
  · obtain ⟨G, a, w, si, rfl, ⟨dx, hl, tl, _, _, _, e, ⟨ha, e1, p1⟩, ⟨ta, e2, p2⟩⟩, ok, h0, q⟩ := h
    have l1 : ha.length = w.hd.length := Paired.length p1
    have l2 : ta.length = w.tl.length := Paired.length p2
    have t0 := ok.tl0
    refine ⟨_, (pss_cons (ps_set (i := 2) sc_Wane_coming.nd rfl (Or.inl rfl) (pe_callB (call_len_seqK (K := K)) (by rfl) (z_len T) (by decide +kernel) (pa_cons (pe_fldK (K := K) (pv 0) rfl) pa_nil)))
 (pss_cons (ps_if (pt_cmpR op_lt (pv 1) (pv 2) (nomark _)) (pss_one (ps_ret (pe_ix (ix_listK (K := K)) (pe_fldK (K := K) (pv 0) rfl) (pv 1) (fun _ _ => rfl)))) pss_nil)
 (pss_one (ps_ret (pe_ix (ix_listK (K := K)) (pe_fldK (K := K) (pv 0) rfl) (pe_op op_mod (pe_op op_sub (pv 1) (pv 2)) (pe_callB (call_len_seqK (K := K)) (by rfl) (z_len T) (by decide +kernel) (pa_cons (pe_fldK (K := K) (pv 0) rfl) pa_nil))) (fun _ _ => rfl)))))), ?_⟩
    try dsimp only [cxK, cxP, cxW]
    walk_at "rds"
    refine x_lenL (SqL.of e1) ?_
    walk_at "rds"
    rw [List.length_map, l1]
    refine k_if (fun hc => ?_) (fun hc => ?_)
    · have hlt : si < (w.hd.length : Int) := of_decide_eq_true hc
      have gg : w.hd[si.toNat]? = some (w.hd.getD si.toNat (1, 0)) := by
        rw [List.getD_eq_getElem?_getD, List.getElem?_eq_getElem (by omega)]; rfl
      obtain ⟨x, hx, fx⟩ := Paired.getR p1 _ _ gg
      walk_at "rds"
      refine x_ixL (SqL.of e1) (atI_nat h0 (by rw [List.getElem?_map, hx]; rfl)) ?_
      refine q x ?_
      have : w.coming si = w.hd.getD si.toNat (1, 0) := by unfold Wn.coming; rw [if_pos hlt]
      rw [this]
      exact fx
    · have hge : ¬ si < (w.hd.length : Int) := of_decide_eq_false hc
      have m0 : 0 ≤ (si - (w.hd.length : Int)) % (w.tl.length : Int) := Int.emod_nonneg _ (by omega)
      have m1 : (si - (w.hd.length : Int)) % (w.tl.length : Int) < (w.tl.length : Int) := Int.emod_lt_of_pos _ (by omega)
      have gg : w.tl[((si - (w.hd.length : Int)) % (w.tl.length : Int)).toNat]? = some (w.tl.getD ((si - (w.hd.length : Int)) % (w.tl.length : Int)).toNat (1, 0)) := by
        rw [List.getD_eq_getElem?_getD, List.getElem?_eq_getElem (by omega)]; rfl
      obtain ⟨x, hx, fx⟩ := Paired.getR p2 _ _ gg
      walk_at "rds"
      refine x_lenL (SqL.of e2) ?_
      walk_at "rds"
      rw [List.length_map, l2]
      refine x_I (by show (0 : Int) < _; omega) ?_
      walk_at "rds"
      refine x_ixL (SqL.of e2) (atI_nat m0 (by rw [List.getElem?_map, hx]; rfl)) ?_
      refine q x ?_
      have : w.coming si = w.tl.getD ((si - (w.hd.length : Int)) % (w.tl.length : Int)).toNat (1, 0) := by unfold Wn.coming; rw [if_neg hge]
      rw [this]
      exact fx
def spPhase (K : PySem.W.Frag) : Sp := fun vs H Q _ => ∃ G a w si, vs = [.ref a, .int si] ∧ WaneAt K G H a w ∧ w.Ok ∧ 0 ≤ si ∧ Q (.int (w.phase si)) H
theorem ok_Wane_phase_of (T : Tx K mg) : FnOk P wo K mg base CX0 1 (He.ma K (He.ga K "Wane") "phase_of") (fdA K (He.ma K (He.ga K "Wane") "phase_of")) ["self", "since"] (spPhase K) := by
  refine okD (F_Wane_phase_of T) sc_Wane_phase_of (fun vs H Q E h => ?_) (fun cdv A outer s H vs Q E hr h => ?_)
  · obtain ⟨G, a, w, si, rfl, _⟩ := h
    rfl
  · obtain ⟨G, a, w, si, rfl, ⟨dx, hl, tl, _, _, _, e, ⟨ha, e1, p1⟩, ⟨ta, e2, p2⟩⟩, ok, h0, q⟩ := h
    have l1 : ha.length = w.hd.length := Paired.length p1
    have l2 : ta.length = w.tl.length := Paired.length p2
    have t0 := ok.tl0
    refine ⟨_, (pss_cons (ps_set (i := 2) sc_Wane_phase_of.nd rfl (Or.inl rfl) (pe_callB (call_len_seqK (K := K)) (by rfl) (z_len T) (by decide +kernel) (pa_cons (pe_fldK (K := K) (pv 0) rfl) pa_nil)))
 (pss_cons (ps_if (pt_cmpR op_lt (pv 1) (pe_op op_add (pv 2) (pe_callB (call_len_seqK (K := K)) (by rfl) (z_len T) (by decide +kernel) (pa_cons (pe_fldK (K := K) (pv 0) rfl) pa_nil))) (nomark _)) (pss_one (ps_ret (pv 1))) pss_nil)
 (pss_one (ps_ret (pe_op op_add (pv 2) (pe_op op_mod (pe_op op_sub (pv 1) (pv 2)) (pe_callB (call_len_seqK (K := K)) (by rfl) (z_len T) (by decide +kernel) (pa_cons (pe_fldK (K := K) (pv 0) rfl) pa_nil)))))))), ?_⟩
    try dsimp only [cxK, cxP, cxW]
    walk_at "rds"
    refine x_lenL (SqL.of e1) ?_
    walk_at "rds"
    refine x_lenL (SqL.of e2) ?_
    walk_at "rds"
    rw [List.length_map, l1, List.length_map, l2]
    refine k_if (fun hc => ?_) (fun hc => ?_)
    · have hlt := of_decide_eq_true hc
      walk_at "rds"
      have : w.phase si = si := by unfold Wn.phase; rw [if_pos hlt]
      rw [this] at q
      exact q
    · have hge := of_decide_eq_false hc
      walk_at "rds"
      refine x_lenL (SqL.of e2) ?_
      walk_at "rds"
      rw [List.length_map, l2]
      refine x_I (by show (0 : Int) < _; omega) ?_
      walk_at "rds"
      have : w.phase si = w.hd.length + (si - w.hd.length) % w.tl.length := by unfold Wn.phase; rw [if_neg hge]
      rw [this] at q
      exact q
theorem coming_ok {w : Wn} (ok : w.Ok) {si : Int} (h0 : 0 ≤ si) : 1 ≤ (w.coming si).1 ∧ (w.coming si).1 ≤ 9 ∧ 0 ≤ (w.coming si).2 ∧ (w.coming si).2 ≤ 1000000000 := by
  have t0 := ok.tl0
  unfold Wn.coming
  by_cases h : si < (w.hd.length : Int)
  · rw [if_pos h, List.getD_eq_getElem?_getD, List.getElem?_eq_getElem (by omega)]
    exact ok.sh _ (List.getElem_mem _)
  · have m0 : 0 ≤ (si - (w.hd.length : Int)) % (w.tl.length : Int) := Int.emod_nonneg _ (by omega)
    have m1 : (si - (w.hd.length : Int)) % (w.tl.length : Int) < (w.tl.length : Int) := Int.emod_lt_of_pos _ (by omega)
    rw [if_neg h, List.getD_eq_getElem?_getD, List.getElem?_eq_getElem (by omega)]
    exact ok.st _ (List.getElem_mem _)
def spTurned (K : PySem.W.Frag) : Sp := fun vs H Q _ => ∃ G a w fo si, vs = [.ref a, .int fo, .int si] ∧ WaneAt K G H a w ∧ w.Ok ∧ 0 ≤ si ∧ Q (.int (max 0 (fo / (w.coming si).1 - (w.coming si).2))) H
theorem max_if {i j : Int} : (if i < j then j else i) = max i j := by omega
theorem ok_turned (T : Tx K mg) : FnOk P wo K mg base CX0 2 (He.ga K "turned") (fdA K (He.ga K "turned")) ["wane", "strength", "since"] (spTurned K) := by
  refine okD (F_turned T) sc_turned (fun vs H Q E h => ?_) (fun cdv A outer s H vs Q E hr h => ?_)
  · obtain ⟨G, a, w, fo, si, rfl, _⟩ := h
    rfl
  · obtain ⟨G, a, w, fo, si, rfl, wa, ok, h0, q⟩ := h
    obtain ⟨c1, c2, c3, c4⟩ := coming_ok ok h0
    obtain ⟨dx, hl, tl, _, _, _, e, _⟩ := id wa.ex
    refine ⟨_, (pss_cons (ps_asg (pe_meth (pv 0) (c_Wane (K := K) T) (m_Wane_coming (K := K) T) (ok_Wane_coming (P := P) (wo := wo) (K := K) T) (hr.mono (by decide)) (b_Wane_coming T) .nil pass0 (pa_cons (pv 2) pa_nil)) (pg_tupK (K := K) (n := 2) rfl (pgs_cons (pg_name (i := 3) sc_turned.nd rfl (Or.inl rfl)) (pgs_cons (pg_name (i := 4) sc_turned.nd rfl (Or.inl rfl)) pgs_nil))))
 (pss_one (ps_ret (pe_callB (call_max2 rfl) (by rfl) (z_max T) (by decide +kernel) (pa_cons pe_int (pa_cons (pe_op op_sub (pe_op op_fdiv (pv 1) (pv 3)) (pv 4)) pa_nil)))))), ?_⟩
    try dsimp only [cxK, cxP, cxW]
    walk_at "rds"
    refine ⟨G, a, w, si, rfl, wa, ok, h0, fun p hp => ?_⟩
    walk_at "rds"
    refine x_I ?_ ?_
    · exact ⟨by omega, by omega⟩
    walk_at "rds"
    refine ⟨_, _, rfl, ?_⟩
    rw [show (if (fo / (w.coming si).1 - (w.coming si).2) > 0 then (fo / (w.coming si).1 - (w.coming si).2) else 0) = max 0 (fo / (w.coming si).1 - (w.coming si).2) from max_if]
    exact q
end
end Wh

/-! ## S4b -/
set_option Elab.async false
set_option linter.all false
set_option maxRecDepth 100000
set_option maxHeartbeats 4000000


namespace Wh
open PySem PySem.Spec PyProof.Rows L2
section
variable {P : Program} {wo : World} {K : PySem.W.Frag} {mg : Str → Option Value} {base : Heap}
/-! ### a new wane -/
theorem upd_none {H : Hp} {a b : Addr} {o : HO} (h : upd H a o b = none) : b ≠ a ∧ H b = none := by
  by_cases z : b = a
  · subst z
    rw [upd_same] at h
    cases h
  · rw [upd_ne z] at h
    exact ⟨z, h⟩
theorem upd_nn {H : Hp} {a b : Addr} {o : HO} : upd H a o b = none ↔ b ≠ a ∧ H b = none := ⟨upd_none, fun ⟨n, h⟩ => by rw [upd_ne n]; exact h⟩
def spWaneInit (K : PySem.W.Frag) : Sp := fun vs H Q _ => ∃ x dx hl tl w, vs = [.ref x, .ref hl, .ref tl, .int w.cap, .int w.lift, .bl w.anew] ∧ H x = some (.ins (He.ga K "Wane") dx []) ∧ StepsAt H hl w.hd ∧ StepsAt H tl w.tl ∧ w.Ok ∧
  ∀ H', (∀ b o, H b = some o → b ≠ x → H' b = some o) → WaneAt K (fun a => a = x ∨ H a = none) H' x w → Q .non H'
theorem ok_Wane_init (T : Tx K mg) : FnOk P wo K mg base CX0 6 (He.ma K (He.ga K "Wane") "__init__") (fdA K (He.ma K (He.ga K "Wane") "__init__")) ["self", "head", "tail", "cap", "lift", "anew"] (spWaneInit K) := by
  refine okD (F_Wane_init T) sc_Wane_init (fun vs H Q E h => ?_) (fun cdv A outer s H vs Q E hr h => ?_)
  · obtain ⟨x, dx, hl, tl, w, rfl, _⟩ := h
    rfl
  · obtain ⟨x, dx, hl, tl, w, rfl, hx, s1, s2, ok, q⟩ := h
    obtain ⟨_, _, _, _, _, _, _, kb⟩ := exk T
    refine ⟨_, (pss_cons (ps_if (pt_not (pt_val (pe_call (ok_is_head (P := P) (wo := wo) (K := K) T) (hr.mono (by decide)) rfl (g_is_head T) (F_is_head T).kp (b_is_head T) .nil pass0 (pa_cons (pv 1) pa_nil)))) (pss_one ps_never) pss_nil)
 (pss_cons (ps_if (pt_not (pt_val (pe_call (ok_is_tail (P := P) (wo := wo) (K := K) T) (hr.mono (by decide)) rfl (g_is_tail T) (F_is_tail T).kp (b_is_tail T) .nil pass0 (pa_cons (pv 2) pa_nil)))) (pss_one ps_never) pss_nil)
 (pss_cons (ps_if (pt_not (pt_val (pe_call (ok_is_strength (P := P) (wo := wo) (K := K) T) (hr.mono (by decide)) rfl (g_is_strength T) (F_is_strength T).kp (b_is_strength T) .nil pass0 (pa_cons (pv 3) pa_nil)))) (pss_one ps_never) pss_nil)
 (pss_cons (ps_if (pt_not (pt_val (pe_call (ok_is_size (P := P) (wo := wo) (K := K) T) (hr.mono (by decide)) rfl (g_is_size T) (F_is_size T).kp (b_is_size T) .nil pass0 (pa_cons (pv 4) pa_nil)))) (pss_one ps_never) pss_nil)
 (pss_cons (ps_if (pt_not (pt_val (pe_callB (call_isiK (K := K)) (by rfl) (z_isinstance T) (by decide +kernel) (pa_cons (pv 5) (pa_cons (pe_bltn (v := .ty "bool") (by rfl) (z_bool T) (by decide +kernel) rfl) pa_nil))))) (pss_one ps_never) pss_nil)
 (pss_cons (ps_fld (pv 0) (pe_callTy call_list_of (by rfl) (z_list T) (by decide +kernel) (pa_cons (pv 1) pa_nil)) rfl)
 (pss_cons (ps_fld (pv 0) (pe_callTy call_list_of (by rfl) (z_list T) (by decide +kernel) (pa_cons (pv 2) pa_nil)) rfl)
 (pss_cons (ps_fld (pv 0) (pv 3) rfl)
 (pss_cons (ps_fld (pv 0) (pv 4) rfl)
 (pss_one (ps_fld (pv 0) (pv 5) rfl))))))))))), ?_⟩
    try dsimp only [cxK, cxP, cxW]
    walk_at "rds"
    refine ⟨hl, w.hd, rfl, s1, ok.hl, ok.sh, fun H1 k1 => ?_⟩
    walk_at "rds"
    refine ⟨tl, w.tl, rfl, s2.same k1, ok.tl, ok.st, fun H2 k2 => ?_⟩
    walk_at "rds"
    refine ⟨_, rfl, ok.c1, ok.c2, ?_⟩
    walk_at "rds"
    refine ⟨_, rfl, ok.l1, ok.l2, ?_⟩
    walk_at "rds"
    refine k_isi T (.base (.bl w.anew)) kb ?_
    walk_at "rds"
    have k12 := k1.trans k2
    obtain ⟨as1, e1, p1⟩ := s1.same k12
    obtain ⟨as2, e2, p2⟩ := s2.same k12
    have hx2 := k12 _ _ hx
    refine ⟨hl, _, rfl, .inl (SqL.of e1), fun l1 f1 => ?_⟩
    walk_at "rds"
    refine ⟨tl, _, rfl, .inl (SqL.of (by
      have : tl ≠ x := fun z => by rw [z, hx2] at e2; cases e2
      walk_at "hp")), fun l2 f2 => ?_⟩
    walk_at "rds"
    have g1 := Same.free k12 f1
    obtain ⟨_, f3⟩ := upd_none f2
    obtain ⟨n1, f4⟩ := upd_none f3
    have g2 := Same.free k12 f4
    simp only [upd_upd]
    refine q _ (fun b o hb hne => ?_) ⟨dx, l1, l2, .inl rfl, .inr g1, .inr g2, ?_, ⟨as1, ?_, ?_⟩, ⟨as2, ?_, ?_⟩⟩
    · have hb2 := k12 _ _ hb
      walk_at "hp"
    · simp only [mkWane]
      walk_at "hp"
    · have : l1 ≠ x := fun z => by rw [z, hx2] at f1; cases f1
      have : l1 ≠ l2 := n1.symm
      walk_at "hp"
    · refine Paired.mapP p1 fun a p z => ?_
      have : a ≠ x := fun y => by rw [y, hx2] at z; cases z
      show _ = some (HO.tup [V.int p.1, V.int p.2])
      clear g1 g2
      walk_at "hp"
    · have : l2 ≠ x := fun z => by rw [z, hx2] at f4; cases f4
      walk_at "hp"
    · refine Paired.mapP p2 fun a p z => ?_
      have : a ≠ x := fun y => by rw [y, hx2] at z; cases z
      show _ = some (HO.tup [V.int p.1, V.int p.2])
      clear g1 g2
      walk_at "hp"
/-! ### bodies -/
def spBodyInit (K : PySem.W.Frag) : Sp := fun vs H Q _ => ∃ x dx n k wv f, vs = [.ref x, n, k, wv, f] ∧ H x = some (.ins (He.ga K "Body") dx []) ∧ Q .non (upd H x (.ins (He.ga K "Body") dx (fBody n k wv f (.int 0) (.int 0) (.int 0))))
theorem ok_Body_init (T : Tx K mg) : FnOk P wo K mg base CX0 1 (He.ma K (He.ga K "Body") "__init__") (fdA K (He.ma K (He.ga K "Body") "__init__")) ["self", "name", "kin", "wane", "force"] (spBodyInit K) := by
  refine okD (F_Body_init T) sc_Body_init (fun vs H Q E h => ?_) (fun cdv A outer s H vs Q E hr h => ?_)
  · obtain ⟨x, dx, n, k, wv, f, rfl, _⟩ := h
    rfl
  · obtain ⟨x, dx, n, k, wv, f, rfl, hx, q⟩ := h
    refine ⟨_, (pss_cons (ps_fld (pv 0) (pv 1) rfl)
 (pss_cons (ps_fld (pv 0) (pv 2) rfl)
 (pss_cons (ps_fld (pv 0) (pv 3) rfl)
 (pss_cons (ps_fld (pv 0) (pv 4) rfl)
 (pss_cons (ps_fld (pv 0) pe_int rfl)
 (pss_cons (ps_fld (pv 0) pe_int rfl)
 (pss_one (ps_fld (pv 0) pe_int rfl)))))))), ?_⟩
    try dsimp only [cxK, cxP, cxW]
    walk_at "rds"
    simp only [upd_upd, mkBody]
    exact q
def spBodyTwin (K : PySem.W.Frag) : Sp := fun vs H Q _ => ∃ p0 dx n k wv f si as sp, vs = [.ref p0] ∧ H p0 = some (.ins (He.ga K "Body") dx (fBody n k wv f si as sp)) ∧
  ∀ p dx' H', H p = none → Same H H' → H' p = some (.ins (He.ga K "Body") dx' (fBody n k wv f si as sp)) → Q (.ref p) H'
theorem ok_Body_twin (T : Tx K mg) : FnOk P wo K mg base CX0 3 (He.ma K (He.ga K "Body") "twin") (fdA K (He.ma K (He.ga K "Body") "twin")) ["self"] (spBodyTwin K) := by
  refine okD (F_Body_twin T) sc_Body_twin (fun vs H Q E h => ?_) (fun cdv A outer s H vs Q E hr h => ?_)
  · obtain ⟨p0, dx, n, k, wv, f, si, as, sp, rfl, _⟩ := h
    rfl
  · obtain ⟨p0, dx, n, k, wv, f, si, as, sp, rfl, hx, q⟩ := h
    refine ⟨_, (pss_cons (ps_set (i := 1) sc_Body_twin.nd rfl (Or.inl rfl) (pe_make (k_Body (K := K) T) (ok_Body_init (P := P) (wo := wo) (K := K) T) (hr.mono (by decide)) rfl (g_Body (K := K) T) (b_Body_init T) .nil pass0 (pa_cons (pe_fldK (K := K) (pv 0) rfl) (pa_cons (pe_fldK (K := K) (pv 0) rfl) (pa_cons (pe_fldK (K := K) (pv 0) rfl) (pa_cons (pe_fldK (K := K) (pv 0) rfl) pa_nil))))))
 (pss_cons (ps_fld (pv 1) (pe_fldK (K := K) (pv 0) rfl) rfl)
 (pss_cons (ps_fld (pv 1) (pe_fldK (K := K) (pv 0) rfl) rfl)
 (pss_cons (ps_fld (pv 1) (pe_fldK (K := K) (pv 0) rfl) rfl)
 (pss_one (ps_ret (pv 1))))))), ?_⟩
    try dsimp only [cxK, cxP, cxW]
    walk_at "rds"
    refine k_make fun x dx' h1 h2 h3 => ?_
    refine ⟨x, dx', n, k, wv, f, rfl, upd_same, rfl, ?_⟩
    walk_at "rds"
    simp only [upd_upd]
    refine q x dx' _ h1 (fun b o hb => ?_) ?_
    · walk_at "hp"
    · exact upd_same
def spSceneInit (K : PySem.W.Frag) : Sp := fun vs H Q _ => ∃ x dx ho pr gr fa, vs = [.ref x, ho, pr, gr, fa] ∧ H x = some (.ins (He.ga K "Scene") dx []) ∧ ∀ bo ma da ta H', (∀ b o, H b = some o → b ≠ x → H' b = some o) →
  H bo = none → H ma = none → H da = none → H ta = none → bo ≠ ma → bo ≠ da → bo ≠ ta → ma ≠ da → ma ≠ ta → da ≠ ta → H' x = some (.ins (He.ga K "Scene") dx (fScene (.int 0) ho pr gr fa (.ref bo) (.ref ma) (.ref da) (.int 0) .non (.ref ta))) →
  H' bo = some (.dK []) → H' ma = some (.dK []) → H' da = some (.lst []) → H' ta = some (.lst []) → Q .non H'
theorem ok_Scene_init (T : Tx K mg) : FnOk P wo K mg base CX0 1 (He.ma K (He.ga K "Scene") "__init__") (fdA K (He.ma K (He.ga K "Scene") "__init__")) ["self", "holds", "presses", "grains", "fades"] (spSceneInit K) := by
  refine okD (F_Scene_init T) sc_Scene_init (fun vs H Q E h => ?_) (fun cdv A outer s H vs Q E hr h => ?_)
  · obtain ⟨x, dx, n, k, wv, f, rfl, _⟩ := h
    rfl
  · obtain ⟨x, dx, n, k, wv, f, rfl, hx, q⟩ := h
    refine ⟨_, (pss_cons (ps_fld (pv 0) pe_int rfl)
 (pss_cons (ps_fld (pv 0) (pv 1) rfl)
 (pss_cons (ps_fld (pv 0) (pv 2) rfl)
 (pss_cons (ps_fld (pv 0) (pv 3) rfl)
 (pss_cons (ps_fld (pv 0) (pv 4) rfl)
 (pss_cons (ps_fld (pv 0) pe_dnewK rfl)
 (pss_cons (ps_fld (pv 0) pe_dnewK rfl)
 (pss_cons (ps_fld (pv 0) (pe_lst pa_nil) rfl)
 (pss_cons (ps_fld (pv 0) pe_int rfl)
 (pss_cons (ps_fld (pv 0) pe_non rfl)
 (pss_one (ps_fld (pv 0) (pe_lst pa_nil) rfl)))))))))))), ?_⟩
    try dsimp only [cxK, cxP, cxW]
    walk_at "rds"
    intro bo f1
    walk_at "rds"
    intro ma f2
    walk_at "rds"
    intro da f3
    walk_at "rds"
    intro ta f4
    walk_at "rds"
    simp only [upd_nn] at f1 f2 f3 f4
    obtain ⟨_, _, _, _, _, g1⟩ := f1
    obtain ⟨_, _, _, _, _, _, _, g2⟩ := f2
    obtain ⟨_, _, _, _, _, _, _, _, _, g3⟩ := f3
    obtain ⟨_, _, _, _, _, _, _, _, _, _, _, _, _, g4⟩ := f4
    refine q bo ma da ta _ (fun b o hb hne => ?_) g1 g2 g3 g4 (Ne.symm (by assumption)) (Ne.symm (by assumption)) (Ne.symm (by assumption)) (Ne.symm (by assumption)) (Ne.symm (by assumption)) (Ne.symm (by assumption)) ?_ ?_ ?_ ?_ ?_
    · walk_at "hp"
    · simp only [mkScene]
      exact upd_same
    · walk_at "hp"
    · walk_at "hp"
    · walk_at "hp"
    · walk_at "hp"
end
end Wh

/-! ## S4c -/
set_option Elab.async false
set_option linter.all false
set_option maxRecDepth 100000
set_option maxHeartbeats 4000000


namespace Wh
open PySem PySem.Spec PyProof.Rows L2
section
variable {P : Program} {wo : World} {K : PySem.W.Frag} {mg : Str → Option Value} {base : Heap}
theorem sz16 {n : Nat} (h : n ≤ 100) : n ≤ sizeLine := Nat.le_trans h (by decide)
/-! ### a scene's state -/
theorem valV_kvsB {bl : List Bd} (nn : (bl.map (·.t.nm)).Nodup) {b : Bd} (hb : b ∈ bl) : valV (kvsB bl) (Sum.inr b.t.nm) = some (.ref b.p) := by
  induction bl with
  | nil => cases hb
  | cons c r ih =>
    have nn2 := List.nodup_cons.mp nn
    by_cases e : c.t.nm = b.t.nm
    · rcases List.mem_cons.mp hb with z | z
      · subst z; exact valV_pos rfl
      · exact absurd (List.mem_map.mpr ⟨b, z, e.symm⟩) nn2.1
    · rcases List.mem_cons.mp hb with z | z
      · subst z; exact absurd rfl e
      · show valV ((Sum.inr c.t.nm, V.ref c.p) :: kvsB r) _ = _
        rw [valV_neg (fun z => e (Sum.inr.inj z))]
        exact ih nn2.2 z
theorem valV_kvsN {bl : List Bd} {n : Str} (h : n ∉ bl.map (·.t.nm)) : valV (kvsB bl) (Sum.inr n) = none := by
  induction bl with
  | nil => rfl
  | cons c r ih =>
    simp only [List.map_cons, List.mem_cons, not_or] at h
    show valV ((Sum.inr c.t.nm, V.ref c.p) :: kvsB r) _ = _
    rw [valV_neg (fun z => h.1 (Sum.inr.inj z).symm)]
    exact ih h.2
theorem look_bl {bl : List Bd} (nn : (bl.map (·.t.nm)).Nodup) {b : Bd} (hb : b ∈ bl) : look (bl.map (·.t)) b.t.nm = some b.t := by
  induction bl with
  | nil => cases hb
  | cons c r ih =>
    have nn2 := List.nodup_cons.mp nn
    unfold look
    rw [List.map_cons, List.find?_cons]
    by_cases e : c.t.nm = b.t.nm
    · rw [decide_eq_true e]
      rcases List.mem_cons.mp hb with z | z
      · subst z; rfl
      · exact absurd (List.mem_map.mpr ⟨b, z, e.symm⟩) nn2.1
    · rw [decide_eq_false e]
      rcases List.mem_cons.mp hb with z | z
      · subst z; exact absurd rfl e
      · exact ih nn2.2 z
theorem keys_kvsB (bl : List Bd) : (kvsB bl).map (·.1) = (bl.map (·.t.nm)).map Sum.inr := by
  unfold kvsB
  rw [List.map_map, List.map_map]
  rfl
def spState (K : PySem.W.Frag) : Sp := fun vs H Q _ => ∃ G S N, vs = [.ref S.q] ∧ SceneAt K G H S N ∧ ∀ a H', H a = none → Same H H' → StAt H' a (stL (S.bl.map (·.t))) → Q (.ref a) H'
theorem ok_Scene_state (T : Tx K mg) : FnOk P wo K mg base CX0 2 (He.ma K (He.ga K "Scene") "state") (fdA K (He.ma K (He.ga K "Scene") "state")) ["self"] (spState K) := by
  refine okD (F_Scene_state T) sc_Scene_state (fun vs H Q E h => ?_) (fun cdv A outer s H vs Q E hr h => ?_)
  · obtain ⟨G, S, N, rfl, _⟩ := h
    rfl
  · obtain ⟨G, S, N, rfl, sc, q⟩ := h
    obtain ⟨dx, e⟩ := sc.ins
    have eb := sc.bo
    have l8 := sc.ok.l8
    refine ⟨_, (pss_cons (ps_set (i := 1) sc_Scene_state.nd rfl (Or.inl rfl) (pe_lst pa_nil))
 (pss_cons (ps_for PassesOwn.never rfl (pi_list (pe_callB (call_sortedD rfl) (by rfl) (z_sorted T) (by decide +kernel) (pa_cons (pe_fldK (K := K) (pv 0) rfl) pa_nil))) (pg_name (i := 2) sc_Scene_state.nd rfl (Or.inl rfl)) (pss_cons (ps_set (i := 3) sc_Scene_state.nd rfl (Or.inl rfl) (pe_dget (hu_of hr) (pe_fldK (K := K) (pv 0) rfl) (pv 2) (fun _ _ => rfl)))
 (pss_one (ps_expr (pe_bm PySem.F.plainAttrs_list PySem.F.slot_list_append PySem.F.type_list_append mt_append (pv 1) (pa_cons (pe_tup (pa_cons (pv 2) (pa_cons (pe_fldK (K := K) (pv 3) rfl) (pa_cons (pe_fldK (K := K) (pv 3) rfl) (pa_cons (pe_meth (pe_fldK (K := K) (pv 3) rfl) (c_Wane (K := K) T) (m_Wane_phase_of (K := K) T) (ok_Wane_phase_of (P := P) (wo := wo) (K := K) T) (hr.mono (by decide)) (b_Wane_phase_of T) .nil pass0 (pa_cons (pe_fldK (K := K) (pv 3) rfl) pa_nil)) pa_nil))))) pa_nil))))))
 (pss_one (ps_ret (pe_callTy call_tuple_of (by rfl) (z_tuple T) (by decide +kernel) (pa_cons (pv 1) pa_nil)))))), ?_⟩
    try dsimp only [cxK, cxP, cxW]
    walk_at "rds"
    intro ls f1
    walk_at "rds"
    have n1 : S.q ≠ ls := ne_of_none e f1
    have n2 : S.bo ≠ ls := ne_of_none eb f1
    unfold scF at e
    walk_at "rds"
    refine ⟨S.bo, kvsB S.bl, S.bl.map (·.t.nm), rfl, .inl (by walk_at "hp"), keys_kvsB _, by rw [List.length_map]; omega, fun ys p hperm hsort f2 => ?_⟩
    have hys := sorted_eq hperm hsort
    have hyl : ys.length = S.bl.length := by rw [hperm.length_eq, List.length_map]
    walk_at "rds"
    obtain ⟨n3, f3⟩ := upd_none f2
    refine k_iL (SqL.of upd_same) ?_
    have smc : ∀ {H1 : Hp}, (∀ b o, H b = some o → H1 b = some o) → SceneAt K G H1 S N := fun k => sc.same k
    refine k_for (itx_l K p (ys.map V.str)) (fun i σ' H' => (∃ o2 o3, σ' = [some (.ref S.q), some (.ref ls), o2, o3]) ∧ Same H H' ∧ H' p = some (.lst (ys.map V.str)) ∧
      ∃ as : List Addr, H' ls = some (.lst (as.map V.ref)) ∧ as.length ≤ i ∧ Paired (fun b t => H' b = some (.tup (v4 t))) as ((ys.take i).filterMap fun n => (look (S.bl.map (·.t)) n).map row4)) ?_ (fun i σ' H' _ h => SqL.of h.2.2.1) (fun i x σ' H' hx h => ?_) (fun σ' H' h => ?_)
    · refine ⟨⟨_, _, rfl⟩, fun b o hb => ?_, upd_same, [], ?_, by simp, .nil⟩
      · walk_at "hp"
      · rw [upd_ne n3.symm]
        exact upd_same
    · obtain ⟨⟨o2, o3, rfl⟩, sm, hp', as, el, al, pr⟩ := h
      have hi : i < ys.length := by
        have := (List.getElem?_eq_some_iff.mp hx).1
        simpa using this
      obtain ⟨n, hn, rfl⟩ : ∃ n, ys[i]? = some n ∧ x = .str n := by
        rw [List.getElem?_map] at hx
        cases hy : ys[i]? with
        | none => rw [hy] at hx; cases hx
        | some n => rw [hy] at hx; exact ⟨n, rfl, (Option.some.inj hx).symm⟩
      obtain ⟨b, hb, rfl⟩ := List.mem_map.mp (hperm.mem_iff.mp (List.mem_of_getElem? hn))
      have sc' := sc.same sm
      obtain ⟨dx', e'⟩ := sc'.ins
      unfold scF at e'
      obtain ⟨bdx, bas, ebb⟩ := (sc'.bd b hb).ex
      have wa := (sc'.bd b hb).w
      have ok := (sc'.bd b hb).ok
      unfold bF at ebb
      have eb' := sc'.bo
      obtain ⟨wdx, whl, wtl, _, _, _, we, _⟩ := id wa.ex
      walk_at "rds"
      refine k_dg2s (.inl eb') (valV_kvsB sc.ok.nn hb) ?_
      walk_at "rds"
      refine k_bmL el ?_
      walk_at "rds"
      refine ⟨G, b.wa, b.t.wn, b.t.si, rfl, wa, ok.w, ok.i0, ?_⟩
      walk_at "rds"
      intro r fr
      walk_at "rds"
      have n5 : ls ≠ r := ne_of_none el fr
      have n6 : p ≠ r := ne_of_none hp' fr
      refine k_append (xs := as.map V.ref) (by walk_at "hp") (by rw [List.length_map]; exact sz8 (by omega)) ?_
      walk_at "rds"
      have fls : H ls = none := f1
      refine ⟨⟨_, _, rfl⟩, fun c o hc => ?_, ?_, as ++ [r], ?_, by rw [List.length_append]; simp only [List.length_cons, List.length_nil]; omega, ?_⟩
      · have c1 : c ≠ ls := ne_of_none hc f1
        have hc' := sm _ _ hc
        walk_at "hp"
      · have : p ≠ ls := n3
        walk_at "hp"
      · rw [List.map_append]
        exact upd_same
      · rw [List.take_add_one, hn, List.filterMap_append]
        have lk := look_bl sc.ok.nn hb
        simp only [Option.toList_some, List.filterMap_cons, List.filterMap_nil, lk, Option.map_some]
        have keep : ∀ c v, H' c = some (.tup v) → upd (upd H' r (.tup [.str b.t.nm, .int b.t.sp, .int b.t.fo, .int (b.t.wn.phase b.t.si)])) ls (.lst (as.map V.ref ++ [V.ref r])) c = some (.tup v) := fun c v hc => by
          have : c ≠ ls := fun z => by rw [z, el] at hc; cases hc
          walk_at "hp"
        refine Paired.snoc (Paired.mapP pr fun c t z => keep c _ z) ?_
        show _ = some (HO.tup [.str b.t.nm, .int b.t.sp, .int b.t.fo, .int (b.t.wn.phase b.t.si)])
        have : r ≠ ls := n5.symm
        walk_at "hp"
    · obtain ⟨⟨o2, o3, rfl⟩, sm, hp', as, el, al, pr⟩ := h
      walk_at "rds"
      rw [List.length_map] at al
      refine ⟨ls, _, rfl, .inl ⟨SqL.of el, fun r fr => ?_⟩⟩
      refine q r _ (Same.free sm fr) (fun c o hc => ?_) ⟨as, upd_same, ?_⟩
      · have hc' := sm _ _ hc
        walk_at "hp"
      · have est : stL (S.bl.map (·.t)) = (sortS (S.bl.map (·.t.nm))).filterMap fun n => (look (S.bl.map (·.t)) n).map row4 := by
          unfold stL
          rw [List.map_map]
          rfl
        rw [List.length_map, List.take_length, hys, ← est] at pr
        refine Paired.mapP pr fun c t z => ?_
        show _ = some (HO.tup _)
        walk_at "hp"
end
end Wh

/-! ## S4d -/
set_option Elab.async false
set_option linter.all false
set_option maxRecDepth 100000
set_option maxHeartbeats 4000000


namespace Wh
open PySem PySem.Spec PyProof.Rows L2
section
variable {P : Program} {wo : World} {K : PySem.W.Frag} {mg : Str → Option Value} {base : Heap}
/-! ### a scene's twin -/
structure Lk (S S' : Sc) : Prop where
  mo : S'.mo = S.mo
  hi : S'.hi = S.hi
  hold : S'.hold = S.hold
  pres : S'.pres = S.pres
  ds : S'.ds = S.ds
  ts : S'.bl.map (·.t) = S.bl.map (·.t)
theorem pot_congr {bl bl' : List Bd} (h : bl'.map (·.t) = bl.map (·.t)) : pot bl' = pot bl := by
  have : ∀ l : List Bd, pot l = ((l.map (·.t)).map fun t => 5 - t.sp.toNat).sum := fun l => by
    unfold pot
    rw [List.map_map]
    rfl
  rw [this, this, h]
theorem nm_congr {bl bl' : List Bd} (h : bl'.map (·.t) = bl.map (·.t)) : bl'.map (·.t.nm) = bl.map (·.t.nm) := by
  have : ∀ l : List Bd, l.map (·.t.nm) = (l.map (·.t)).map (·.nm) := fun l => by
    rw [List.map_map]
    rfl
  rw [this, this, h]
def spSceneTwin (K : PySem.W.Frag) : Sp := fun vs H Q _ => ∃ G S N, vs = [.ref S.q] ∧ SceneAt K G H S N ∧
  ∀ S' H', Same H H' → SceneAt K (fun a => G a ∨ (H a = none ∧ H' a ≠ none ∧ ¬ own S' a)) H' S' N → (∀ a, own S' a → H a = none) → Lk S S' → Q (.ref S'.q) H'
def TwI (K : PySem.W.Frag) (S : Sc) (HL : Hp) (x bo : Addr) (i : Nat) (σ' : L2.St) (H' : Hp) : Prop := (∃ o2, σ' = [some (.ref S.q), some (.ref x), o2]) ∧ (∀ b o, HL b = some o → b ≠ bo → H' b = some o) ∧
  ∃ bl' : List Bd, H' bo = some (.dK (kvsB bl')) ∧ (∀ b' ∈ bl', HL b'.p = none ∧ ∃ dx as, H' b'.p = some (.ins (He.ga K "Body") dx (bF b' as))) ∧ bl'.map (fun b => (b.t, b.wa)) = (S.bl.take i).map (fun b => (b.t, b.wa)) ∧ (bl'.map (·.p)).Nodup
theorem nm_of_tw {bl' l : List Bd} (h : bl'.map (fun b => (b.t, b.wa)) = l.map (fun b => (b.t, b.wa))) : bl'.map (·.t) = l.map (·.t) := by
  have : ∀ l : List Bd, l.map (·.t) = (l.map (fun b => (b.t, b.wa))).map (·.1) := fun l => by
    rw [List.map_map]
    rfl
  rw [this, this l, h]
theorem ok_Scene_twin (T : Tx K mg) : FnOk P wo K mg base CX0 4 (He.ma K (He.ga K "Scene") "twin") (fdA K (He.ma K (He.ga K "Scene") "twin")) ["self"] (spSceneTwin K) := by
  refine okD (F_Scene_twin T) sc_Scene_twin (fun vs H Q E h => ?_) (fun cdv A outer s H vs Q E hr h => ?_)
  · obtain ⟨G, S, N, rfl, _⟩ := h
    rfl
  · obtain ⟨G, S, N, rfl, sc, q⟩ := h
    obtain ⟨dx, e⟩ := sc.ins
    have eho := sc.ho
    have epr := sc.pr
    unfold scF at e
    refine ⟨_, (pss_cons (ps_set (i := 1) sc_Scene_twin.nd rfl (Or.inl rfl) (pe_make (k_Scene (K := K) T) (ok_Scene_init (P := P) (wo := wo) (K := K) T) (hr.mono (by decide)) rfl (g_Scene (K := K) T) (b_Scene_init T) .nil pass0 (pa_cons (pe_callTy call_list_of (by rfl) (z_list T) (by decide +kernel) (pa_cons (pe_fldK (K := K) (pv 0) rfl) pa_nil)) (pa_cons (pe_callTy call_list_of (by rfl) (z_list T) (by decide +kernel) (pa_cons (pe_fldK (K := K) (pv 0) rfl) pa_nil)) (pa_cons (pe_fldK (K := K) (pv 0) rfl) (pa_cons (pe_fldK (K := K) (pv 0) rfl) pa_nil))))))
 (pss_cons (ps_fld (pv 1) (pe_fldK (K := K) (pv 0) rfl) rfl)
 (pss_cons (ps_lock (ps_for PassesOwn.never rfl (pi_keys (pe_fldK (K := K) (pv 0) rfl)) (pg_name (i := 2) sc_Scene_twin.nd rfl (Or.inl rfl)) (pss_one (ps_dput (hu_of hr) (pe_fldK (K := K) (pv 1) rfl) (pv 2) (pe_meth0 (pe_dget (hu_of hr) (pe_fldK (K := K) (pv 0) rfl) (pv 2) (fun _ _ => rfl)) (c_Body (K := K) T) (m_Body_twin (K := K) T) (ok_Body_twin (P := P) (wo := wo) (K := K) T) (hr.mono (by decide)) (b_Body_twin T) .nil pass0) rfl))))
 (pss_cons (ps_lock (ps_for PassesOwn.never rfl (pi_keys (pe_fldK (K := K) (pv 0) rfl)) (pg_name (i := 2) sc_Scene_twin.nd rfl (Or.inl rfl)) (pss_one (ps_dput (hu_of hr) (pe_fldK (K := K) (pv 1) rfl) (pv 2) (pe_dget (hu_of hr) (pe_fldK (K := K) (pv 0) rfl) (pv 2) (fun _ _ => rfl)) rfl))))
 (pss_cons (ps_fld (pv 1) (pe_callTy call_list_of (by rfl) (z_list T) (by decide +kernel) (pa_cons (pe_fldK (K := K) (pv 0) rfl) pa_nil)) rfl)
 (pss_cons (ps_fld (pv 1) (pe_fldK (K := K) (pv 0) rfl) rfl)
 (pss_cons (ps_fld (pv 1) (pe_fldK (K := K) (pv 0) rfl) rfl)
 (pss_cons (ps_fld (pv 1) (pe_callTy call_list_of (by rfl) (z_list T) (by decide +kernel) (pa_cons (pe_fldK (K := K) (pv 0) rfl) pa_nil)) rfl)
 (pss_one (ps_ret (pv 1))))))))))), ?_⟩
    try dsimp only [cxK, cxP, cxW]
    walk_at "rds"
    refine ⟨S.ho, _, rfl, .inl (SqL.of eho), fun ho' f1 => ?_⟩
    walk_at "rds"
    refine ⟨S.pr, _, rfl, .inl (SqL.of (by walk_at "hp")), fun pr' f2 => ?_⟩
    obtain ⟨n1, f2'⟩ := upd_none f2
    walk_at "rds"
    refine k_make fun x dx' h1 h2 h3 => ?_
    obtain ⟨n2, h1a⟩ := upd_none h1
    obtain ⟨n3, h1b⟩ := upd_none h1a
    refine ⟨x, dx', .ref ho', .ref pr', .int 0, .int 1, rfl, upd_same, fun bo ma da ta H1 k1 b1 b2 b3 b4 n4 n5 n6 n7 n8 n9 ex ebo ema eda eta => ⟨rfl, ?_⟩⟩
    have hp1 : ho' ≠ pr' := n1.symm
    -- what stands at H1
    have sm1 : Same H H1 := fun b o hb => by
      have hbx : b ≠ x := ne_of_none hb h1b
      refine k1 b o ?_ hbx
      have z1 : b ≠ dx' := ne_of_none (by
        have y1 : b ≠ pr' := ne_of_none hb f2'
        have y2 : b ≠ ho' := ne_of_none hb f1
        rw [upd_ne y1, upd_ne y2]
        exact hb) h2
      have z2 : b ≠ pr' := ne_of_none hb f2'
      have z3 : b ≠ ho' := ne_of_none hb f1
      rw [upd_ne hbx, upd_ne z1, upd_ne z2, upd_ne z3]
      exact hb
    have nd1 : pr' ≠ dx' := ne_of_none upd_same h2
    have nd2 : ho' ≠ dx' := ne_of_none (by rw [upd_ne hp1]; exact upd_same) h2
    have e1 : H1 ho' = some (.lst (S.hold.map V.int)) := k1 _ _ (by rw [upd_ne n3.symm, upd_ne nd2, upd_ne hp1]; exact upd_same) n3.symm
    have e2 : H1 pr' = some (.lst (S.pres.map V.int)) := k1 _ _ (by rw [upd_ne n2.symm, upd_ne nd1]; exact upd_same) n2.symm
    have old : ∀ {b o}, H b = some o → b ≠ bo ∧ b ≠ ma ∧ b ≠ da ∧ b ≠ ta ∧ b ≠ x ∧ b ≠ ho' ∧ b ≠ pr' := fun {b o} hb => by
      have y0 : b ≠ x := ne_of_none hb h1b
      have y1 : b ≠ pr' := ne_of_none hb f2'
      have y2 : b ≠ ho' := ne_of_none hb f1
      have hb2 : (upd (upd H ho' (.lst (S.hold.map V.int))) pr' (.lst (S.pres.map V.int))) b = some o := by rw [upd_ne y1, upd_ne y2]; exact hb
      have y3 : b ≠ dx' := ne_of_none hb2 h2
      have hb3 : upd (upd (upd (upd H ho' (.lst (S.hold.map V.int))) pr' (.lst (S.pres.map V.int))) dx' (.own x)) x (.ins (He.ga K "Scene") dx' []) b = some o := by rw [upd_ne y0, upd_ne y3]; exact hb2
      exact ⟨ne_of_none hb3 b1, ne_of_none hb3 b2, ne_of_none hb3 b3, ne_of_none hb3 b4, y0, y2, y1⟩
    have new : ∀ {b o}, (upd (upd (upd (upd H ho' (.lst (S.hold.map V.int))) pr' (.lst (S.pres.map V.int))) dx' (.own x)) x (.ins (He.ga K "Scene") dx' [])) b = some o → b ≠ bo ∧ b ≠ ma ∧ b ≠ da ∧ b ≠ ta := fun hb => ⟨ne_of_none hb b1, ne_of_none hb b2, ne_of_none hb b3, ne_of_none hb b4⟩
    have nx := new upd_same
    have nho := new (b := ho') (by rw [upd_ne n3.symm, upd_ne nd2, upd_ne hp1]; exact upd_same)
    have npr := new (b := pr') (by rw [upd_ne n2.symm, upd_ne nd1]; exact upd_same)
    have eq1 := sm1 _ _ e
    have xq : S.q ≠ x := (old e).2.2.2.2.1
    walk_at "rds"
    rw [pScene_moment]
    have eb1 := sm1 _ _ sc.bo
    obtain ⟨ob1, ob2, ob3, ob4, ob5, ob6, ob7⟩ := old sc.bo
    refine r_lock (d := S.bo) (u := .dK (kvsB S.bl)) (by rw [upd_ne ob5]; exact eb1) trivial fun od => ?_
    have hHL : ∀ {b o}, H1 b = some o → b ≠ x → b ≠ S.bo → (upd (upd H1 x (.ins (He.ga K "Scene") dx' (fScene (.int S.mo) (.ref ho') (.ref pr') (.int 0) (.int 1) (.ref bo) (.ref ma) (.ref da) (.int 0) .non (.ref ta)))) S.bo (.frz od (.dK (kvsB S.bl)))) b = some o := fun hb y1 y2 => by
      rw [upd_ne y2, upd_ne y1]; exact hb
    have bq : S.q ≠ S.bo := fun z => by
      have := sc.bo
      rw [← z, e] at this
      cases this
    have xbo : x ≠ S.bo := ob5.symm
    have eq2 := hHL eq1 xq bq
    walk_at "rds"
    refine k_iK (o := od) (kvs := kvsB S.bl) (by rw [upd_same]) ?_
    refine k_for (itx_k S.bo od (kvsB S.bl)) (fun i σ' H' => TwI K S (upd (upd H1 x (.ins (He.ga K "Scene") dx' (fScene (.int S.mo) (.ref ho') (.ref pr') (.int 0) (.int 1) (.ref bo) (.ref ma) (.ref da) (.int 0) .non (.ref ta)))) S.bo (.frz od (.dK (kvsB S.bl)))) x bo i σ' H') ?_ (fun i σ' H' _ h => ?_) (fun i y σ' H' hx h => ?_) (fun σ' H' h => ?_)
    · refine ⟨⟨_, rfl⟩, fun b o hb _ => hb, [], ?_, (fun b' hb => nomatch hb), by simp, List.nodup_nil⟩
      rw [upd_ne ob1.symm, upd_ne nx.1.symm]
      exact ebo
    · exact h.2.1 _ _ upd_same ob1
    · obtain ⟨⟨o2, rfl⟩, kp, bl', eb', nb', mp, pn⟩ := h
      have hi : i < S.bl.length := by
        have := (List.getElem?_eq_some_iff.mp hx).1
        simpa [kvsB] using this
      obtain ⟨b, hb, rfl⟩ : ∃ b, S.bl[i]? = some b ∧ y = .str b.t.nm := by
        rw [List.getElem?_map] at hx
        unfold kvsB at hx
        rw [List.getElem?_map] at hx
        cases hy : S.bl[i]? with
        | none => rw [hy] at hx; cases hx
        | some n => rw [hy] at hx; exact ⟨n, rfl, (Option.some.inj hx).symm⟩
      have hbm : b ∈ S.bl := List.mem_of_getElem? hb
      obtain ⟨bdx, bas, ebb⟩ := (sc.bd b hbm).ex
      obtain ⟨p1, p2, p3, p4, p5, p6, p7⟩ := old ebb
      have nbo : b.p ≠ S.bo := fun z => by
        have := sc.bo
        rw [← z, ebb] at this
        cases this
      have ebb2 := kp _ _ (hHL (sm1 _ _ ebb) p5 nbo) p1
      have eq3 := kp _ _ eq2 (old e).1
      have ebo3 : H' S.bo = some (.frz od (.dK (kvsB S.bl))) := kp _ _ upd_same ob1
      have ex3 := kp x _ (by rw [upd_ne xbo]; exact upd_same) nx.1
      unfold bF at ebb2
      walk_at "rds"
      refine k_dg2s (.inr ⟨od, ebo3⟩) (valV_kvsB sc.ok.nn hbm) ?_
      walk_at "rds"
      refine ⟨b.p, bdx, _, _, _, _, _, _, _, rfl, ebb2, fun p pdx H2 fp sm2 ep => ?_⟩
      have ex4 := sm2 _ _ ex3
      walk_at "rds"
      have nin : b.t.nm ∉ bl'.map (·.t.nm) := by
        rw [nm_congr (nm_of_tw mp), List.map_take]
        intro z
        obtain ⟨j, hj, ej⟩ := List.getElem_of_mem z
        have hj2 : j < i := by
          rw [List.length_take] at hj
          omega
        rw [List.getElem_take] at ej
        have hnd := sc.ok.nn
        have hgi : (S.bl.map (·.t.nm))[i]'(by rw [List.length_map]; exact hi) = b.t.nm := by
          rw [List.getElem_map]
          have := (List.getElem?_eq_some_iff.mp hb).2
          rw [this]
        have := (List.getElem_inj hnd).mp (ej.trans hgi.symm)
        omega
      have hlen : bl'.length = i := by
        have := congrArg List.length mp
        simp only [List.length_map, List.length_take] at this
        omega
      have l8 := sc.ok.l8
      refine k_dp3s (sm2 _ _ eb') (by unfold kvsB; rw [List.length_map]; exact sz8 (by omega)) ?_
      have hput : putK (kvsB bl') (Sum.inr b.t.nm) (.ref p) = kvsB (bl' ++ [⟨b.t, p, b.wa⟩]) := by
        rw [putK_new _ (valV_kvsN nin)]
        unfold kvsB
        rw [List.map_append]
        rfl
      rw [hput]
      have pne : p ≠ bo := fun z => by rw [z, eb'] at fp; cases fp
      refine ⟨⟨_, rfl⟩, fun c o hc hcb => ?_, bl' ++ [⟨b.t, p, b.wa⟩], upd_same, fun b' hb' => ?_, ?_, ?_⟩
      · rw [upd_ne hcb]
        exact sm2 _ _ (kp _ _ hc hcb)
      · rcases List.mem_append.mp hb' with z | z
        · obtain ⟨z1, dxx, ass, z2⟩ := nb' b' z
          refine ⟨z1, dxx, ass, ?_⟩
          have : b'.p ≠ bo := fun y => by rw [y, eb'] at z2; cases z2
          rw [upd_ne this]
          exact sm2 _ _ z2
        · obtain rfl := List.mem_singleton.mp z
          refine ⟨?_, pdx, bas, ?_⟩
          · cases hz : (upd (upd H1 x (.ins (He.ga K "Scene") dx' (fScene (.int S.mo) (.ref ho') (.ref pr') (.int 0) (.int 1) (.ref bo) (.ref ma) (.ref da) (.int 0) .non (.ref ta)))) S.bo (.frz od (.dK (kvsB S.bl)))) p with
            | none => rfl
            | some o => rw [kp _ _ hz pne] at fp; cases fp
          · rw [upd_ne pne]
            exact ep
      · rw [List.map_append, mp, List.take_add_one, hb, List.map_append]
        rfl
      · rw [List.map_append]
        refine List.nodup_append.mpr ⟨pn, by simp, fun a ha c hc => ?_⟩
        obtain rfl : c = p := by simpa using hc
        intro z
        obtain ⟨b', hb', e'⟩ := List.mem_map.mp ha
        obtain ⟨z1, dxx, ass, z2⟩ := nb' b' hb'
        rw [e', z, fp] at z2
        cases z2
    · obtain ⟨⟨o2, rfl⟩, kp, bl', eb', nb', mp, pn⟩ := h
      have hl : (((kvsB S.bl).map fun kv => kV kv.1)).length = S.bl.length := by unfold kvsB; rw [List.length_map, List.length_map]
      rw [hl, List.take_length] at mp
      refine ⟨kp _ _ upd_same ob1, ?_⟩
      have ts := nm_of_tw mp
      -- the heap now
      have kq : ∀ {b o}, H b = some o → (upd H' S.bo (.dK (kvsB S.bl))) b = some o := fun {b o} hb => by
        by_cases z : b = S.bo
        · subst z
          rw [upd_same, ← sc.bo, hb]
        · obtain ⟨p1, p2, p3, p4, p5, p6, p7⟩ := old hb
          rw [upd_ne z]
          exact kp _ _ (hHL (sm1 _ _ hb) p5 z) p1
      generalize hH4 : upd H' S.bo (.dK (kvsB S.bl)) = H4 at kq ⊢
      have k4 : ∀ {b o}, H1 b = some o → b ≠ x → b ≠ S.bo → b ≠ bo → H4 b = some o := fun hb y1 y2 y3 => by
        rw [← hH4, upd_ne y2]
        exact kp _ _ (hHL hb y1 y2) y3
      have x4 : H4 x = some (.ins (He.ga K "Scene") dx' (fScene (.int S.mo) (.ref ho') (.ref pr') (.int 0) (.int 1) (.ref bo) (.ref ma) (.ref da) (.int 0) .non (.ref ta))) := by
        rw [← hH4, upd_ne xbo]
        exact kp _ _ (by rw [upd_ne xbo]; exact upd_same) nx.1
      have bo4 : H4 bo = some (.dK (kvsB bl')) := by rw [← hH4, upd_ne ob1.symm]; exact eb'
      have noo : ∀ {b o}, H b = none → H1 b = some o → b ≠ S.bo := fun h1 h2 z => by rw [z, sc.bo] at h1; cases h1
      have fho : H ho' = none := f1
      have fbo : H bo = none := by
        cases z : H bo with
        | none => rfl
        | some o => exact absurd rfl (old z).1
      have fma : H ma = none := by
        cases z : H ma with
        | none => rfl
        | some o => exact absurd rfl (old z).2.1
      have ma4 : H4 ma = some (.dK []) := k4 ema nx.2.1.symm (noo fma ema) n4.symm
      have ho4 : H4 ho' = some (.lst (S.hold.map V.int)) := k4 e1 n3.symm (noo fho e1) nho.1
      have pr4 : H4 pr' = some (.lst (S.pres.map V.int)) := k4 e2 n2.symm (noo f2' e2) npr.1
      have b4 : ∀ b' ∈ bl', H b'.p = none ∧ b'.p ≠ x ∧ ∃ dx as, H4 b'.p = some (.ins (He.ga K "Body") dx (bF b' as)) := fun b' hb' => by
        obtain ⟨z1, dxx, ass, z2⟩ := nb' b' hb'
        have y2 : b'.p ≠ S.bo := fun y => by
          rw [y, upd_same] at z1
          cases z1
        refine ⟨?_, (fun y => by rw [y, upd_ne xbo, upd_same] at z1; cases z1), dxx, ass, by rw [← hH4, upd_ne y2]; exact z2⟩
        cases z : H b'.p with
        | none => rfl
        | some o =>
          obtain ⟨p1, p2, p3, p4, p5, p6, p7⟩ := old z
          rw [hHL (sm1 _ _ z) p5 y2] at z1
          cases z1
      clear hH4 kp eb' nb' k4 noo
      have q4 := kq e
      walk_at "rds"
      have em4 := kq sc.ma
      have xma : x ≠ S.ma := (old sc.ma).2.2.2.2.1.symm
      have mq : S.q ≠ S.ma := fun z => by
        have := sc.ma
        rw [← z, e] at this
        cases this
      refine r_lock (d := S.ma) (u := .dK []) em4 trivial fun od2 => ?_
      walk_at "rds"
      refine k_iK (o := od2) (kvs := []) (by rw [upd_same]) ?_
      refine k_for (itx_k S.ma od2 []) (fun i σ' H' => σ' = [some (.ref S.q), some (.ref x), o2] ∧ H' = upd H4 S.ma (.frz od2 (.dK []))) ⟨rfl, rfl⟩ (fun i σ' H' _ h => by rw [h.2, upd_same]) (fun i y σ' H' hx h => by cases hx) (fun σ' H' h => ?_)
      obtain ⟨rfl, rfl⟩ := h
      refine ⟨upd_same, ?_⟩
      have bk : upd (upd H4 S.ma (.frz od2 (.dK []))) S.ma (.dK []) = H4 := by
        rw [upd_upd]
        funext c
        by_cases z : c = S.ma
        · rw [z, upd_same, em4]
        · rw [upd_ne z]
      rw [bk]
      have da0 := kq sc.da
      obtain ⟨tl, et, tb⟩ := sc.ta
      have ta0 := kq et
      walk_at "rds"
      refine ⟨S.da, _, rfl, .inl (SqL.of da0), fun da' g1 => ?_⟩
      have xda : S.da ≠ x := (old sc.da).2.2.2.2.1
      have xta : S.ta ≠ x := (old et).2.2.2.2.1
      walk_at "rds"
      refine ⟨S.ta, _, rfl, .inl (SqL.of (by walk_at "hp")), fun ta' g2 => ?_⟩
      obtain ⟨m1, g3⟩ := upd_none g2
      simp only [upd_nn] at g3
      obtain ⟨_, _, m3, g4⟩ := g3
      clear g2
      walk_at "rds"
      have fr : ∀ {c}, H4 c = none → H c = none := fun {c} hc => by
        cases z : H c with
        | none => rfl
        | some o => rw [kq z] at hc; cases hc
      have xda' : x ≠ da' := ne_of_none x4 g1
      generalize hHf : upd _ x _ = Hf
      have kf : ∀ {b o}, H4 b = some o → b ≠ x → Hf b = some o := fun {b o} hb y => by
        have y1 : b ≠ da' := ne_of_none hb g1
        have y2 : b ≠ ta' := ne_of_none hb g4
        rw [← hHf, upd_ne y, upd_ne y2, upd_ne y, upd_ne y, upd_ne y, upd_ne y1]
        exact hb
      have smf : Same H Hf := fun b o hb => kf (kq hb) (old hb).2.2.2.2.1
      have xf : Hf x = some (.ins (He.ga K "Scene") dx' (fScene (.int S.mo) (.ref ho') (.ref pr') (.int 0) (.int 1) (.ref bo) (.ref ma) (.ref da') (.int S.hi) .non (.ref ta'))) := by
        rw [← hHf, upd_same]
        rfl
      have daf : Hf da' = some (.lst (S.dl.map V.ref)) := by
        rw [← hHf, upd_ne xda'.symm, upd_ne m3.symm, upd_ne xda'.symm, upd_ne xda'.symm, upd_ne xda'.symm, upd_same]
      have taf : Hf ta' = some (.lst tl) := by
        rw [← hHf, upd_ne m1, upd_same]
      clear hHf
      have ownf : ∀ a, own ⟨x, ho', pr', bo, ma, da', ta', S.mo, S.hi, S.hold, S.pres, S.dl, S.ds, bl'⟩ a → H a = none := fun a o => by
        rcases o with rfl | rfl | rfl | rfl | rfl | ⟨b', hb', rfl⟩
        · exact h1b
        · exact fbo
        · exact fma
        · exact fr g1
        · exact fr g4
        · exact (b4 b' hb').1
      have ofx : ∀ {c xs}, H c = none → H4 c = some (.lst xs) → c ≠ x → G c ∨ (H c = none ∧ Hf c ≠ none ∧ ¬ own ⟨x, ho', pr', bo, ma, da', ta', S.mo, S.hi, S.hold, S.pres, S.dl, S.ds, bl'⟩ c) := fun {c xs} h0 hc y => by
        refine .inr ⟨h0, by rw [kf hc y]; simp, fun o => ?_⟩
        rcases o with z | z | z | z | z | ⟨b', hb', z⟩
        · exact y z
        · rw [z, bo4] at hc; cases hc
        · rw [z, ma4] at hc; cases hc
        · rw [z, g1] at hc; cases hc
        · rw [z, g4] at hc; cases hc
        · obtain ⟨_, _, dxx, ass, z2⟩ := b4 b' hb'
          rw [z, z2] at hc
          cases hc
      have nog : ∀ a, own ⟨x, ho', pr', bo, ma, da', ta', S.mo, S.hi, S.hold, S.pres, S.dl, S.ds, bl'⟩ a → ¬ (G a ∨ (H a = none ∧ Hf a ≠ none ∧ ¬ own ⟨x, ho', pr', bo, ma, da', ta', S.mo, S.hi, S.hold, S.pres, S.dl, S.ds, bl'⟩ a)) := fun a o g => by
        rcases g with g | g
        · exact sc.dm a g (ownf a o)
        · exact g.2.2 o
      have mem : ∀ b' ∈ bl', ∃ b ∈ S.bl, b.t = b'.t ∧ b.wa = b'.wa := fun b' hb' => by
        have : (b'.t, b'.wa) ∈ S.bl.map (fun b => (b.t, b.wa)) := by
          rw [← mp]
          exact List.mem_map.mpr ⟨b', hb', rfl⟩
        obtain ⟨b, hb, eb⟩ := List.mem_map.mp this
        exact ⟨b, hb, congrArg Prod.fst eb, congrArg Prod.snd eb⟩
      have ll : bl'.length = S.bl.length := by
        have := congrArg List.length mp
        simpa using this
      refine q ⟨x, ho', pr', bo, ma, da', ta', S.mo, S.hi, S.hold, S.pres, S.dl, S.ds, bl'⟩ Hf smf ⟨fun a g => g.elim (fun g => sc.dm.kp (Kp.same smf) a g) (fun g => g.2.1), ⟨dx', xf⟩, nog _ (.inl rfl), nog _ (.inr (.inl rfl)), nog _ (.inr (.inr (.inl rfl))), nog _ (.inr (.inr (.inr (.inl rfl)))), nog _ (.inr (.inr (.inr (.inr (.inl rfl))))),
        ofx fho ho4 n3.symm, ofx f2' pr4 n2.symm, kf ho4 n3.symm, kf pr4 n2.symm, kf bo4 nx.1.symm, kf ma4 nx.2.1.symm, daf, Paired.mapP sc.dd fun a d z => z.tups fun a xs q => smf _ _ q, ⟨tl, taf, by rw [pot_congr ts]; exact tb⟩, fun b' hb' => ?_, n4, m3.symm, ?_⟩ ownf ⟨rfl, rfl, rfl, rfl, rfl, ts⟩
      · obtain ⟨z1, z2, dxx, ass, z3⟩ := b4 b' hb'
        obtain ⟨b, hb, y1, y2⟩ := mem b' hb'
        refine ⟨⟨dxx, ass, kf z3 z2⟩, nog _ (.inr (.inr (.inr (.inr (.inr ⟨b', hb', rfl⟩))))), ?_, y1 ▸ (sc.bd b hb).ok⟩
        have w1 : WaneAt K G Hf b.wa b.t.wn := (sc.bd b hb).w.kp (Kp.same smf)
        rw [y1, y2] at w1
        exact w1.mono fun c gc => .inl gc
      · have o := sc.ok
        refine ⟨o.r1, o.r4, o.rp, o.p10, o.d8, by rw [ll]; exact o.l8, fun b' hb' => ?_, by rw [nm_congr ts]; exact o.nn, pn, fun b' hb' => (b4 b' hb').2.1⟩
        obtain ⟨b, hb, y1, y2⟩ := mem b' hb'
        rw [← y1]
        exact o.sp b hb
end
end Wh

/-! ## S5 -/
set_option Elab.async false
set_option linter.all false
set_option maxRecDepth 100000
set_option maxHeartbeats 2000000
namespace Wh
open PySem PySem.Spec PyProof.Rows L2
/-! ### what a step does to a scene -/
def Sc.wb (S : Sc) (bl : List Bd) : Sc := { S with bl := bl }
structure Stp (S S' : Sc) (L : List T) : Prop where
  bl : ∃ bl', S' = S.wb bl'
  ts : S'.bl.map (·.t) = L
  from_ : ∀ b ∈ S'.bl, ∃ c ∈ S.bl, c.p = b.p ∧ c.wa = b.wa ∧ c.t.wn = b.t.wn ∧ c.t.nm = b.t.nm
theorem Stp.own {S S' : Sc} {L : List T} (h : Stp S S' L) {a : Addr} (o : own S' a) : own S a := by
  obtain ⟨bl', rfl⟩ := h.bl
  rcases o with z | z | z | z | z | ⟨b, hb, z⟩
  · exact .inl z
  · exact .inr (.inl z)
  · exact .inr (.inr (.inl z))
  · exact .inr (.inr (.inr (.inl z)))
  · exact .inr (.inr (.inr (.inr (.inl z))))
  · obtain ⟨c, hc, e, _⟩ := h.from_ b hb
    exact .inr (.inr (.inr (.inr (.inr ⟨c, hc, z.trans e.symm⟩))))
theorem Stp.refl (S : Sc) : Stp S S (S.bl.map (·.t)) := ⟨⟨S.bl, rfl⟩, rfl, fun b hb => ⟨b, hb, rfl, rfl, rfl, rfl⟩⟩
theorem Stp.trans {S S1 S2 : Sc} {L1 L2 : List T} (h : Stp S S1 L1) (k : Stp S1 S2 L2) : Stp S S2 L2 := by
  obtain ⟨b1, rfl⟩ := h.bl
  obtain ⟨b2, rfl⟩ := k.bl
  refine ⟨⟨b2, rfl⟩, k.ts, fun b hb => ?_⟩
  obtain ⟨c, hc, e1, e2, e3, e4⟩ := k.from_ b hb
  obtain ⟨d, hd, f1, f2, f3, f4⟩ := h.from_ c hc
  exact ⟨d, hd, f1.trans e1, f2.trans e2, f3.trans e3, f4.trans e4⟩
theorem Stp.cast {S S' : Sc} {L L2 : List T} (h : Stp S S' L) (e : L = L2) : Stp S S' L2 := e ▸ h
section
variable {K : PySem.W.Frag} {G G' : Addr → Prop} {H H' : Hp} {S S' : Sc} {N : Nat} {L : List T}
/-- what is not its own may change -/
theorem SceneAt.frame (h : SceneAt K G H S N) (k : Kp G H H') (o : ∀ a, Wh.own S a → H' a = H a) : SceneAt K G H' S N := by
  obtain ⟨dx, e⟩ := h.ins
  obtain ⟨tl, et, l⟩ := h.ta
  exact ⟨h.dm.kp k, ⟨dx, by rw [o _ (.inl rfl)]; exact e⟩, h.gq, h.gbo, h.gma, h.gda, h.gta, h.gho, h.gpr, k.g _ _ h.gho h.ho, k.g _ _ h.gpr h.pr, by rw [o _ (.inr (.inl rfl))]; exact h.bo, by rw [o _ (.inr (.inr (.inl rfl)))]; exact h.ma,
    by rw [o _ (.inr (.inr (.inr (.inl rfl))))]; exact h.da, Paired.mapP h.dd fun a d z => z.tups k.t, ⟨tl, by rw [o _ (.inr (.inr (.inr (.inr (.inl rfl)))))]; exact et, l⟩,
    fun b hb => by
      obtain ⟨dx, as, z⟩ := (h.bd b hb).ex
      exact ⟨⟨dx, as, by rw [o _ (.inr (.inr (.inr (.inr (.inr ⟨b, hb, rfl⟩)))))]; exact z⟩, (h.bd b hb).g, (h.bd b hb).w.kp k, (h.bd b hb).ok⟩, h.n1, h.n2, h.ok⟩
/-- p may be counted to what stays -/
theorem SceneAt.gadd (h : SceneAt K G H S N) {p : Addr} (hp : H p ≠ none) (no : ¬ Wh.own S p) : SceneAt K (fun a => G a ∨ a = p) H S N :=
  h.gmono' (fun a g => .inl g) (fun a g => by
    rcases g with g | rfl
    · exact h.dm a g
    · exact hp) fun a o g => by
    rcases g with g | rfl
    · exact h.notG o g
    · exact no o
/-- back to less -/
theorem SceneAt.shrink (h0 : SceneAt K G H S N) {N' : Nat} (h : SceneAt K G' H' S' N') (k : Kp G H H') (s : Stp S S' L) (i : ∀ a, G a → G' a) : SceneAt K G H' S' N' := by
  obtain ⟨bl', rfl⟩ := s.bl
  exact ⟨h0.dm.kp k, h.ins, h0.gq, h0.gbo, h0.gma, h0.gda, h0.gta, h0.gho, h0.gpr, h.ho, h.pr, h.bo, h.ma, h.da, h.dd, h.ta, fun b hb => by
    obtain ⟨c, hc, e1, e2, e3, _⟩ := s.from_ b hb
    refine ⟨(h.bd b hb).ex, ?_, ?_, (h.bd b hb).ok⟩
    · rw [← e1]; exact (h0.bd c hc).g
    · have := (h0.bd c hc).w.kp k
      rw [e2, e3] at this
      exact this, h.n1, h.n2, h.ok⟩
/-! ### one thing -/
def updB (n : Str) (f : T → Option T) (bl : List Bd) : List Bd := bl.filterMap fun b => if b.t.nm = n then (f b.t).map (fun t => { b with t := t }) else some b
theorem updB_t (n : Str) (f : T → Option T) (bl : List Bd) : (updB n f bl).map (·.t) = updT n f (bl.map (·.t)) := by
  unfold updB updT
  induction bl with
  | nil => rfl
  | cons b r ih =>
    rw [List.map_cons, List.filterMap_cons, List.filterMap_cons]
    by_cases e : b.t.nm = n
    · rw [if_pos e, if_pos e]
      cases f b.t with
      | none => exact ih
      | some t => simp only [Option.map_some, List.map_cons]; rw [ih]
    · rw [if_neg e, if_neg e]
      simp only [List.map_cons]
      rw [ih]
theorem updB_mem {n : Str} {f : T → Option T} {bl : List Bd} {b : Bd} (h : b ∈ updB n f bl) : ∃ c ∈ bl, c.p = b.p ∧ c.wa = b.wa ∧ ((c.t.nm ≠ n ∧ b = c) ∨ (c.t.nm = n ∧ f c.t = some b.t)) := by
  obtain ⟨c, hc, e⟩ := List.mem_filterMap.mp h
  by_cases z : c.t.nm = n
  · rw [if_pos z] at e
    cases y : f c.t with
    | none => rw [y] at e; cases e
    | some t =>
      rw [y] at e
      cases e
      exact ⟨c, hc, rfl, rfl, .inr ⟨z, y⟩⟩
  · rw [if_neg z] at e
    have e2 := Option.some.inj e
    exact ⟨c, hc, by rw [e2], by rw [e2], .inl ⟨z, e2.symm⟩⟩
theorem updB_sub (n : Str) (f : T → Option T) (hf : ∀ t t', t.nm = n → f t = some t' → t'.nm = t.nm) (bl : List Bd) : ((updB n f bl).map (·.t.nm)).Sublist (bl.map (·.t.nm)) ∧ ((updB n f bl).map (·.p)).Sublist (bl.map (·.p)) ∧ (updB n f bl).length ≤ bl.length := by
  unfold updB
  induction bl with
  | nil => exact ⟨.slnil, .slnil, Nat.le_refl _⟩
  | cons b r ih =>
    obtain ⟨i1, i2, i3⟩ := ih
    rw [List.filterMap_cons]
    by_cases e : b.t.nm = n
    · rw [if_pos e]
      cases y : f b.t with
      | none => exact ⟨i1.cons _, i2.cons _, Nat.le_succ_of_le i3⟩
      | some t =>
        simp only [Option.map_some, List.map_cons, List.length_cons]
        rw [hf _ _ e y]
        exact ⟨i1.cons₂ _, i2.cons₂ _, Nat.succ_le_succ i3⟩
    · rw [if_neg e]
      simp only [List.map_cons, List.length_cons]
      exact ⟨i1.cons₂ _, i2.cons₂ _, Nat.succ_le_succ i3⟩
theorem stp_upd (S : Sc) (n : Str) (f : T → Option T) (hf : ∀ c ∈ S.bl, c.t.nm = n → ∀ t', f c.t = some t' → t'.wn = c.t.wn ∧ t'.nm = c.t.nm) : Stp S (S.wb (updB n f S.bl)) (updT n f (S.bl.map (·.t))) := by
  refine ⟨⟨_, rfl⟩, updB_t .., fun b hb => ?_⟩
  obtain ⟨c, hc, e1, e2, e3⟩ := updB_mem hb
  rcases e3 with ⟨_, rfl⟩ | ⟨y, e3⟩
  · exact ⟨b, hc, rfl, rfl, rfl, rfl⟩
  · exact ⟨c, hc, e1, e2, (hf c hc y _ e3).1.symm, (hf c hc y _ e3).2.symm⟩
theorem kvs_upd (n : Str) (t' : T) (bl : List Bd) (hn : t'.nm = n) : kvsB (updB n (fun _ => some t') bl) = kvsB bl := by
  unfold updB kvsB
  induction bl with
  | nil => rfl
  | cons b r ih =>
    rw [List.filterMap_cons]
    by_cases e : b.t.nm = n
    · rw [if_pos e]
      simp only [Option.map_some, List.map_cons] at ih ⊢
      rw [ih, hn, e]
    · rw [if_neg e]
      simp only [Option.map_some, List.map_cons] at ih ⊢
      rw [ih]
theorem kvs_drop (n : Str) (bl : List Bd) : kvsB (updB n (fun _ => none) bl) = dropK (kvsB bl) (Sum.inr n) := by
  unfold updB kvsB
  induction bl with
  | nil => rfl
  | cons b r ih =>
    rw [List.filterMap_cons, List.map_cons]
    by_cases e : b.t.nm = n
    · rw [if_pos e, dropK_pos (by rw [e])]
      exact ih
    · rw [if_neg e, dropK_neg (fun z => e (Sum.inr.inj z))]
      simp only [List.map_cons]
      rw [ih]
theorem np_eq {bl : List Bd} (h : (bl.map (·.p)).Nodup) {b c : Bd} (hb : b ∈ bl) (hc : c ∈ bl) (e : b.p = c.p) : b = c := by
  induction bl with
  | nil => cases hb
  | cons d r ih =>
    have h2 := List.nodup_cons.mp h
    rcases List.mem_cons.mp hb with z | z <;> rcases List.mem_cons.mp hc with y | y
    · rw [z, y]
    · exact absurd (List.mem_map.mpr ⟨c, y, by rw [← e, z]⟩) h2.1
    · exact absurd (List.mem_map.mpr ⟨b, z, by rw [e, y]⟩) h2.1
    · exact ih h2.2 z y
theorem nn_eq {bl : List Bd} (h : (bl.map (·.t.nm)).Nodup) {b c : Bd} (hb : b ∈ bl) (hc : c ∈ bl) (e : b.t.nm = c.t.nm) : b = c := by
  induction bl with
  | nil => cases hb
  | cons d r ih =>
    have h2 := List.nodup_cons.mp h
    rcases List.mem_cons.mp hb with z | z <;> rcases List.mem_cons.mp hc with y | y
    · rw [z, y]
    · exact absurd (List.mem_map.mpr ⟨c, y, by rw [← e, z]⟩) h2.1
    · exact absurd (List.mem_map.mpr ⟨b, z, by rw [e, y]⟩) h2.1
    · exact ih h2.2 z y
theorem pot_upd {n : Str} {f : T → Option T} : ∀ {bl : List Bd}, (bl.map (·.t.nm)).Nodup → ∀ {b : Bd}, b ∈ bl → b.t.nm = n → ∀ {d : Nat}, ((f b.t).map fun t => 5 - t.sp.toNat).getD 0 + d ≤ 5 - b.t.sp.toNat → pot (updB n f bl) + d ≤ pot bl
  | [], _, b, hb, _, _, _ => nomatch hb
  | c :: r, nd, b, hb, e, d, le => by
    have nd2 := List.nodup_cons.mp nd
    unfold updB
    rw [List.filterMap_cons]
    by_cases z : c.t.nm = n
    · have hbc : b = c := by
        rcases List.mem_cons.mp hb with y | y
        · exact y
        · exact absurd (List.mem_map.mpr ⟨b, y, e.trans z.symm⟩) nd2.1
      subst hbc
      have rest : r.filterMap (fun b => if b.t.nm = n then (f b.t).map (fun t => { b with t := t }) else some b) = r := by
        have : ∀ x ∈ r, (if x.t.nm = n then (f x.t).map (fun t => { x with t := t }) else some x) = some x := fun x hx => by
          rw [if_neg fun y => nd2.1 (List.mem_map.mpr ⟨x, hx, y.trans z.symm⟩)]
        clear nd nd2 hb le
        induction r with
        | nil => rfl
        | cons x r ih =>
          rw [List.filterMap_cons, this x (List.mem_cons_self ..)]
          simp only
          rw [ih fun y hy => this y (List.mem_cons_of_mem _ hy)]
      rw [if_pos z, rest]
      cases y : f b.t with
      | none =>
        rw [y] at le
        simp only [Option.map_none, Option.getD_none] at le
        show pot r + d ≤ pot (b :: r)
        unfold pot
        rw [List.map_cons, List.sum_cons]
        omega
      | some t =>
        rw [y] at le
        simp only [Option.map_some, Option.getD_some] at le
        show pot ({ b with t := t } :: r) + d ≤ pot (b :: r)
        unfold pot
        rw [List.map_cons, List.sum_cons, List.map_cons, List.sum_cons]
        simp only
        omega
    · rw [if_neg z]
      have hb2 : b ∈ r := by
        rcases List.mem_cons.mp hb with y | y
        · exact absurd (by rw [← y]; exact e) z
        · exact y
      have := pot_upd (f := f) nd2.2 hb2 e le
      unfold updB at this
      show pot (c :: _) + d ≤ pot (c :: r)
      unfold pot at this ⊢
      rw [List.map_cons, List.sum_cons, List.map_cons, List.sum_cons]
      omega
theorem stp_b {S : Sc} (nn : (S.bl.map (·.t.nm)).Nodup) {b : Bd} (hb : b ∈ S.bl) {o : Option T} (hw : ∀ t', o = some t' → t'.wn = b.t.wn ∧ t'.nm = b.t.nm) : Stp S (S.wb (updB b.t.nm (fun _ => o) S.bl)) (updT b.t.nm (fun _ => o) (S.bl.map (·.t))) :=
  stp_upd S _ _ fun c hc e t' z => by rw [nn_eq nn hc hb e]; exact hw _ z
theorem updT_congr {n : Str} {f g : T → Option T} : ∀ {L : List T}, (∀ t ∈ L, t.nm = n → f t = g t) → updT n f L = updT n g L
  | [], _ => rfl
  | t :: r, h => by
    have ih := updT_congr (f := f) (g := g) fun x hx => h x (List.mem_cons_of_mem _ hx)
    unfold updT at ih ⊢
    rw [List.filterMap_cons, List.filterMap_cons, ih]
    by_cases e : t.nm = n
    · rw [if_pos e, if_pos e, h t (List.mem_cons_self ..) e]
    · rw [if_neg e, if_neg e]
/-- one thing changes -/
theorem SceneAt.body (h : SceneAt K G H S N) {b : Bd} (hb : b ∈ S.bl) {t' : T} {dx : Addr} {as : Int} (hn : t'.nm = b.t.nm) (hw : t'.wn = b.t.wn) (ok : t'.Ok) (sp : t'.sp < S.hold.length) {d : Nat} (hd : 5 - t'.sp.toNat + d ≤ 5 - b.t.sp.toNat) :
    SceneAt K G (upd H b.p (.ins (He.ga K "Body") dx (bF ⟨t', b.p, b.wa⟩ as))) (S.wb (updB b.t.nm (fun _ => some t') S.bl)) (N - d) ∧ Kp G H (upd H b.p (.ins (He.ga K "Body") dx (bF ⟨t', b.p, b.wa⟩ as))) := by
  obtain ⟨bdx, bas, eb⟩ := (h.bd b hb).ex
  have kp : Kp G H (upd H b.p (.ins (He.ga K "Body") dx (bF ⟨t', b.p, b.wa⟩ as))) := Kp.put (h.bd b hb).g eb trivial
  have ne : ∀ {c o}, H c = some o → (∀ C dx fs, o = .ins C dx fs → False) → c ≠ b.p := fun {c o} hc no z => by
    rw [z, eb] at hc
    cases hc
    exact no _ _ _ rfl
  have nbo : S.bo ≠ b.p := ne h.bo (fun _ _ _ z => by cases z)
  have nma : S.ma ≠ b.p := ne h.ma (fun _ _ _ z => by cases z)
  have nda : S.da ≠ b.p := ne h.da (fun _ _ _ z => by cases z)
  obtain ⟨tl, et, l⟩ := h.ta
  have nta : S.ta ≠ b.p := ne et (fun _ _ _ z => by cases z)
  have nqp : S.q ≠ b.p := (h.ok.nq b hb).symm
  have nho : S.ho ≠ b.p := fun z => (h.bd b hb).g (z ▸ h.gho)
  have npr : S.pr ≠ b.p := fun z => (h.bd b hb).g (z ▸ h.gpr)
  obtain ⟨qdx, eq⟩ := h.ins
  have sub := updB_sub b.t.nm (fun _ => some t') (fun t t2 e1 e2 => by rw [← Option.some.inj e2, hn, e1]) S.bl
  refine ⟨⟨h.dm.kp kp, ⟨qdx, (upd_ne nqp).trans eq⟩, h.gq, h.gbo, h.gma, h.gda, h.gta, h.gho, h.gpr, (upd_ne nho).trans h.ho, (upd_ne npr).trans h.pr,
    ?_, (upd_ne nma).trans h.ma, (upd_ne nda).trans h.da, Paired.mapP h.dd fun a d z => z.tups kp.t, ⟨tl, (upd_ne nta).trans et, ?_⟩, fun c hc => ?_, h.n1, h.n2, ?_⟩, kp⟩
  · show upd H b.p _ S.bo = some (.dK (kvsB (updB b.t.nm (fun _ => some t') S.bl)))
    rw [upd_ne nbo, kvs_upd _ _ _ hn]
    exact h.bo
  · have := pot_upd (f := fun _ => some t') h.ok.nn hb rfl hd
    show tl.length + pot (updB b.t.nm (fun _ => some t') S.bl) ≤ N - d
    omega
  · obtain ⟨c0, hc0, e1, e2, e3⟩ := updB_mem (show c ∈ updB b.t.nm (fun _ => some t') S.bl from hc)
    rcases e3 with ⟨y, rfl⟩ | ⟨y, e3⟩
    · obtain ⟨cdx, cas, ec⟩ := (h.bd c hc0).ex
      have : c.p ≠ b.p := fun z => y (by rw [np_eq h.ok.np hc0 hb z])
      exact ⟨⟨cdx, cas, (upd_ne this).trans ec⟩, (h.bd c hc0).g, (h.bd c hc0).w.kp kp, (h.bd c hc0).ok⟩
    · obtain rfl := nn_eq h.ok.nn hc0 hb y
      have e4 := Option.some.inj e3
      have ec : c = ⟨t', c0.p, c0.wa⟩ := by
        cases c
        simp only at e1 e2 e4
        rw [← e4, e1, e2]
      rw [ec]
      refine ⟨⟨dx, as, upd_same⟩, (h.bd c0 hc0).g, ?_, ok⟩
      show WaneAt K G _ c0.wa t'.wn
      rw [hw]
      exact (h.bd c0 hc0).w.kp kp
  · have o := h.ok
    refine ⟨o.r1, o.r4, o.rp, o.p10, o.d8, Nat.le_trans sub.2.2 o.l8, fun c hc => ?_, sub.1.nodup o.nn, sub.2.1.nodup o.np, fun c hc => ?_⟩
    · obtain ⟨c0, hc0, e1, e2, e3⟩ := updB_mem (show c ∈ updB b.t.nm (fun _ => some t') S.bl from hc)
      rcases e3 with ⟨y, rfl⟩ | ⟨y, e3⟩
      · exact o.sp c hc0
      · rw [← Option.some.inj e3]
        exact sp
    · obtain ⟨c0, hc0, e1, e2, e3⟩ := updB_mem (show c ∈ updB b.t.nm (fun _ => some t') S.bl from hc)
      rw [← e1]
      exact o.nq c0 hc0
theorem updB_self {bl : List Bd} (nn : (bl.map (·.t.nm)).Nodup) {b : Bd} (hb : b ∈ bl) : updB b.t.nm (fun _ => some b.t) bl = bl := by
  unfold updB
  have : ∀ c ∈ bl, (if c.t.nm = b.t.nm then ((fun _ => some b.t) c.t).map (fun t => { c with t := t }) else some c) = some c := fun c hc => by
    by_cases e : c.t.nm = b.t.nm
    · rw [if_pos e, nn_eq nn hc hb e]
      rfl
    · rw [if_neg e]
  clear nn hb
  induction bl with
  | nil => rfl
  | cons x r ih =>
    rw [List.filterMap_cons, this x (List.mem_cons_self ..)]
    simp only
    rw [ih fun y hy => this y (List.mem_cons_of_mem _ hy)]
/-- asked, counted -/
theorem SceneAt.touch (h : SceneAt K G H S N) {b : Bd} (hb : b ∈ S.bl) {dx : Addr} {as : Int} : SceneAt K G (upd H b.p (.ins (He.ga K "Body") dx (bF b as))) S N ∧ Kp G H (upd H b.p (.ins (He.ga K "Body") dx (bF b as))) := by
  obtain ⟨h1, h2⟩ := h.body (dx := dx) (as := as) hb (t' := b.t) rfl rfl (h.bd b hb).ok (h.ok.sp b hb) (d := 0) (Nat.le_refl _)
  rw [updB_self h.ok.nn hb] at h1
  exact ⟨h1, h2⟩
theorem Stp.find {S S' : Sc} {L : List T} (st : Stp S S' L) (nn : (S.bl.map (·.t.nm)).Nodup) {a : Bd} (ha : a ∈ S.bl) {t' : T} (ht : t' ∈ L) (e : t'.nm = a.t.nm) : ∃ b ∈ S'.bl, b.t = t' ∧ b.p = a.p ∧ b.wa = a.wa := by
  rw [← st.ts] at ht
  obtain ⟨b, hb, rfl⟩ := List.mem_map.mp ht
  obtain ⟨c, hc, e1, e2, e3, e4⟩ := st.from_ b hb
  obtain rfl := nn_eq nn hc ha (e4.trans e)
  exact ⟨b, hb, rfl, e1.symm, e2.symm⟩
theorem updT_mem {n : Str} {L : List T} {a t' : T} (ha : a ∈ L) (e : a.nm = n) : t' ∈ updT n (fun _ => some t') L :=
  List.mem_filterMap.mpr ⟨a, ha, by rw [if_pos e]⟩
theorem updT_two {n : Str} {t' : T} {o : Option T} (hn : t'.nm = n) (L : List T) : updT n (fun _ => o) (updT n (fun _ => some t') L) = updT n (fun _ => o) L := by
  unfold updT
  rw [List.filterMap_filterMap]
  congr 1
  funext t
  by_cases e : t.nm = n
  · rw [if_pos e, if_pos e]
    simp only [Option.bind_some]
    rw [if_pos hn]
  · rw [if_neg e, if_neg e]
    simp only [Option.bind_some]
    rw [if_neg e]
/-- the dict of bodies loses one -/
theorem SceneAt.drop (h : SceneAt K G H S N) {b : Bd} (hb : b ∈ S.bl) :
    SceneAt K G (upd H S.bo (.dK (dropK (kvsB S.bl) (Sum.inr b.t.nm)))) (S.wb (updB b.t.nm (fun _ => none) S.bl)) (N - 1) ∧ Kp G H (upd H S.bo (.dK (dropK (kvsB S.bl) (Sum.inr b.t.nm)))) := by
  have kp : Kp G H (upd H S.bo (.dK (dropK (kvsB S.bl) (Sum.inr b.t.nm)))) := Kp.put h.gbo h.bo trivial
  have ne : ∀ {c o}, H c = some o → (∀ kv, o = .dK kv → False) → c ≠ S.bo := fun {c o} hc no z => by
    rw [z, h.bo] at hc
    cases hc
    exact no _ rfl
  obtain ⟨qdx, eq⟩ := h.ins
  have nq : S.q ≠ S.bo := ne eq (fun _ z => by cases z)
  have nda : S.da ≠ S.bo := ne h.da (fun _ z => by cases z)
  have nho : S.ho ≠ S.bo := ne h.ho (fun _ z => by cases z)
  have npr : S.pr ≠ S.bo := ne h.pr (fun _ z => by cases z)
  obtain ⟨tl, et, l⟩ := h.ta
  have nta : S.ta ≠ S.bo := ne et (fun _ z => by cases z)
  have sub := updB_sub b.t.nm (fun _ => none) (fun t t2 e1 e2 => by cases e2) S.bl
  refine ⟨⟨h.dm.kp kp, ⟨qdx, (upd_ne nq).trans eq⟩, h.gq, h.gbo, h.gma, h.gda, h.gta, h.gho, h.gpr, (upd_ne nho).trans h.ho, (upd_ne npr).trans h.pr,
    ?_, (upd_ne h.n1.symm).trans h.ma, (upd_ne nda).trans h.da, Paired.mapP h.dd fun a d z => z.tups kp.t, ⟨tl, (upd_ne nta).trans et, ?_⟩, fun c hc => ?_, h.n1, h.n2, ?_⟩, kp⟩
  · show upd H S.bo _ S.bo = some (.dK (kvsB (updB b.t.nm (fun _ => none) S.bl)))
    rw [upd_same, kvs_drop]
  · have s4 := h.ok.sp b hb
    have r4 := h.ok.r4
    have := pot_upd (f := fun _ => none) (d := 1) h.ok.nn hb rfl (by simp only [Option.map_none, Option.getD_none]; omega)
    show tl.length + pot (updB b.t.nm (fun _ => none) S.bl) ≤ N - 1
    omega
  · obtain ⟨c0, hc0, e1, e2, e3⟩ := updB_mem (show c ∈ updB b.t.nm (fun _ => none) S.bl from hc)
    rcases e3 with ⟨y, rfl⟩ | ⟨y, e3⟩
    · obtain ⟨cdx, cas, ec⟩ := (h.bd c hc0).ex
      have : c.p ≠ S.bo := ne ec (fun _ z => by cases z)
      exact ⟨⟨cdx, cas, (upd_ne this).trans ec⟩, (h.bd c hc0).g, (h.bd c hc0).w.kp kp, (h.bd c hc0).ok⟩
    · cases e3
  · have o := h.ok
    refine ⟨o.r1, o.r4, o.rp, o.p10, o.d8, Nat.le_trans sub.2.2 o.l8, fun c hc => ?_, sub.1.nodup o.nn, sub.2.1.nodup o.np, fun c hc => ?_⟩
    · obtain ⟨c0, hc0, e1, e2, e3⟩ := updB_mem (show c ∈ updB b.t.nm (fun _ => none) S.bl from hc)
      rcases e3 with ⟨y, rfl⟩ | ⟨y, e3⟩
      · exact o.sp c hc0
      · cases e3
    · obtain ⟨c0, hc0, e1, e2, e3⟩ := updB_mem (show c ∈ updB b.t.nm (fun _ => none) S.bl from hc)
      rw [← e1]
      exact o.nq c0 hc0
/-- the tale grows -/
theorem SceneAt.told (h : SceneAt K G H S N) {tl tl' : List V} (et : H S.ta = some (.lst tl)) {M : Nat} (hl : tl'.length + pot S.bl ≤ M) :
    SceneAt K G (upd H S.ta (.lst tl')) S M ∧ Kp G H (upd H S.ta (.lst tl')) := by
  have kp : Kp G H (upd H S.ta (.lst tl')) := Kp.put h.gta et trivial
  have ne : ∀ {c o}, H c = some o → (∀ kv, o = .lst kv → False) → c ≠ S.ta := fun {c o} hc no z => by
    rw [z, et] at hc
    cases hc
    exact no _ rfl
  obtain ⟨qdx, eq⟩ := h.ins
  have nq : S.q ≠ S.ta := ne eq (fun _ z => by cases z)
  have nbo : S.bo ≠ S.ta := ne h.bo (fun _ z => by cases z)
  have nma : S.ma ≠ S.ta := ne h.ma (fun _ z => by cases z)
  have nho : S.ho ≠ S.ta := fun z => h.gta (z ▸ h.gho)
  have npr : S.pr ≠ S.ta := fun z => h.gta (z ▸ h.gpr)
  exact ⟨⟨h.dm.kp kp, ⟨qdx, (upd_ne nq).trans eq⟩, h.gq, h.gbo, h.gma, h.gda, h.gta, h.gho, h.gpr, (upd_ne nho).trans h.ho, (upd_ne npr).trans h.pr,
    (upd_ne nbo).trans h.bo, (upd_ne nma).trans h.ma, (upd_ne h.n2).trans h.da, Paired.mapP h.dd fun a d z => z.tups kp.t, ⟨tl', upd_same, hl⟩, fun c hc => by
      obtain ⟨cdx, cas, ec⟩ := (h.bd c hc).ex
      have : c.p ≠ S.ta := ne ec (fun _ z => by cases z)
      exact ⟨⟨cdx, cas, (upd_ne this).trans ec⟩, (h.bd c hc).g, (h.bd c hc).w.kp kp, (h.bd c hc).ok⟩, h.n1, h.n2, h.ok⟩, kp⟩
/-- the scene's own fields -/
theorem SceneAt.own1 (h : SceneAt K G H S N) {dx : Addr} {mo hi : Int} {da' : Addr} {dl : List Addr} {ds : List Doer} (gda : ¬ G da') (nda : da' ≠ S.ta) (eda : H da' = some (.lst (dl.map V.ref))) (dd : Paired (DoAt K H) dl ds) (d8 : ds.length ≤ 8) :
    SceneAt K G (upd H S.q (.ins (He.ga K "Scene") dx (scF { S with mo := mo, hi := hi, da := da', dl := dl, ds := ds }))) { S with mo := mo, hi := hi, da := da', dl := dl, ds := ds } N ∧ Kp G H (upd H S.q (.ins (He.ga K "Scene") dx (scF { S with mo := mo, hi := hi, da := da', dl := dl, ds := ds }))) := by
  obtain ⟨qdx, eq⟩ := h.ins
  have kp : Kp G H (upd H S.q (.ins (He.ga K "Scene") dx (scF { S with mo := mo, hi := hi, da := da', dl := dl, ds := ds }))) := Kp.put h.gq eq trivial
  have ne : ∀ {c o}, H c = some o → (∀ C dx fs, o = .ins C dx fs → False) → c ≠ S.q := fun {c o} hc no z => by
    rw [z, eq] at hc
    cases hc
    exact no _ _ _ rfl
  obtain ⟨tl, et, l⟩ := h.ta
  have o := h.ok
  exact ⟨⟨h.dm.kp kp, ⟨dx, upd_same⟩, h.gq, h.gbo, h.gma, gda, h.gta, h.gho, h.gpr, (upd_ne (ne h.ho (fun _ _ _ z => by cases z))).trans h.ho, (upd_ne (ne h.pr (fun _ _ _ z => by cases z))).trans h.pr,
    (upd_ne (ne h.bo (fun _ _ _ z => by cases z))).trans h.bo, (upd_ne (ne h.ma (fun _ _ _ z => by cases z))).trans h.ma, (upd_ne (ne eda (fun _ _ _ z => by cases z))).trans eda, Paired.mapP dd fun a d z => z.tups kp.t, ⟨tl, (upd_ne (ne et (fun _ _ _ z => by cases z))).trans et, l⟩, fun c hc => by
      obtain ⟨cdx, cas, ec⟩ := (h.bd c hc).ex
      exact ⟨⟨cdx, cas, (upd_ne (h.ok.nq c hc)).trans ec⟩, (h.bd c hc).g, (h.bd c hc).w.kp kp, (h.bd c hc).ok⟩, h.n1, nda, ⟨o.r1, o.r4, o.rp, o.p10, d8, o.l8, o.sp, o.nn, o.np, o.nq⟩⟩, kp⟩
end
end Wh

/-! ## S5a -/
set_option Elab.async false
set_option linter.all false
set_option maxRecDepth 100000
set_option maxHeartbeats 4000000


namespace Wh
open PySem PySem.Spec PyProof.Rows L2
section
variable {P : Program} {wo : World} {K : PySem.W.Frag} {mg : Str → Option Value} {base : Heap}
/-! ### turns -/
theorem same_new {H : Hp} {p : Addr} {o : HO} (h : H p = none) : Same H (upd H p o) := fun b u e => by
  rw [upd_ne (ne_of_none e h)]
  exact e
theorem SceneAt.pos {G : Addr → Prop} {H : Hp} {S : Sc} {N : Nat} (h : SceneAt K G H S N) {b : Bd} (hb : b ∈ S.bl) : 1 ≤ N := by
  obtain ⟨tl, _, l⟩ := h.ta
  have s4 := h.ok.sp b hb
  have r4 := h.ok.r4
  have := pot_upd (f := fun _ => none) (d := 1) h.ok.nn hb rfl (by simp only [Option.map_none, Option.getD_none]; omega)
  omega
def NoAt (H : Hp) (n : Addr) (M : Nat) : Prop := ∃ xs, H n = some (.lst xs) ∧ xs.length ≤ M
def spTrace (K : PySem.W.Frag) : Sp := fun vs H Q _ => ∃ G S N nm, vs = [.ref S.q, .str nm] ∧ SceneAt K G H S N ∧ 0 ≤ S.mo ∧ ∀ H', Same H H' → Q (.int 0) H'
theorem ok_trace_of (T : Tx K mg) : FnOk P wo K mg base CX0 1 (He.ga K "trace_of") (fdA K (He.ga K "trace_of")) ["scene", "name"] (spTrace K) := by
  refine okD (F_trace_of T) sc_trace_of (fun vs H Q E h => ?_) (fun cdv A outer s H vs Q E hr h => ?_)
  · obtain ⟨G, S, N, nm, rfl, _⟩ := h
    rfl
  · obtain ⟨G, S, N, nm, rfl, sc, m0, q⟩ := h
    obtain ⟨dx, e⟩ := sc.ins
    unfold scF at e
    have em := sc.ma
    refine ⟨_, (pss_cons (ps_asg (pe_dget2 (hu_of hr) (pe_fldK (K := K) (pv 0) rfl) (pv 1) (pe_tup (pa_cons pe_int (pa_cons pe_int pa_nil))) ⟨rfl, rfl, rfl, rfl⟩) (pg_tupK (K := K) (n := 2) rfl (pgs_cons (pg_name (i := 2) sc_trace_of.nd rfl (Or.inl rfl)) (pgs_cons (pg_name (i := 3) sc_trace_of.nd rfl (Or.inl rfl)) pgs_nil))))
 (pss_one (ps_ret (pe_callB (call_max2 rfl) (by rfl) (z_max T) (by decide +kernel) (pa_cons pe_int (pa_cons (pe_op op_sub (pv 2) (pe_op op_mul (pe_fldK (K := K) (pv 0) rfl) (pe_op op_sub (pe_fldK (K := K) (pv 0) rfl) (pv 3)))) pa_nil)))))), ?_⟩
    try dsimp only [cxK, cxP, cxW]
    walk_at "rds"
    refine k_dg2a (.inl em) ?_
    walk_at "rds"
    intro p fp
    walk_at "rds"
    have n1 : S.ma ≠ p := ne_of_none em fp
    refine k_dg2cs (.inl (by walk_at "hp")) ?_
    show kAsg _ _ _ (.ref p) _
    walk_at "rds"
    refine x_I (.inl ⟨by decide, by decide⟩) ?_
    walk_at "rds"
    refine ⟨_, _, rfl, ?_⟩
    rw [show (if (0 : Int) - 1 * (S.mo - 0) > 0 then (0 : Int) - 1 * (S.mo - 0) else 0) = 0 by rw [if_neg (by omega)]]
    exact q _ (same_new fp)
def spGoes (K : PySem.W.Frag) : Sp := fun vs H Q _ => ∃ G S N b wd, vs = [.ref S.q, .ref b.p, .str wd] ∧ SceneAt K G H S N ∧ b ∈ S.bl ∧ N ≤ 1000 ∧
  ∀ S' H', Kp G H H' → SceneAt K G H' S' N → Stp S S' (updT b.t.nm (fun _ => none) (S.bl.map (·.t))) → Q .non H'
theorem ok_goes (T : Tx K mg) : FnOk P wo K mg base CX0 1 (He.ga K "goes") (fdA K (He.ga K "goes")) ["scene", "body", "word"] (spGoes K) := by
  refine okD (F_goes T) sc_goes (fun vs H Q E h => ?_) (fun cdv A outer s H vs Q E hr h => ?_)
  · obtain ⟨G, S, N, b, wd, rfl, _⟩ := h
    rfl
  · obtain ⟨G, S, N, b, wd, rfl, sc, hb, nb, q⟩ := h
    obtain ⟨dx, e⟩ := sc.ins
    unfold scF at e
    have ebo := sc.bo
    obtain ⟨bdx, bas, eb⟩ := (sc.bd b hb).ex
    unfold bF at eb
    have nbb : b.p ≠ S.bo := fun z => by rw [z, ebo] at eb; cases eb
    have nqb : S.q ≠ S.bo := fun z => by rw [z, ebo] at e; cases e
    obtain ⟨sc1, kp1⟩ := sc.drop hb
    have pos := sc.pos hb
    refine ⟨_, (pss_cons (ps_expr (pe_dpop1 (pe_fldK (K := K) (pv 0) rfl) (pe_fldK (K := K) (pv 1) rfl) ⟨rfl, rfl, rfl, rfl⟩))
 (pss_cons (ps_expr (pe_bm PySem.F.plainAttrs_list PySem.F.slot_list_append PySem.F.type_list_append mt_append (pe_fldK (K := K) (pv 0) rfl) (pa_cons (pe_tup (pa_cons (pe_fldK (K := K) (pv 0) rfl) (pa_cons (pe_fldK (K := K) (pv 1) rfl) (pa_cons (pv 2) (pa_cons (pe_fldK (K := K) (pv 1) rfl) pa_nil))))) pa_nil)))
 (pss_cons (ps_set (i := 3) sc_goes.nd rfl (Or.inl rfl) (pe_op op_mul (pe_fldK (K := K) (pv 1) rfl) (pe_fldK (K := K) (pv 0) rfl)))
 (pss_one (ps_if (PW.pt (pw_and (pt_cmpR op_ne (pv 2) pe_str (nomark _)) (pw_and1 (pt_cmpR op_gt (pv 3) pe_int (nomark _))))) (pss_one (ps_dput (hu_of hr) (pe_fldK (K := K) (pv 0) rfl) (pe_fldK (K := K) (pv 1) rfl) (pe_tup (pa_cons (pv 3) (pa_cons (pe_fldK (K := K) (pv 0) rfl) pa_nil))) rfl)) pss_nil))))), ?_⟩
    try dsimp only [cxK, cxP, cxW]
    walk_at "rds"
    refine k_pop1 (.inl ebo) ?_
    walk_at "rds"
    refine k_pop1s ebo (valV_kvsB sc.ok.nn hb) ?_
    walk_at "rds"
    obtain ⟨tl, et, tn⟩ := sc1.ta
    have et' : upd H S.bo (.dK (dropK (kvsB S.bl) (Sum.inr b.t.nm))) S.ta = some (.lst tl) := et
    generalize hH1 : upd H S.bo (.dK (dropK (kvsB S.bl) (Sum.inr b.t.nm))) = H1 at *
    have e1 : H1 S.q = some (.ins (He.ga K "Scene") dx (fScene (.int S.mo) (.ref S.ho) (.ref S.pr) (.int 0) (.int 1) (.ref S.bo) (.ref S.ma) (.ref S.da) (.int S.hi) .non (.ref S.ta))) := by rw [← hH1, upd_ne nqb]; exact e
    have eb1 : H1 b.p = some (.ins (He.ga K "Body") bdx (fBody (.str b.t.nm) (.int b.t.kin) (.ref b.wa) (.int b.t.fo) (.int b.t.si) (.int bas) (.int b.t.sp))) := by rw [← hH1, upd_ne nbb]; exact eb
    walk_at "rds"
    refine k_bmL et' ?_
    walk_at "rds"
    intro r fr
    walk_at "rds"
    have nta : S.ta ≠ r := ne_of_none et' fr
    refine k_append (xs := tl) (by walk_at "hp") (Nat.lt_of_le_of_lt (show tl.length ≤ 1000 by omega) (by decide)) ?_
    have sc2 := sc1.same (same_new (o := .tup [.int S.mo, .str b.t.nm, .str wd, .int b.t.sp]) fr)
    have et2 : (upd H1 r (.tup [.int S.mo, .str b.t.nm, .str wd, .int b.t.sp])) S.ta = some (.lst tl) := by walk_at "hp"
    obtain ⟨sc3, kp3⟩ := sc2.told (tl' := tl ++ [.ref r]) (M := N) et2 (by
      rw [List.length_append, List.length_singleton]
      omega)
    have nq3 : S.q ≠ S.ta := fun z => by rw [z, et'] at e1; cases e1
    have nb3 : b.p ≠ S.ta := fun z => by rw [z, et'] at eb1; cases eb1
    have nqr : S.q ≠ r := ne_of_none e1 fr
    have nbr : b.p ≠ r := ne_of_none eb1 fr
    walk_at "rds"
    refine x_I (.inr ⟨by decide, by decide⟩) ?_
    walk_at "rds"
    refine k_and2 (fun _ => ?_) (fun _ => ?_)
    · walk_at "rds"
      rw [show decide ((0 : Int) < bas * 0) = false by rw [Int.mul_zero]; rfl]
      walk_at "rds"
      exact q _ _ (kp1.trans ((Kp.new fr).trans kp3)) sc3 (stp_b sc.ok.nn hb (fun t' z => by cases z))
    · walk_at "rds"
      exact q _ _ (kp1.trans ((Kp.new fr).trans kp3)) sc3 (stp_b sc.ok.nn hb (fun t' z => by cases z))
/-- body.force = min(cap, force + by) -/
def spLift (K : PySem.W.Frag) : Sp := fun vs H Q _ => ∃ G S N b n M by_, vs = [.ref b.p, .int by_, .ref n] ∧ SceneAt K G H S N ∧ b ∈ S.bl ∧ NoAt H n M ∧ ¬ G n ∧ ¬ own S n ∧ M ≤ 1000 ∧ 1 ≤ min b.t.wn.cap (b.t.fo + by_) ∧
  ∀ S' H', Kp G H H' → SceneAt K G H' S' N → Stp S S' (updT b.t.nm (fun _ => some { b.t with fo := min b.t.wn.cap (b.t.fo + by_) }) (S.bl.map (·.t))) → NoAt H' n (M + 1) → Q .non H'
theorem min_if {i j : Int} : (if j < i then j else i) = min i j := by omega
theorem ok_lift_body (T : Tx K mg) : FnOk P wo K mg base CX0 2 (He.ga K "lift_body") (fdA K (He.ga K "lift_body")) ["body", "by", "notes"] (spLift K) := by
  refine okD (F_lift_body T) sc_lift_body (fun vs H Q E h => ?_) (fun cdv A outer s H vs Q E hr h => ?_)
  · obtain ⟨G, S, N, b, n, M, by_, rfl, _⟩ := h
    rfl
  · obtain ⟨G, S, N, b, n, M, by_, rfl, sc, hb, ⟨xs, en, xl⟩, gn, on, mb, f1, q⟩ := h
    obtain ⟨bdx, bas, eb⟩ := (sc.bd b hb).ex
    unfold bF at eb
    have wa := (sc.bd b hb).w
    have wok := (sc.bd b hb).ok
    obtain ⟨wdx, whl, wtl, _, _, _, we, _⟩ := id wa.ex
    have nbn : b.p ≠ n := fun z => by rw [z, en] at eb; cases eb
    refine ⟨_, (pss_cons (ps_set (i := 3) sc_lift_body.nd rfl (Or.inl rfl) (pe_meth0 (pe_fldK (K := K) (pv 0) rfl) (c_Wane (K := K) T) (m_Wane_cap (K := K) T) (ok_Wane_cap (P := P) (wo := wo) (K := K) T) (hr.mono (by decide)) (b_Wane_cap T) .nil pass0))
 (pss_cons (ps_expr (pe_bm PySem.F.plainAttrs_list PySem.F.slot_list_append PySem.F.type_list_append mt_append (pv 2) (pa_cons (pe_tup (pa_cons pe_str (pa_cons (pe_fldK (K := K) (pv 0) rfl) (pa_cons (pe_op op_add (pe_fldK (K := K) (pv 0) rfl) (pv 1)) (pa_cons (pv 3) pa_nil))))) pa_nil)))
 (pss_one (ps_fld (pv 0) (pe_callB (call_min2 rfl) (by rfl) (z_min T) (by decide +kernel) (pa_cons (pv 3) (pa_cons (pe_op op_add (pe_fldK (K := K) (pv 0) rfl) (pv 1)) pa_nil))) rfl)))), ?_⟩
    try dsimp only [cxK, cxP, cxW]
    walk_at "rds"
    refine ⟨G, b.wa, b.t.wn, rfl, wa, ?_⟩
    walk_at "rds"
    refine k_bmL en ?_
    walk_at "rds"
    intro r fr
    have nr : n ≠ r := ne_of_none en fr
    have nbr : b.p ≠ r := ne_of_none eb fr
    walk_at "rds"
    refine k_append (xs := xs) (by walk_at "hp") (Nat.lt_of_le_of_lt (show xs.length ≤ 1000 by omega) (by decide)) ?_
    walk_at "rds"
    refine ⟨_, _, rfl, ?_⟩
    rw [min_if]
    walk_at "rds"
    generalize hH2 : upd (upd H r _) n _ = H2
    have kp2 : Kp G H H2 := by
      rw [← hH2]
      exact (Kp.new fr).trans (Kp.put gn ((upd_ne nr).trans en) trivial)
    have sc2 : SceneAt K G H2 S N := sc.frame kp2 fun a o => by
      have y1 : a ≠ n := fun z => on (z ▸ o)
      have y2 : a ≠ r := fun z => (sc.there o) (z ▸ fr)
      rw [← hH2, upd_ne y1, upd_ne y2]
    have en2 : H2 n = some (.lst (xs ++ [.ref r])) := by rw [← hH2]; exact upd_same
    obtain ⟨sc3, kp3⟩ := sc2.body (dx := bdx) (as := bas) hb (t' := { b.t with fo := min b.t.wn.cap (b.t.fo + by_) }) rfl rfl ⟨wok.w, wok.k0, wok.k9, wok.s0, f1, Int.min_le_left _ _, wok.i0⟩ (sc.ok.sp b hb) (d := 0) (Nat.le_refl _)
    rw [pBody_force]
    refine q _ _ (kp2.trans kp3) sc3 ?_ ⟨xs ++ [.ref r], (upd_ne nbn.symm).trans en2, by rw [List.length_append, List.length_singleton]; omega⟩
    exact stp_b sc.ok.nn hb (fun t' z => by rw [← Option.some.inj z]; exact ⟨rfl, rfl⟩)
/-- force is new, or gone -/
def spLower (K : PySem.W.Frag) : Sp := fun vs H Q _ => ∃ G S N b n M fo wd, vs = [.ref S.q, .ref b.p, .int fo, .str wd, .ref n] ∧ SceneAt K G H S N ∧ b ∈ S.bl ∧ N ≤ 1000 ∧ NoAt H n M ∧ ¬ G n ∧ ¬ own S n ∧ M ≤ 1000 ∧ fo ≤ b.t.wn.cap ∧
  ∀ S' H', Kp G H H' → SceneAt K G H' S' N → Stp S S' (updT b.t.nm (fun _ => if fo < 1 then none else some { b.t with fo := fo }) (S.bl.map (·.t))) → NoAt H' n (M + 1) → Q .non H'
theorem NoAt.le {H : Hp} {n : Addr} {M M' : Nat} (h : NoAt H n M) (l : M ≤ M') : NoAt H n M' := by
  obtain ⟨xs, e, k⟩ := h
  exact ⟨xs, e, by omega⟩
theorem ok_lower_body (T : Tx K mg) : FnOk P wo K mg base CX0 2 (He.ga K "lower_body") (fdA K (He.ga K "lower_body")) ["scene", "body", "force", "word", "notes"] (spLower K) := by
  refine okD (F_lower_body T) sc_lower_body (fun vs H Q E h => ?_) (fun cdv A outer s H vs Q E hr h => ?_)
  · obtain ⟨G, S, N, b, n, M, fo, wd, rfl, _⟩ := h
    rfl
  · obtain ⟨G, S, N, b, n, M, fo, wd, rfl, sc, hb, nb, ⟨xs, en, xl⟩, gn, on, mb, f1, q⟩ := h
    obtain ⟨bdx, bas, eb⟩ := (sc.bd b hb).ex
    unfold bF at eb
    have wok := (sc.bd b hb).ok
    have nbn : b.p ≠ n := fun z => by rw [z, en] at eb; cases eb
    refine ⟨_, (pss_one (ps_if (pt_cmpR op_lt (pv 2) pe_int (nomark _)) (pss_one (ps_expr (pe_call (ok_goes (P := P) (wo := wo) (K := K) T) (hr.mono (by decide)) rfl (g_goes T) (F_goes T).kp (b_goes T) .nil pass0 (pa_cons (pv 0) (pa_cons (pv 1) (pa_cons (pv 3) pa_nil)))))) (pss_cons (ps_expr (pe_bm PySem.F.plainAttrs_list PySem.F.slot_list_append PySem.F.type_list_append mt_append (pv 4) (pa_cons (pe_tup (pa_cons pe_str (pa_cons (pe_fldK (K := K) (pv 1) rfl) (pa_cons (pv 2) (pa_cons pe_int pa_nil))))) pa_nil)))
 (pss_one (ps_fld (pv 1) (pv 2) rfl))))), ?_⟩
    try dsimp only [cxK, cxP, cxW]
    walk_at "rds"
    refine k_if (fun hc => ?_) (fun hc => ?_)
    · have hlt : fo < 1 := of_decide_eq_true hc
      walk_at "rds"
      refine ⟨_, S, N, b, wd, rfl, sc.gadd (p := n) (by rw [en]; simp) on, hb, nb, fun S' H' kp sc' st => ?_⟩
      walk_at "rds"
      have kp0 : Kp G H H' := kp.mono fun c g => .inl g
      refine q S' H' kp0 (sc.shrink sc' kp0 st fun c g => .inl g) (st.cast ?_) ⟨xs, kp.g _ _ (.inr rfl) en, by omega⟩
      rw [if_pos hlt]
    · have hge : ¬ fo < 1 := of_decide_eq_false hc
      walk_at "rds"
      refine k_bmL en ?_
      walk_at "rds"
      intro r fr
      have nr : n ≠ r := ne_of_none en fr
      have nbr : b.p ≠ r := ne_of_none eb fr
      walk_at "rds"
      refine k_append (xs := xs) (by walk_at "hp") (Nat.lt_of_le_of_lt (show xs.length ≤ 1000 by omega) (by decide)) ?_
      walk_at "rds"
      generalize hH2 : upd (upd H r _) n _ = H2
      have kp2 : Kp G H H2 := by
        rw [← hH2]
        exact (Kp.new fr).trans (Kp.put gn ((upd_ne nr).trans en) trivial)
      have sc2 : SceneAt K G H2 S N := sc.frame kp2 fun a o => by
        have y1 : a ≠ n := fun z => on (z ▸ o)
        have y2 : a ≠ r := fun z => (sc.there o) (z ▸ fr)
        rw [← hH2, upd_ne y1, upd_ne y2]
      have en2 : H2 n = some (.lst (xs ++ [.ref r])) := by rw [← hH2]; exact upd_same
      obtain ⟨sc3, kp3⟩ := sc2.body (dx := bdx) (as := bas) hb (t' := { b.t with fo := fo }) rfl rfl ⟨wok.w, wok.k0, wok.k9, wok.s0, by show 1 ≤ fo; omega, f1, wok.i0⟩ (sc.ok.sp b hb) (d := 0) (Nat.le_refl _)
      rw [pBody_force]
      refine q _ _ (kp2.trans kp3) sc3 ?_ ⟨xs ++ [.ref r], (upd_ne nbn.symm).trans en2, by rw [List.length_append, List.length_singleton]; omega⟩
      rw [if_neg hge]
      exact stp_b sc.ok.nn hb (fun t' z => by rw [← Option.some.inj z]; exact ⟨rfl, rfl⟩)
end
end Wh

/-! ## S5b -/
set_option Elab.async false
set_option linter.all false
set_option maxRecDepth 100000
set_option maxHeartbeats 4000000


namespace Wh
open PySem PySem.Spec PyProof.Rows L2
section
variable {P : Program} {wo : World} {K : PySem.W.Frag} {mg : Str → Option Value} {base : Heap}
theorem nd_bl {S : Sc} (o : ScOk S) : Nd (S.bl.map (·.t)) := by
  unfold Nd
  rw [List.map_map]
  exact o.nn
theorem bl_of {bl : List Bd} {t : T} (h : t ∈ bl.map (·.t)) : ∃ b ∈ bl, b.t = t := by
  obtain ⟨b, hb, e⟩ := List.mem_map.mp h
  exact ⟨b, hb, e⟩
def spAsk (K : PySem.W.Frag) : Sp := fun vs H Q _ => ∃ G S N n M nm, vs = [.ref S.q, .str nm, .ref n] ∧ SceneAt K G H S N ∧ N ≤ 1000 ∧ NoAt H n M ∧ ¬ G n ∧ ¬ own S n ∧ M ≤ 900 ∧
  ∀ S' H', Kp G H H' → SceneAt K G H' S' N → Stp S S' (askL S.pres nm (S.bl.map (·.t))) → NoAt H' n (M + 9) → Q .non H'
theorem ok_ask_for (T : Tx K mg) : FnOk P wo K mg base CX0 3 (He.ga K "ask_for") (fdA K (He.ga K "ask_for")) ["scene", "name", "notes"] (spAsk K) := by
  refine okD (F_ask_for T) sc_ask_for (fun vs H Q E h => ?_) (fun cdv A outer s H vs Q E hr h => ?_)
  · obtain ⟨G, S, N, n, M, nm, rfl, _⟩ := h
    rfl
  · obtain ⟨G, S, N, n, M, nm, rfl, sc, nb, no, gn, on, mb, q⟩ := h
    obtain ⟨dx, e⟩ := sc.ins
    unfold scF at e
    have ebo := sc.bo
    refine ⟨_, (pss_cons (ps_if (pt_cmp (pc_dnotin (hu_of hr) (pv 1) (pe_fldK (K := K) (pv 0) rfl))) (pss_one ps_retN) pss_nil)
 (pss_cons (ps_set (i := 3) sc_ask_for.nd rfl (Or.inl rfl) (pe_dget (hu_of hr) (pe_fldK (K := K) (pv 0) rfl) (pv 1) (fun _ _ => rfl)))
 (pss_cons (ps_expr (pe_call (ok_lift_body (P := P) (wo := wo) (K := K) T) (hr.mono (by decide)) rfl (g_lift_body T) (F_lift_body T).kp (b_lift_body T) .nil pass0 (pa_cons (pv 3) (pa_cons (pe_meth0 (pe_fldK (K := K) (pv 3) rfl) (c_Wane (K := K) T) (m_Wane_lift (K := K) T) (ok_Wane_lift (P := P) (wo := wo) (K := K) T) (hr.mono (by decide)) (b_Wane_lift T) .nil pass0) (pa_cons (pv 2) pa_nil)))))
 (pss_cons (ps_fldaug (pv 3) pe_int in_add)
 (C8.pss_cut (ps_if (pt_val (pe_meth0 (pe_fldK (K := K) (pv 3) rfl) (c_Wane (K := K) T) (m_Wane_is_anew (K := K) T) (ok_Wane_is_anew (P := P) (wo := wo) (K := K) T) (hr.mono (by decide)) (b_Wane_is_anew T) .nil pass0)) (pss_one (ps_fld (pv 3) pe_int rfl)) pss_nil)
 (pss_cons (ps_set (i := 4) sc_ask_for.nd rfl (Or.inl rfl) (pe_ix (ix_listK (K := K)) (pe_fldK (K := K) (pv 0) rfl) (pe_fldK (K := K) (pv 3) rfl) (fun _ _ => rfl)))
 (pss_cons (ps_if (pt_cmpR op_eq (pv 4) pe_int (nomark _)) (pss_one ps_retN) pss_nil)
 (pss_one (ps_for PassesOwn.never rfl (pi_list (pe_callB (call_sortedD rfl) (by rfl) (z_sorted T) (by decide +kernel) (pa_cons (pe_fldK (K := K) (pv 0) rfl) pa_nil))) (pg_name (i := 5) sc_ask_for.nd rfl (Or.inl rfl)) (pss_cons (ps_set (i := 6) sc_ask_for.nd rfl (Or.inl rfl) (pe_dget (hu_of hr) (pe_fldK (K := K) (pv 0) rfl) (pv 5) (fun _ _ => rfl)))
 (pss_one (ps_if (PW.pt (pw_and (pt_cmpR op_ne (pv 5) (pv 1) (nomark _)) (pw_and (pt_cmpR op_eq (pe_fldK (K := K) (pv 6) rfl) (pe_fldK (K := K) (pv 3) rfl) (nomark _)) (pw_and1 (pt_cmpR op_eq (pe_fldK (K := K) (pv 6) rfl) (pe_fldK (K := K) (pv 3) rfl) (nomark _)))))) (pss_one (ps_if (pt_cmpR op_gt (pv 4) pe_int (nomark _)) (pss_one (ps_expr (pe_call (ok_lift_body (P := P) (wo := wo) (K := K) T) (hr.mono (by decide)) rfl (g_lift_body T) (F_lift_body T).kp (b_lift_body T) .nil pass0 (pa_cons (pv 6) (pa_cons (pv 4) (pa_cons (pv 2) pa_nil)))))) (pss_one (ps_expr (pe_call (ok_lower_body (P := P) (wo := wo) (K := K) T) (hr.mono (by decide)) rfl (g_lower_body T) (F_lower_body T).kp (b_lower_body T) .nil pass0 (pa_cons (pv 0) (pa_cons (pv 6) (pa_cons (pe_op op_add (pe_fldK (K := K) (pv 6) rfl) (pv 4)) (pa_cons pe_str (pa_cons (pv 2) pa_nil)))))))))) pss_nil)))))))))))), ?_⟩
    try dsimp only [cxK, cxP, cxW]
    walk_at "rds"
    refine k_dn2s (.inl ebo) ?_
    walk_at "rds"
    by_cases hin : nm ∈ S.bl.map (·.t.nm)
    case neg =>
      rw [valV_kvsN hin]
      walk_at "rds"
      refine q S H (Kp.refl _ _) sc ((Stp.refl S).cast ?_) (no.le (by omega))
      unfold askL
      rw [show look (S.bl.map (·.t)) nm = none from ?_]
      cases z : look (S.bl.map (·.t)) nm with
      | none => rfl
      | some t =>
        obtain ⟨h1, h2⟩ := look_some z
        obtain ⟨b, hb, rfl⟩ := bl_of h1
        exact absurd (List.mem_map.mpr ⟨b, hb, h2⟩) hin
    obtain ⟨a, ha, rfl⟩ := List.mem_map.mp hin
    rw [valV_kvsB sc.ok.nn ha]
    walk_at "rds"
    refine k_ifNF ?_
    walk_at "rds"
    refine k_dg2s (.inl ebo) (valV_kvsB sc.ok.nn ha) ?_
    obtain ⟨adx, aas, ea⟩ := (sc.bd a ha).ex
    unfold bF at ea
    have wa := (sc.bd a ha).w
    have aok := (sc.bd a ha).ok
    obtain ⟨wdx, whl, wtl, _, _, _, we, _⟩ := id wa.ex
    walk_at "rds"
    refine ⟨G, a.wa, a.t.wn, rfl, wa, ?_⟩
    walk_at "rds"
    refine ⟨G, S, N, a, n, M, a.t.wn.lift, rfl, sc, ha, no, gn, on, by omega, by have := aok.w.c1; have := aok.w.l1; have := aok.f1; omega, fun S1 H1 kp1 sc1 st1 no1 => ?_⟩
    obtain ⟨bl1, rfl⟩ := st1.bl
    have hat : a.t ∈ S.bl.map (·.t) := List.mem_map.mpr ⟨a, ha, rfl⟩
    obtain ⟨b1, hb1, eb1, ep1, ew1⟩ := st1.find sc.ok.nn ha (updT_mem hat rfl) rfl
    have nm1 : b1.t.nm = a.t.nm := by rw [eb1]
    obtain ⟨bdx, bas, ebx⟩ := (sc1.bd b1 hb1).ex
    have ebx0 : H1 a.p = some (.ins (He.ga K "Body") bdx (bF b1 bas)) := by
      rw [← ep1]
      exact ebx
    clear ebx ea e ebo
    walk_at "rds"
    refine k_faI (k := 1) ebx0 (c_Body T) (n_Body_asked T) rfl rfl (fun Q' z => x_add z) (lnBody (by decide)) ?_
    rw [show putF "asked" (V.int (bas + 1)) (bF b1 bas) = bF b1 (bas + 1) from rfl]
    obtain ⟨sc2, kp2⟩ := sc1.touch (dx := bdx) (as := bas + 1) hb1
    rw [ep1] at sc2 kp2
    have kp12 := kp1.trans kp2
    have nan : a.p ≠ n := fun z => on (.inr (.inr (.inr (.inr (.inr ⟨a, ha, z.symm⟩)))))
    have no2 : NoAt (upd H1 a.p (.ins (He.ga K "Body") bdx (bF b1 (bas + 1)))) n (M + 1) := by
      obtain ⟨xs, e1, e2⟩ := no1
      exact ⟨xs, (upd_ne nan.symm).trans e1, e2⟩
    refine ⟨fun σ' H' => (∃ o4 o5 o6, σ' = [some (.ref S.q), some (.str a.t.nm), some (.ref n), some (.ref a.p), o4, o5, o6]) ∧ ∃ S2, Kp G H H' ∧ SceneAt K G H' S2 N ∧ Stp S S2 (updT a.t.nm (fun _ => some (liftT a.t)) (S.bl.map (·.t))) ∧ NoAt H' n (M + 1), ?_, ?_⟩
    · have eq2 : (upd H1 a.p (.ins (He.ga K "Body") bdx (bF b1 (bas + 1)))) a.p = some (.ins (He.ga K "Body") bdx (fBody (.str b1.t.nm) (.int b1.t.kin) (.ref b1.wa) (.int b1.t.fo) (.int b1.t.si) (.int (bas + 1)) (.int b1.t.sp))) := upd_same
      have wa2 := (sc2.bd b1 hb1).w
      obtain ⟨wdx2, whl2, wtl2, _, _, _, we2, _⟩ := id wa2.ex
      generalize hH2 : upd H1 a.p _ = H2 at *
      walk_at "rds"
      refine ⟨G, b1.wa, b1.t.wn, rfl, wa2, ?_⟩
      walk_at "rds"
      have wn1 : b1.t.wn = a.t.wn := by rw [eb1]
      refine k_if (fun hc => ?_) (fun hc => ?_)
      · walk_at "rds"
        rw [pBody_since]
        obtain ⟨sc3, kp3⟩ := sc2.body (dx := bdx) (as := bas + 1) hb1 (t' := { b1.t with si := 0 }) rfl rfl (by
          have o := (sc2.bd b1 hb1).ok
          exact ⟨o.w, o.k0, o.k9, o.s0, o.f1, o.fc, Int.le_refl 0⟩) (sc2.ok.sp b1 hb1) (d := 0) (Nat.le_refl _)
        rw [ep1] at sc3 kp3
        refine ⟨⟨_, _, _, rfl⟩, _, kp12.trans kp3, sc3, (st1.trans (stp_b sc2.ok.nn hb1 (o := some { b1.t with si := 0 }) (fun t' z => by rw [← Option.some.inj z]; exact ⟨rfl, rfl⟩))).cast ?_, ?_⟩
        · rw [nm1, st1.ts]
          refine (updT_two (n := a.t.nm) (t' := { a.t with fo := min a.t.wn.cap (a.t.fo + a.t.wn.lift) }) rfl _).trans ?_
          have : liftT a.t = { b1.t with si := 0 } := by
            unfold liftT
            rw [eb1, if_pos (by rw [← wn1]; exact hc)]
          rw [this]
        · obtain ⟨xs, e1, e2⟩ := no2
          exact ⟨xs, (upd_ne nan.symm).trans e1, e2⟩
      · walk_at "rds"
        refine ⟨⟨_, _, _, rfl⟩, _, kp12, sc2, st1.cast ?_, no2⟩
        have : liftT a.t = { a.t with fo := min a.t.wn.cap (a.t.fo + a.t.wn.lift) } := by
          unfold liftT
          rw [if_neg (by rw [← wn1, hc]; decide)]
        rw [this]
    · rintro σ' H2 ⟨⟨o4, o5, o6, rfl⟩, S2, kp2, sc2, st2, no2⟩
      obtain ⟨bl2, rfl⟩ := st2.bl
      obtain ⟨b2, hb2, et2, ep2, ew2⟩ := st2.find sc.ok.nn ha (updT_mem hat rfl) rfl
      have kin2 : b2.t.kin = a.t.kin := by rw [et2]; rfl
      have sp2 : b2.t.sp = a.t.sp := by rw [et2]; rfl
      have nm2 : b2.t.nm = a.t.nm := by rw [et2]; rfl
      obtain ⟨dx2, e2⟩ := sc2.ins
      have e2' : H2 S.q = some (.ins (He.ga K "Scene") dx2 (fScene (.int S.mo) (.ref S.ho) (.ref S.pr) (.int 0) (.int 1) (.ref S.bo) (.ref S.ma) (.ref S.da) (.int S.hi) .non (.ref S.ta))) := e2
      obtain ⟨bdx2, bas2, eb2⟩ := (sc2.bd b2 hb2).ex
      have eb2' : H2 a.p = some (.ins (He.ga K "Body") bdx2 (fBody (.str b2.t.nm) (.int b2.t.kin) (.ref b2.wa) (.int b2.t.fo) (.int b2.t.si) (.int bas2) (.int b2.t.sp))) := by
        rw [← ep2]
        exact eb2
      clear e2 eb2
      have epr : H2 S.pr = some (.lst (S.pres.map V.int)) := sc2.pr
      have hk : (S.pres.map V.int)[b2.t.kin.toNat]? = some (.int (stirOf S.pres a.t.kin)) := by
        have h9 := aok.k9
        have h0 := aok.k0
        have h10 := sc.ok.p10
        rw [kin2, List.getElem?_map]
        unfold stirOf
        rw [List.getD_eq_getElem?_getD, List.getElem?_eq_getElem (by omega)]
        rfl
      walk_at "rds"
      refine x_ixL (SqL.of epr) (atI_nat (by rw [kin2]; exact aok.k0) hk) ?_
      walk_at "rds"
      have ndL := nd_bl sc.ok
      refine k_if (fun hc => ?_) (fun hc => ?_)
      · have hz : stirOf S.pres a.t.kin = 0 := of_decide_eq_true hc
        walk_at "rds"
        refine q _ _ kp2 sc2 (st2.cast ?_) (no2.le (by omega))
        unfold askL
        rw [look_mem ndL hat]
        exact (ask_one hz ndL hat).symm
      · have hz : stirOf S.pres a.t.kin ≠ 0 := of_decide_eq_false hc
        have ebo2 : H2 S.bo = some (.dK (kvsB bl2)) := sc2.bo
        have l8 : bl2.length ≤ 8 := sc2.ok.l8
        walk_at "rds"
        refine ⟨S.bo, kvsB bl2, bl2.map (·.t.nm), rfl, .inl ebo2, keys_kvsB _, by rw [List.length_map]; omega, fun ys p hperm hsort fp => ?_⟩
        have hyl : ys.length = bl2.length := by rw [hperm.length_eq, List.length_map]
        have ynd : ys.Nodup := hperm.nodup_iff.mpr sc2.ok.nn
        walk_at "rds"
        refine k_iL (SqL.of upd_same) ?_
        have pno : ¬ own (S.wb bl2) p := fun o => sc2.there o fp
        have sc3 : SceneAt K (fun c => G c ∨ c = p) (upd H2 p (.lst (ys.map V.str))) (S.wb bl2) N := (sc2.same (same_new fp)).gadd (by rw [upd_same]; simp) pno
        obtain ⟨xs2, en2, xl2⟩ := no2
        have npn : n ≠ p := ne_of_none en2 fp
        have nog : ¬ (G n ∨ n = p) := fun z => z.elim gn npn
        have stL2 : (S.wb bl2).bl.map (·.t) = updT a.t.nm (fun _ => some (liftT a.t)) (S.bl.map (·.t)) := st2.ts
        have ndL2 : Nd (bl2.map (·.t)) := nd_bl sc2.ok
        refine k_for (itx_l K p (ys.map V.str)) (fun i σ' H' => (∃ o5 o6, σ' = [some (.ref S.q), some (.str a.t.nm), some (.ref n), some (.ref a.p), some (.int (stirOf S.pres a.t.kin)), o5, o6]) ∧
          ∃ S', Kp (fun c => G c ∨ c = p) (upd H2 p (.lst (ys.map V.str))) H' ∧ SceneAt K (fun c => G c ∨ c = p) H' S' N ∧ Stp (S.wb bl2) S' (part (ys.take i) (prT (stirOf S.pres a.t.kin) (liftT a.t)) (bl2.map (·.t))) ∧ NoAt H' n (M + 1 + i)) ?_ (fun i σ' H' _ h => ?_) (fun i x σ' H' hx h => ?_) (fun σ' H' h => ?_)
        · refine ⟨⟨_, _, rfl⟩, _, Kp.refl _ _, sc3, (Stp.refl _).cast ?_, ⟨xs2, (upd_ne npn).trans en2, xl2⟩⟩
          rw [List.take_zero, part_nil]
          rfl
        · obtain ⟨_, S', kp', _⟩ := h
          exact SqL.of (kp'.g _ _ (.inr rfl) upd_same)
        · obtain ⟨⟨o5, o6, rfl⟩, S', kp', sc', st', no'⟩ := h
          have hi : i < ys.length := by
            have := (List.getElem?_eq_some_iff.mp hx).1
            simpa using this
          obtain ⟨nm, hn, rfl⟩ : ∃ nm, ys[i]? = some nm ∧ x = .str nm := by
            rw [List.getElem?_map] at hx
            cases hy : ys[i]? with
            | none => rw [hy] at hx; cases hx
            | some z => rw [hy] at hx; exact ⟨z, rfl, (Option.some.inj hx).symm⟩
          have hnt : nm ∉ ys.take i := by
            intro z
            obtain ⟨j, hj, ej⟩ := List.getElem_of_mem z
            rw [List.length_take] at hj
            rw [List.getElem_take] at ej
            have g2 := (List.getElem?_eq_some_iff.mp hn).2
            have := (List.getElem_inj ynd).mp (ej.trans g2.symm)
            omega
          obtain ⟨t, ht, rfl⟩ : ∃ t ∈ bl2.map (·.t), t.nm = nm := by
            obtain ⟨b, hb, e⟩ := List.mem_map.mp (hperm.mem_iff.mp (List.mem_of_getElem? hn))
            exact ⟨b.t, List.mem_map.mpr ⟨b, hb, rfl⟩, e⟩
          have htp := part_mem (f := prT (stirOf S.pres a.t.kin) (liftT a.t)) ht hnt
          have snoc : part (ys.take (i + 1)) (prT (stirOf S.pres a.t.kin) (liftT a.t)) (bl2.map (·.t)) = updT t.nm (prT (stirOf S.pres a.t.kin) (liftT a.t)) (part (ys.take i) (prT (stirOf S.pres a.t.kin) (liftT a.t)) (bl2.map (·.t))) := by
            rw [List.take_add_one, hn]
            exact part_snoc (fun t t' => prT_nm) hnt _
          have nd' := nd_bl sc'.ok
          rw [st'.ts] at nd'
          have same_ : ∀ u ∈ part (ys.take i) (prT (stirOf S.pres a.t.kin) (liftT a.t)) (bl2.map (·.t)), u.nm = t.nm → u = t := fun u hu e => nd_uniq nd' hu htp e
          have hla : liftT a.t ∈ part (ys.take i) (prT (stirOf S.pres a.t.kin) (liftT a.t)) (bl2.map (·.t)) := part_fix (List.mem_map.mpr ⟨b2, hb2, et2⟩) (by unfold prT; rw [if_neg (fun z => z.1 rfl)])
          obtain ⟨ba, hba, eba, pba, wba⟩ := st'.find sc2.ok.nn hb2 hla (by rw [← et2])
          have htp2 := htp
          rw [← st'.ts] at htp2
          obtain ⟨b', hb', rfl⟩ := List.mem_map.mp htp2
          obtain ⟨bl3, rfl⟩ := st'.bl
          obtain ⟨dx3, e3⟩ := sc'.ins
          have e3' : H' S.q = some (.ins (He.ga K "Scene") dx3 (fScene (.int S.mo) (.ref S.ho) (.ref S.pr) (.int 0) (.int 1) (.ref S.bo) (.ref S.ma) (.ref S.da) (.int S.hi) .non (.ref S.ta))) := e3
          have ebo3 : H' S.bo = some (.dK (kvsB bl3)) := sc'.bo
          obtain ⟨cdx, cas, ec⟩ := (sc'.bd b' hb').ex
          have ec' : H' b'.p = some (.ins (He.ga K "Body") cdx (fBody (.str b'.t.nm) (.int b'.t.kin) (.ref b'.wa) (.int b'.t.fo) (.int b'.t.si) (.int cas) (.int b'.t.sp))) := ec
          obtain ⟨adx3, aas3, ea3⟩ := (sc'.bd ba hba).ex
          have ea3' : H' a.p = some (.ins (He.ga K "Body") adx3 (fBody (.str ba.t.nm) (.int ba.t.kin) (.ref ba.wa) (.int ba.t.fo) (.int ba.t.si) (.int aas3) (.int ba.t.sp))) := by
            rw [← ep2, ← pba]
            exact ea3
          clear e3 ec ea3
          have kba : ba.t.kin = a.t.kin := by rw [eba]; rfl
          have sba : ba.t.sp = a.t.sp := by rw [eba]; rfl
          have cok := (sc'.bd b' hb').ok
          have skip : ¬ (b'.t.nm ≠ (liftT a.t).nm ∧ b'.t.kin = (liftT a.t).kin ∧ b'.t.sp = (liftT a.t).sp) → ∃ S', Kp (fun c => G c ∨ c = p) (upd H2 p (.lst (ys.map V.str))) H' ∧ SceneAt K (fun c => G c ∨ c = p) H' S' N ∧ Stp (S.wb bl2) S' (part (ys.take (i + 1)) (prT (stirOf S.pres a.t.kin) (liftT a.t)) (bl2.map (·.t))) ∧ NoAt H' n (M + 1 + (i + 1)) := fun hno => by
            refine ⟨_, kp', sc', st'.cast ?_, no'.le (by omega)⟩
            rw [snoc, updT_id fun u hu e => ?_]
            rw [same_ u hu e]
            unfold prT
            rw [if_neg hno]
          have i8 : i < 8 := by omega
          walk_at "rds"
          refine k_dg2s (.inl ebo3) (valV_kvsB sc'.ok.nn hb') ?_
          walk_at "rds"
          refine k_and2 (fun c1 => ?_) (fun c1 => ?_)
          · have d1 : b'.t.nm ≠ a.t.nm := fun z => by rw [decide_eq_true z] at c1; cases c1
            walk_at "rds"
            refine k_and2 (fun c2 => ?_) (fun c2 => ?_)
            · have d2 : b'.t.kin = ba.t.kin := of_decide_eq_true c2
              walk_at "rds"
              refine k_if (fun c3 => ?_) (fun c3 => ?_)
              · have d3 : b'.t.sp = ba.t.sp := of_decide_eq_true c3
                walk_at "rds"
                have hyes : b'.t.nm ≠ (liftT a.t).nm ∧ b'.t.kin = (liftT a.t).kin ∧ b'.t.sp = (liftT a.t).sp := ⟨d1, d2.trans kba, d3.trans sba⟩
                have prq : prT (stirOf S.pres a.t.kin) (liftT a.t) b'.t = pressT (stirOf S.pres a.t.kin) b'.t := by unfold prT; rw [if_pos hyes]
                have f1 := cok.f1
                have fc := cok.fc
                have cc := cok.w.c1
                refine k_if (fun c4 => ?_) (fun c4 => ?_)
                · have pp : 0 < stirOf S.pres a.t.kin := of_decide_eq_true c4
                  walk_at "rds"
                  refine ⟨_, _, N, b', n, M + 1 + i, stirOf S.pres a.t.kin, rfl, sc', hb', no', nog, fun o => on (st2.own (st'.own o)), by omega, by omega, fun S3 H3 kp3 sc3' st3 no3 => ?_⟩
                  walk_at "rds"
                  refine ⟨⟨_, _, rfl⟩, S3, kp'.trans kp3, sc3', (st'.trans st3).cast ?_, no3⟩
                  rw [snoc, st'.ts]
                  refine updT_congr fun u hu e => ?_
                  rw [same_ u hu e, prq]
                  unfold pressT
                  rw [if_neg (by omega)]
                · have pp : ¬ 0 < stirOf S.pres a.t.kin := of_decide_eq_false c4
                  walk_at "rds"
                  refine ⟨_, (S.wb bl2).wb bl3, N, b', n, M + 1 + i, b'.t.fo + stirOf S.pres a.t.kin, _, rfl, sc', hb', nb, no', nog, fun o => on (st2.own (st'.own o)), by omega, by omega, fun S3 H3 kp3 sc3' st3 no3 => ?_⟩
                  walk_at "rds"
                  refine ⟨⟨_, _, rfl⟩, S3, kp'.trans kp3, sc3', (st'.trans st3).cast ?_, no3⟩
                  rw [snoc, st'.ts]
                  refine updT_congr fun u hu e => ?_
                  rw [same_ u hu e, prq]
                  unfold pressT
                  rw [show min b'.t.wn.cap (b'.t.fo + stirOf S.pres a.t.kin) = b'.t.fo + stirOf S.pres a.t.kin by omega]
              · have d3 : ¬ b'.t.sp = ba.t.sp := of_decide_eq_false c3
                walk_at "rds"
                exact ⟨⟨_, _, rfl⟩, skip fun z => d3 (z.2.2.trans sba.symm)⟩
            · have d2 : ¬ b'.t.kin = ba.t.kin := of_decide_eq_false c2
              walk_at "rds"
              exact ⟨⟨_, _, rfl⟩, skip fun z => d2 (z.2.1.trans kba.symm)⟩
          · have d1 : b'.t.nm = a.t.nm := by
              rcases Decidable.em (b'.t.nm = a.t.nm) with z | z
              · exact z
              · rw [decide_eq_false z] at c1; cases c1
            walk_at "rds"
            exact ⟨⟨_, _, rfl⟩, skip fun z => z.1 d1⟩
        · obtain ⟨⟨o5, o6, rfl⟩, S', kp', sc', st', no'⟩ := h
          have kpG : Kp G H H' := kp2.trans (((Kp.same (same_new fp)).trans (kp'.mono fun c g => .inl g)))
          have hle : (ys.map V.str).length ≤ 8 := by rw [List.length_map]; omega
          refine q S' H' kpG (sc.shrink sc' kpG (st2.trans st') fun c g => .inl g) ((st2.trans st').cast ?_) (no'.le (by omega))
          rw [List.length_map, List.take_length, part_all (fun t ht => ?_)]
          · have : bl2.map (·.t) = updT a.t.nm (fun _ => some (liftT a.t)) (S.bl.map (·.t)) := st2.ts
            rw [this]
            unfold askL
            rw [look_mem ndL hat]
            exact (ask_two hz ndL hat).symm
          · obtain ⟨b, hb, rfl⟩ := List.mem_map.mp ht
            exact hperm.mem_iff.mpr (List.mem_map.mpr ⟨b, hb, rfl⟩)
end
end Wh

/-! ## S5c -/
set_option Elab.async false
set_option linter.all false
set_option maxRecDepth 100000
set_option maxHeartbeats 4000000


namespace Wh
open PySem PySem.Spec PyProof.Rows L2
section
variable {P : Program} {wo : World} {K : PySem.W.Frag} {mg : Str → Option Value} {base : Heap}
/-! ### sums, the weakest -/
theorem ref_nodup {bl : List Bd} (h : (bl.map (·.p)).Nodup) : (bl.map fun b => V.ref b.p).Nodup := by
  have : (bl.map fun b => V.ref b.p) = (bl.map (·.p)).map V.ref := by rw [List.map_map]; rfl
  rw [this]
  exact List.Pairwise.map _ (fun a b hab z => hab (V.ref.inj z)) h
theorem vals_kvsB (bl : List Bd) : (kvsB bl).map (·.2) = bl.map fun b => V.ref b.p := by
  unfold kvsB
  rw [List.map_map]
  rfl
/-- a lock that is taken off again -/
theorem same_unlock {H H' : Hp} {d : Addr} {u : HO} {o : Obj} (hd : H d = some u) (k : Same (upd H d (.frz o u)) H') : Same H (upd H' d u) := fun b x e => by
  by_cases z : b = d
  · subst z
    rw [upd_same, ← hd, e]
  · rw [upd_ne z]
    exact k b x (by rw [upd_ne z]; exact e)
def pickF (bl : List Bd) (p : Bd → Bool) (f : Bd → V) (v : V) : Option V := match bl.find? fun b => decide (V.ref b.p = v) with
  | some b => if p b then some (f b) else none
  | none => none
theorem pickF_at {bl : List Bd} {p : Bd → Bool} {f : Bd → V} {b : Bd} (h : (bl.map (·.p)).Nodup) (hb : b ∈ bl) : pickF bl p f (.ref b.p) = if p b then some (f b) else none := by
  unfold pickF
  have fa : bl.find? (fun c => decide (V.ref c.p = V.ref b.p)) = some b := by
    cases e : bl.find? (fun c => decide (V.ref c.p = V.ref b.p)) with
    | none =>
      have := List.find?_eq_none.mp e b hb
      simp at this
    | some c =>
      have h1 := List.find?_some e
      have h2 := List.mem_of_find?_eq_some e
      rw [np_eq h h2 hb (V.ref.inj (of_decide_eq_true h1))]
  rw [fa]
theorem fm_if {α : Type} {p : α → Bool} {f : α → V} : ∀ l : List α, (l.filterMap fun b => if p b then some (f b) else none) = (l.filter p).map f
  | [] => rfl
  | a :: r => by
    rw [List.filterMap_cons, List.filter_cons, fm_if r]
    by_cases e : p a = true
    · simp [e]
    · simp [e]
theorem pick_map {bl : List Bd} {p : Bd → Bool} {f : Bd → V} (h : (bl.map (·.p)).Nodup) : (bl.map fun b => V.ref b.p).filterMap (pickF bl p f) = (bl.filter p).map f := by
  rw [List.filterMap_map, ← fm_if]
  exact fm_congr fun b hb => pickF_at h hb
theorem bd_read {K : PySem.W.Frag} {G : Addr → Prop} {H H' : Hp} {S : Sc} {N : Nat} (sc : SceneAt K G H S N) {od : Obj} (k : Same (upd H S.bo (.frz od (.dK (kvsB S.bl)))) H') {b : Bd} (hb : b ∈ S.bl) :
    ∃ dx as, H' b.p = some (.ins (He.ga K "Body") dx (fBody (.str b.t.nm) (.int b.t.kin) (.ref b.wa) (.int b.t.fo) (.int b.t.si) (.int as) (.int b.t.sp))) := by
  obtain ⟨dx, as, e⟩ := (sc.bd b hb).ex
  have : b.p ≠ S.bo := fun z => by
    have := sc.bo
    rw [← z, e] at this
    cases this
  exact ⟨dx, as, k _ _ (by rw [upd_ne this]; exact e)⟩
def spTotal (K : PySem.W.Frag) : Sp := fun vs H Q _ => ∃ G S N i, vs = [.ref S.q, .int i] ∧ SceneAt K G H S N ∧ ∀ H', Same H H' → Q (.int (totalL i (S.bl.map (·.t)))) H'
theorem total_eq (i : Int) (bl : List Bd) : ((bl.filter fun b => decide (b.t.sp = i)).map fun b => b.t.fo).sum = totalL i (bl.map (·.t)) := by
  unfold totalL
  rw [List.filter_map, List.map_map]
  rfl
theorem ok_total_of (T : Tx K mg) : FnOk P wo K mg base CX0 1 (He.ga K "total_of") (fdA K (He.ga K "total_of")) ["scene", "spot"] (spTotal K) := by
  refine okD (F_total_of T) sc_total_of (fun vs H Q E h => ?_) (fun cdv A outer s H vs Q E hr h => ?_)
  · obtain ⟨G, S, N, i, rfl, _⟩ := h
    rfl
  · obtain ⟨G, S, N, i, rfl, sc, q⟩ := h
    obtain ⟨dx, e⟩ := sc.ins
    unfold scF at e
    have ebo := sc.bo
    have l8 := sc.ok.l8
    have bq : S.q ≠ S.bo := fun z => by rw [z, ebo] at e; cases e
    refine ⟨_, (pss_one (ps_ret (pe_callB (cr_sum rfl) (by rfl) (z_sum T) (by decide +kernel) (pa_cons (pe_lock (pe_lc (own := [("body", 2)]) rfl sc_total_of.nd (pi_values (pe_fldK (K := K) (pv 0) rfl)) (blkOk_by (N := ["scene", "spot", "body"]) (sc := defScope s_total_of) (by decide +kernel)) (fun _ _ _ _ _ => (pg_name (i := 2) sc_total_of.nd rfl (Or.inl rfl))) (fun _ _ _ _ _ => (pts_one (pt_cmpR op_eq (pe_fldK (K := K) (pv 2) rfl) (pv 1) (nomark _)))) (fun _ _ _ _ _ => (pe_fldK (K := K) (pv 2) rfl)))) pa_nil)))), ?_⟩
    try dsimp only [cxK, cxP, cxW]
    walk_at "rds"
    refine r_lockE (d := S.bo) ebo trivial fun od => ?_
    walk_at "rds"
    refine k_iV (o := od) (kvs := kvsB S.bl) upd_same ?_
    refine k_lcP (itx_d S.bo od (kvsB S.bl)) (pickF S.bl (fun b => decide (b.t.sp = i)) fun b => .int b.t.fo) (fun H' k => k _ _ upd_same) ?_ (fun v H' N' hv k hN => ?_) (fun D H' _ k eD => ?_)
    · rw [vals_kvsB, List.length_map]; exact sz8 (by omega)
    · rw [vals_kvsB] at hv
      obtain ⟨b, hb, rfl⟩ := List.mem_map.mp hv
      rw [pickF_at sc.ok.np hb] at hN
      obtain ⟨bdx, bas, eb⟩ := bd_read sc k hb
      refine el_nameT rfl ?_
      walk_at "rds"
      refine k_elT (fun hc => ?_) (fun hc => ?_)
      · walk_at "rds"
        rw [hc] at hN
        exact hN _ (Same.refl _)
      · rw [hc] at hN
        exact hN _ (Same.refl _)
    · refine ⟨k _ _ upd_same, ?_⟩
      walk_at "rds"
      have hD : D ≠ S.bo := fun z => by
        have := k _ _ (upd_same (H := H) (a := S.bo) (o := .frz od (.dK (kvsB S.bl))))
        rw [← z, eD] at this
        cases this
      rw [vals_kvsB] at eD
      refine ⟨D, (S.bl.filter fun b => decide (b.t.sp = i)).map fun b => b.t.fo, rfl, SqL.of ?_, ?_⟩
      · rw [upd_ne hD, eD, pick_map sc.ok.np, List.map_map]
        rfl
      · rw [total_eq]
        exact q _ (same_unlock ebo k)
/-- the weakest of some -/
def wB (a b : Bd) : Bd := if weaker a.t b.t then b else a
theorem wB_t (a : Bd) : ∀ r : List Bd, (r.foldl wB a).t = weak1 a.t (r.map (·.t))
  | [] => rfl
  | b :: r => by
    rw [List.foldl_cons, wB_t (wB a b) r]
    unfold weak1
    rw [List.map_cons, List.foldl_cons]
    congr 1
    unfold wB
    split <;> rfl
theorem wB_mem (a : Bd) : ∀ r : List Bd, r.foldl wB a ∈ a :: r
  | [] => List.mem_singleton.mpr rfl
  | b :: r => by
    rw [List.foldl_cons]
    rcases List.mem_cons.mp (wB_mem (wB a b) r) with z | z
    · rw [z]
      unfold wB
      split
      · exact List.mem_cons_of_mem _ (List.mem_cons_self ..)
      · exact List.mem_cons_self ..
    · exact List.mem_cons_of_mem _ (List.mem_cons_of_mem _ z)
def BdAt (K : PySem.W.Frag) (H : Hp) (b : Bd) : Prop := ∃ dx as, H b.p = some (.ins (He.ga K "Body") dx (fBody (.str b.t.nm) (.int b.t.kin) (.ref b.wa) (.int b.t.fo) (.int b.t.si) (.int as) (.int b.t.sp)))
def spWeak (K : PySem.W.Frag) : Sp := fun vs H Q _ => ∃ l x r, vs = [.ref l] ∧ H l = some (.lst ((x :: r).map fun b => V.ref b.p)) ∧ r.length ≤ 8 ∧ (∀ b ∈ x :: r, BdAt K H b) ∧ ∀ H', Same H H' → Q (.ref (r.foldl wB x).p) H'
theorem cut_from (xs : List V) (k : Nat) : cutV xs (some (k : Int)) none = xs.drop k := by
  unfold cutV
  rw [HT.sIx_none, HT.sIx_nat]
  by_cases h : k ≤ xs.length
  · rw [Nat.min_eq_left h, List.take_of_length_le (by rw [List.length_drop]; omega)]
  · have h2 : xs.length ≤ k := by omega
    rw [Nat.min_eq_right h2, Nat.sub_self, List.drop_of_length_le h2]
    simp
theorem ok_weakest (T : Tx K mg) : FnOk P wo K mg base CX0 1 (He.ga K "weakest") (fdA K (He.ga K "weakest")) ["bodies"] (spWeak K) := by
  refine okD (F_weakest T) sc_weakest (fun vs H Q E h => ?_) (fun cdv A outer s H vs Q E hr h => ?_)
  · obtain ⟨l, x, r, rfl, _⟩ := h
    rfl
  · obtain ⟨l, x, r, rfl, el, l8, bd, q⟩ := h
    refine ⟨_, (pss_cons (ps_set (i := 1) sc_weakest.nd rfl (Or.inl rfl) (pe_ix (ix_listK (K := K)) (pv 0) pe_int (fun _ _ => rfl)))
 (pss_cons (ps_for PassesOwn.never rfl (pi_list (pe_slice (sl_listK (K := K)) (pv 0) (po_some pe_int) po_none)) (pg_name (i := 2) sc_weakest.nd rfl (Or.inl rfl)) (pss_one (ps_if (PW.pt (pw_or (pt_cmpR op_lt (pe_fldK (K := K) (pv 2) rfl) (pe_fldK (K := K) (pv 1) rfl) (nomark _)) (pw_or1 (PW.pt (pw_and (pt_cmpR op_eq (pe_fldK (K := K) (pv 2) rfl) (pe_fldK (K := K) (pv 1) rfl) (nomark _)) (pw_and1 (pt_cmpR op_gt_str (pe_fldK (K := K) (pv 2) rfl) (pe_fldK (K := K) (pv 1) rfl) (nomark _)))))))) (pss_one (ps_set (i := 1) sc_weakest.nd rfl (Or.inl rfl) (pv 2))) pss_nil)))
 (pss_one (ps_ret (pv 1))))), ?_⟩
    try dsimp only [cxK, cxP, cxW]
    walk_at "rds"
    refine x_ixL (SqL.of el) (atI_nat (v := .ref x.p) (Int.le_refl 0) rfl) ?_
    walk_at "rds"
    refine ⟨l, _, rfl, SqL.of el, fun p fp => ?_⟩
    rw [show cutV ((x :: r).map fun b => V.ref b.p) (some 1) none = r.map fun b => V.ref b.p from cut_from _ 1]
    refine k_iL (SqL.of upd_same) ?_
    have keep : ∀ b ∈ x :: r, BdAt K (upd H p (.lst (r.map fun b => V.ref b.p))) b := fun b hb => by
      obtain ⟨dx, as, e⟩ := bd b hb
      exact ⟨dx, as, same_new fp _ _ e⟩
    refine k_for (itx_l K p (r.map fun b => V.ref b.p)) (fun i σ' H' => (∃ o2, σ' = [some (.ref l), some (.ref ((r.take i).foldl wB x).p), o2]) ∧ H' = upd H p (.lst (r.map fun b => V.ref b.p))) ⟨⟨_, rfl⟩, rfl⟩ (fun i σ' H' _ h => by rw [h.2]; exact SqL.of upd_same) (fun i v σ' H' hx h => ?_) (fun σ' H' h => ?_)
    · obtain ⟨⟨o2, rfl⟩, rfl⟩ := h
      obtain ⟨b, hb, rfl⟩ : ∃ b, r[i]? = some b ∧ v = .ref b.p := by
        rw [List.getElem?_map] at hx
        cases hy : r[i]? with
        | none => rw [hy] at hx; cases hx
        | some z => rw [hy] at hx; exact ⟨z, rfl, (Option.some.inj hx).symm⟩
      have hbm : b ∈ x :: r := List.mem_cons_of_mem _ (List.mem_of_getElem? hb)
      have hcm : (r.take i).foldl wB x ∈ x :: r := by
        rcases List.mem_cons.mp (wB_mem x (r.take i)) with z | z
        · rw [z]; exact List.mem_cons_self ..
        · exact List.mem_cons_of_mem _ (List.mem_of_mem_take z)
      obtain ⟨bdx, bas, eb⟩ := keep b hbm
      obtain ⟨cdx, cas, ec⟩ := keep _ hcm
      have nxt : (r.take (i + 1)).foldl wB x = wB ((r.take i).foldl wB x) b := by
        rw [List.take_add_one, hb, List.foldl_append]
        rfl
      walk_at "rds"
      refine k_or2 (fun hc => ?_) (fun hc => ?_)
      · walk_at "rds"
        refine ⟨⟨some (.ref b.p), ?_⟩, rfl⟩
        rw [nxt, show wB ((r.take i).foldl wB x) b = b from if_pos (.inl (of_decide_eq_true hc))]
        rfl
      · have h1 := of_decide_eq_false hc
        walk_at "rds"
        refine k_and2 (fun hd => ?_) (fun hd => ?_)
        · walk_at "rds"
          refine ⟨_, _, rfl, rfl, ?_⟩
          walk_at "rds"
          refine k_if (fun he => ?_) (fun he => ?_)
          · walk_at "rds"
            refine ⟨⟨some (.ref b.p), ?_⟩, rfl⟩
            rw [nxt, show wB ((r.take i).foldl wB x) b = b from if_pos (.inr ⟨of_decide_eq_true hd, of_decide_eq_true he⟩)]
            rfl
          · walk_at "rds"
            refine ⟨⟨some (.ref b.p), ?_⟩, rfl⟩
            rw [nxt, show wB ((r.take i).foldl wB x) b = (r.take i).foldl wB x from if_neg (by
              rintro (z | ⟨_, z⟩)
              · exact h1 z
              · exact of_decide_eq_false he z)]
            rfl
        · walk_at "rds"
          refine ⟨⟨some (.ref b.p), ?_⟩, rfl⟩
          rw [nxt, show wB ((r.take i).foldl wB x) b = (r.take i).foldl wB x from if_neg (by
            rintro (z | ⟨z, _⟩)
            · exact h1 z
            · exact of_decide_eq_false hd z)]
          rfl
    · obtain ⟨⟨o2, rfl⟩, rfl⟩ := h
      rw [List.length_map, List.take_length]
      walk_at "rds"
      exact q _ (same_new fp)
end
end Wh

/-! ## S5d -/
set_option Elab.async false
set_option linter.all false
set_option maxRecDepth 100000
set_option maxHeartbeats 4000000


namespace Wh
open PySem PySem.Spec PyProof.Rows L2
section
variable {P : Program} {wo : World} {K : PySem.W.Frag} {mg : Str → Option Value} {base : Heap}
/-! ### the turn of all -/
theorem waneT_nm {t t' : T} (h : waneT t = some t') : t'.nm = t.nm := by
  unfold waneT at h
  split at h
  · cases h
  · rw [← Option.some.inj h]
/-- where a loop over names stands -/
theorem nth_str {ys : List Str} {i : Nat} {x : V} (hx : (ys.map V.str)[i]? = some x) : ∃ nm, ys[i]? = some nm ∧ x = .str nm ∧ i < ys.length := by
  rw [List.getElem?_map] at hx
  cases hy : ys[i]? with
  | none => rw [hy] at hx; cases hx
  | some z => rw [hy] at hx; exact ⟨z, rfl, (Option.some.inj hx).symm, (List.getElem?_eq_some_iff.mp hy).1⟩
theorem not_take {ys : List Str} {i : Nat} {nm : Str} (ynd : ys.Nodup) (hn : ys[i]? = some nm) : nm ∉ ys.take i := by
  intro z
  obtain ⟨j, hj, ej⟩ := List.getElem_of_mem z
  rw [List.length_take] at hj
  rw [List.getElem_take] at ej
  have g2 := (List.getElem?_eq_some_iff.mp hn).2
  have := (List.getElem_inj ynd).mp (ej.trans g2.symm)
  omega
def spWaneAll (K : PySem.W.Frag) : Sp := fun vs H Q _ => ∃ G S N n M, vs = [.ref S.q, .ref n] ∧ SceneAt K G H S N ∧ N ≤ 1000 ∧ NoAt H n M ∧ ¬ G n ∧ ¬ own S n ∧ M ≤ 900 ∧
  ∀ S' H', Kp G H H' → SceneAt K G H' S' N → Stp S S' (waneL (S.bl.map (·.t))) → NoAt H' n (M + 16) → Q .non H'
theorem ok_wane_all (T : Tx K mg) : FnOk P wo K mg base CX0 3 (He.ga K "wane_all") (fdA K (He.ga K "wane_all")) ["scene", "notes"] (spWaneAll K) := by
  refine okD (F_wane_all T) sc_wane_all (fun vs H Q E h => ?_) (fun cdv A outer s H vs Q E hr h => ?_)
  · obtain ⟨G, S, N, n, M, rfl, _⟩ := h
    rfl
  · obtain ⟨G, S, N, n, M, rfl, sc, nb, no, gn, on, mb, q⟩ := h
    obtain ⟨dx, e⟩ := sc.ins
    unfold scF at e
    have ebo := sc.bo
    have l8 := sc.ok.l8
    refine ⟨_, (pss_one (ps_for PassesOwn.never rfl (pi_list (pe_callB (call_sortedD rfl) (by rfl) (z_sorted T) (by decide +kernel) (pa_cons (pe_fldK (K := K) (pv 0) rfl) pa_nil))) (pg_name (i := 2) sc_wane_all.nd rfl (Or.inl rfl)) (pss_cons (ps_set (i := 3) sc_wane_all.nd rfl (Or.inl rfl) (pe_dget (hu_of hr) (pe_fldK (K := K) (pv 0) rfl) (pv 2) (fun _ _ => rfl)))
 (pss_cons (ps_asg (pe_meth (pe_fldK (K := K) (pv 3) rfl) (c_Wane (K := K) T) (m_Wane_coming (K := K) T) (ok_Wane_coming (P := P) (wo := wo) (K := K) T) (hr.mono (by decide)) (b_Wane_coming T) .nil pass0 (pa_cons (pe_fldK (K := K) (pv 3) rfl) pa_nil)) (pg_tupK (K := K) (n := 2) rfl (pgs_cons (pg_name (i := 4) sc_wane_all.nd rfl (Or.inl rfl)) (pgs_cons (pg_name (i := 5) sc_wane_all.nd rfl (Or.inl rfl)) pgs_nil))))
 (pss_cons (ps_fldaug (pv 3) pe_int in_add)
 (C8.pss_cut (ps_if (pt_cmpR op_gt (pv 4) pe_int (nomark _)) (pss_one (ps_expr (pe_bm PySem.F.plainAttrs_list PySem.F.slot_list_append PySem.F.type_list_append mt_append (pv 1) (pa_cons (pe_tup (pa_cons pe_str (pa_cons (pv 2) (pa_cons (pv 4) (pa_cons pe_int pa_nil))))) pa_nil)))) pss_nil)
 (pss_one (ps_expr (pe_call (ok_lower_body (P := P) (wo := wo) (K := K) T) (hr.mono (by decide)) rfl (g_lower_body T) (F_lower_body T).kp (b_lower_body T) .nil pass0 (pa_cons (pv 0) (pa_cons (pv 3) (pa_cons (pe_op op_sub (pe_op op_fdiv (pe_fldK (K := K) (pv 3) rfl) (pv 4)) (pv 5)) (pa_cons pe_str (pa_cons (pv 1) pa_nil)))))))))))))), ?_⟩
    try dsimp only [cxK, cxP, cxW]
    walk_at "rds"
    refine ⟨S.bo, kvsB S.bl, S.bl.map (·.t.nm), rfl, .inl ebo, keys_kvsB _, by rw [List.length_map]; omega, fun ys p hperm hsort fp => ?_⟩
    have hyl : ys.length = S.bl.length := by rw [hperm.length_eq, List.length_map]
    have ynd : ys.Nodup := hperm.nodup_iff.mpr sc.ok.nn
    walk_at "rds"
    refine k_iL (SqL.of upd_same) ?_
    have pno : ¬ own S p := fun o => sc.there o fp
    have sc3 : SceneAt K (fun c => G c ∨ c = p) (upd H p (.lst (ys.map V.str))) S N := (sc.same (same_new fp)).gadd (by rw [upd_same]; simp) pno
    obtain ⟨xs2, en2, xl2⟩ := no
    have npn : n ≠ p := ne_of_none en2 fp
    have nog : ¬ (G n ∨ n = p) := fun z => z.elim gn npn
    clear e ebo
    refine k_for (itx_l K p (ys.map V.str)) (fun i σ' H' => (∃ o2 o3 o4 o5, σ' = [some (.ref S.q), some (.ref n), o2, o3, o4, o5]) ∧
      ∃ S', Kp (fun c => G c ∨ c = p) (upd H p (.lst (ys.map V.str))) H' ∧ SceneAt K (fun c => G c ∨ c = p) H' S' N ∧ Stp S S' (part (ys.take i) waneT (S.bl.map (·.t))) ∧ NoAt H' n (M + 2 * i)) ?_ (fun i σ' H' _ h => ?_) (fun i x σ' H' hx h => ?_) (fun σ' H' h => ?_)
    · refine ⟨⟨_, _, _, _, rfl⟩, _, Kp.refl _ _, sc3, (Stp.refl _).cast ?_, ⟨xs2, (upd_ne npn).trans en2, xl2⟩⟩
      rw [List.take_zero, part_nil]
    · obtain ⟨_, S', kp', _⟩ := h
      exact SqL.of (kp'.g _ _ (.inr rfl) upd_same)
    · obtain ⟨⟨o2, o3, o4, o5, rfl⟩, S', kp', sc', st', no'⟩ := h
      obtain ⟨nm, hn, rfl, hi⟩ := nth_str hx
      have hnt := not_take ynd hn
      obtain ⟨t, ht, rfl⟩ : ∃ t ∈ S.bl.map (·.t), t.nm = nm := by
        obtain ⟨b, hb, e⟩ := List.mem_map.mp (hperm.mem_iff.mp (List.mem_of_getElem? hn))
        exact ⟨b.t, List.mem_map.mpr ⟨b, hb, rfl⟩, e⟩
      have htp := part_mem (f := waneT) ht hnt
      have snoc : part (ys.take (i + 1)) waneT (S.bl.map (·.t)) = updT t.nm waneT (part (ys.take i) waneT (S.bl.map (·.t))) := by
        rw [List.take_add_one, hn]
        exact part_snoc (fun t t' => waneT_nm) hnt _
      have nd' := nd_bl sc'.ok
      rw [st'.ts] at nd'
      have same_ : ∀ u ∈ part (ys.take i) waneT (S.bl.map (·.t)), u.nm = t.nm → u = t := fun u hu e => nd_uniq nd' hu htp e
      have htp2 := htp
      rw [← st'.ts] at htp2
      obtain ⟨b', hb', rfl⟩ := List.mem_map.mp htp2
      obtain ⟨bl3, rfl⟩ := st'.bl
      obtain ⟨dx3, e3⟩ := sc'.ins
      have e3' : H' S.q = some (.ins (He.ga K "Scene") dx3 (fScene (.int S.mo) (.ref S.ho) (.ref S.pr) (.int 0) (.int 1) (.ref S.bo) (.ref S.ma) (.ref S.da) (.int S.hi) .non (.ref S.ta))) := e3
      have ebo3 : H' S.bo = some (.dK (kvsB bl3)) := sc'.bo
      obtain ⟨cdx, cas, ec⟩ := (sc'.bd b' hb').ex
      have ec' : H' b'.p = some (.ins (He.ga K "Body") cdx (bF b' cas)) := ec
      have ec2 : H' b'.p = some (.ins (He.ga K "Body") cdx (fBody (.str b'.t.nm) (.int b'.t.kin) (.ref b'.wa) (.int b'.t.fo) (.int b'.t.si) (.int cas) (.int b'.t.sp))) := ec
      clear e3 ec
      have cok := (sc'.bd b' hb').ok
      have wa := (sc'.bd b' hb').w
      obtain ⟨wdx, whl, wtl, _, _, _, we, _⟩ := id wa.ex
      obtain ⟨c1, c2, c3, c4⟩ := coming_ok cok.w cok.i0
      have i8 : i < 8 := by omega
      walk_at "rds"
      refine k_dg2s (.inl ebo3) (valV_kvsB sc'.ok.nn hb') ?_
      clear ec2
      have ec2 : H' b'.p = some (.ins (He.ga K "Body") cdx (fBody (.str b'.t.nm) (.int b'.t.kin) (.ref b'.wa) (.int b'.t.fo) (.int b'.t.si) (.int cas) (.int b'.t.sp))) := ec'
      walk_at "rds"
      refine ⟨_, b'.wa, b'.t.wn, b'.t.si, rfl, wa, cok.w, cok.i0, fun w1 hw1 => ?_⟩
      walk_at "rds"
      refine k_faI (k := 1) ec' (c_Body T) (n_Body_since T) rfl rfl (fun Q' z => x_add z) (lnBody (by decide)) ?_
      rw [show putF "since" (V.int (b'.t.si + 1)) (bF b' cas) = bF ⟨{ b'.t with si := b'.t.si + 1 }, b'.p, b'.wa⟩ cas from rfl]
      obtain ⟨sc4, kp4⟩ := sc'.body (dx := cdx) (as := cas) hb' (t' := { b'.t with si := b'.t.si + 1 }) rfl rfl ⟨cok.w, cok.k0, cok.k9, cok.s0, cok.f1, cok.fc, by have := cok.i0; show 0 ≤ b'.t.si + 1; omega⟩ (sc'.ok.sp b' hb') (d := 0) (Nat.le_refl _)
      have st4 := st'.trans (stp_b sc'.ok.nn hb' (o := some { b'.t with si := b'.t.si + 1 }) (fun t' z => by rw [← Option.some.inj z]; exact ⟨rfl, rfl⟩))
      have hpn : b'.p ≠ n := fun z => on (st'.own (.inr (.inr (.inr (.inr (.inr ⟨b', hb', z.symm⟩))))))
      obtain ⟨xs5, en5, xl5⟩ := no'
      have en6 := (upd_ne (H := H') (o := .ins (He.ga K "Body") cdx (bF ⟨{ b'.t with si := b'.t.si + 1 }, b'.p, b'.wa⟩ cas)) hpn.symm).trans en5
      obtain ⟨b4, hb4, eb4, ep4, ew4⟩ := (stp_b sc'.ok.nn hb' (o := some { b'.t with si := b'.t.si + 1 }) (fun t' z => by rw [← Option.some.inj z]; exact ⟨rfl, rfl⟩)).find sc'.ok.nn hb' (updT_mem htp2 rfl) rfl
      obtain ⟨ddx, das, ed⟩ := (sc4.bd b4 hb4).ex
      obtain ⟨dx5, e5⟩ := sc4.ins
      clear ec' ec2 ebo3 e3'
      refine ⟨fun σ' H5 => σ' = [some (.ref S.q), some (.ref n), some (.str b'.t.nm), some (.ref b'.p), some (.int (b'.t.wn.coming b'.t.si).1), some (.int (b'.t.wn.coming b'.t.si).2)] ∧ Kp (fun c => G c ∨ c = p) H' H5 ∧
        SceneAt K (fun c => G c ∨ c = p) H5 (((S.wb bl3)).wb (updB b'.t.nm (fun _ => some { b'.t with si := b'.t.si + 1 }) bl3)) N ∧ NoAt H5 n (M + 2 * i + 1), ?_, ?_⟩
      · walk_at "rds"
        refine k_if (fun hc => ?_) (fun hc => ?_)
        · walk_at "rds"
          refine k_bmL en6 ?_
          walk_at "rds"
          intro r fr
          have nr : n ≠ r := ne_of_none en6 fr
          walk_at "rds"
          refine k_append (xs := xs5) ((upd_ne nr).trans en6) (Nat.lt_of_le_of_lt (show xs5.length ≤ 1000 by omega) (by decide)) ?_
          walk_at "rds"
          have kp5 : Kp (fun c => G c ∨ c = p) (upd H' b'.p (.ins (He.ga K "Body") cdx (bF ⟨{ b'.t with si := b'.t.si + 1 }, b'.p, b'.wa⟩ cas))) (upd (upd (upd H' b'.p (.ins (He.ga K "Body") cdx (bF ⟨{ b'.t with si := b'.t.si + 1 }, b'.p, b'.wa⟩ cas))) r (.tup [.str "by", .str b'.t.nm, .int (b'.t.wn.coming b'.t.si).1, .int 0])) n (.lst (xs5 ++ [.ref r]))) :=
            (Kp.new fr).trans (Kp.put nog ((upd_ne nr).trans en6) trivial)
          refine ⟨rfl, kp4.trans kp5, sc4.frame kp5 fun a o => ?_, ⟨_, upd_same, by rw [List.length_append, List.length_singleton]; omega⟩⟩
          have y1 : a ≠ n := fun z => on (st4.own (z ▸ o))
          have y2 : a ≠ r := fun z => (sc4.there o) (z ▸ fr)
          rw [upd_ne y1, upd_ne y2]
        · walk_at "rds"
          exact ⟨rfl, kp4, sc4, ⟨xs5, en6, by omega⟩⟩
      · clear en6 ed e5 sc4 kp4
        rintro σ' H5 ⟨rfl, kp5, sc5, no5⟩
        obtain ⟨ddx, das, ed⟩ := (sc5.bd b4 hb4).ex
        have ed' : H5 b'.p = some (.ins (He.ga K "Body") ddx (fBody (.str b4.t.nm) (.int b4.t.kin) (.ref b4.wa) (.int b4.t.fo) (.int b4.t.si) (.int das) (.int b4.t.sp))) := by
          rw [← ep4]
          exact ed
        clear ed
        have f4 : b4.t.fo = b'.t.fo := by rw [eb4]
        have n4 : b4.t.nm = b'.t.nm := by rw [eb4]
        have w4 : b4.t.wn = b'.t.wn := by rw [eb4]
        walk_at "rds"
        refine x_I ?_ ?_
        · exact ⟨by omega, by omega⟩
        walk_at "rds"
        have le0 : b'.t.fo / (b'.t.wn.coming b'.t.si).1 ≤ b'.t.fo := Int.ediv_le_self _ (by have := cok.f1; omega)
        refine ⟨_, ((S.wb bl3)).wb (updB b'.t.nm (fun _ => some { b'.t with si := b'.t.si + 1 }) bl3), N, b4, n, M + 2 * i + 1, b4.t.fo / (b'.t.wn.coming b'.t.si).1 - (b'.t.wn.coming b'.t.si).2, "faded", by rw [ep4]; rfl, sc5, hb4, nb, no5, nog, fun o => on (st4.own o), by omega, by rw [f4, w4]; have := cok.fc; omega, fun S6 H6 kp6 sc6 st6 no6 => ?_⟩
        walk_at "rds"
        refine ⟨⟨_, _, _, _, rfl⟩, S6, kp'.trans (kp5.trans kp6), sc6, (st4.trans st6).cast ?_, no6.le (by omega)⟩
        have ts3 : bl3.map (·.t) = part (ys.take i) waneT (S.bl.map (·.t)) := st'.ts
        rw [snoc, show List.map (fun x => x.t) ((S.wb bl3).wb (updB b'.t.nm (fun _ => some { b'.t with si := b'.t.si + 1 }) bl3)).bl = updT b'.t.nm (fun _ => some { b'.t with si := b'.t.si + 1 }) (bl3.map (·.t)) from updB_t b'.t.nm (fun _ => some { b'.t with si := b'.t.si + 1 }) bl3, n4, ts3]
        refine (updT_two (n := b'.t.nm) (t' := { b'.t with si := b'.t.si + 1 }) rfl _).trans ?_
        refine updT_congr fun u hu e => ?_
        rw [same_ u hu e, f4]
        unfold waneT
        rw [eb4]
    · obtain ⟨⟨o2, o3, o4, o5, rfl⟩, S', kp', sc', st', no'⟩ := h
      have kpG : Kp G H H' := (Kp.same (same_new fp)).trans (kp'.mono fun c g => .inl g)
      have hle : (ys.map V.str).length ≤ 8 := by rw [List.length_map]; omega
      refine q S' H' kpG (sc.shrink sc' kpG st' fun c g => .inl g) (st'.cast ?_) (no'.le (by omega))
      rw [List.length_map, List.take_length, part_all (fun t ht => ?_)]
      · rfl
      · obtain ⟨b, hb, rfl⟩ := List.mem_map.mp ht
        exact hperm.mem_iff.mpr (List.mem_map.mpr ⟨b, hb, rfl⟩)
end
end Wh

/-! ## S5e -/
set_option Elab.async false
set_option linter.all false
set_option maxRecDepth 100000
set_option maxHeartbeats 4000000


namespace Wh
open PySem PySem.Spec PyProof.Rows L2
section
variable {P : Program} {wo : World} {K : PySem.W.Frag} {mg : Str → Option Value} {base : Heap}
/-! ### rooms that hold too much -/
def cnt (i : Int) (L : List T) : Nat := (L.filter fun t => decide (t.sp = i)).length
theorem settle_stop {rooms : Nat} {hold i : Int} {L : List T} (h : ¬ totalL i L > hold) : ∀ m, settle rooms hold i m L = L
  | 0 => rfl
  | m + 1 => by unfold settle; rw [if_neg h]
theorem moveT_nm {rooms : Nat} {i : Int} {t t' : T} (h : moveT rooms i t = some t') : t'.nm = t.nm ∧ t'.wn = t.wn ∧ t'.sp = i + 1 := by
  unfold moveT at h
  split at h
  · cases h
  · rw [← Option.some.inj h]
    exact ⟨rfl, rfl, rfl⟩
theorem cnt_upd {rooms : Nat} {i : Int} : ∀ {L : List T}, Nd L → ∀ {t : T}, t ∈ L → t.sp = i → cnt i (updT t.nm (moveT rooms i) L) + 1 ≤ cnt i L
  | [], _, t, ht, _ => nomatch ht
  | c :: r, nd, t, ht, e => by
    have nd2 := List.nodup_cons.mp (show ((c :: r).map (·.nm)).Nodup from nd)
    unfold cnt updT
    rw [List.filterMap_cons]
    by_cases z : c.nm = t.nm
    · have hc : t = c := by
        rcases List.mem_cons.mp ht with y | y
        · exact y
        · exact absurd (List.mem_map.mpr ⟨t, y, z.symm⟩) nd2.1
      subst hc
      have rest : r.filterMap (fun u => if u.nm = t.nm then moveT rooms i u else some u) = r := by
        refine (fm_congr (g := some) fun u hu => ?_).trans (by simp)
        rw [if_neg fun y => nd2.1 (List.mem_map.mpr ⟨u, hu, y⟩)]
      rw [if_pos rfl, rest]
      cases y : moveT rooms i t with
      | none =>
        simp only
        rw [List.filter_cons, decide_eq_true e]
        simp
      | some t' =>
        simp only
        have := (moveT_nm y).2.2
        rw [List.filter_cons, List.filter_cons, decide_eq_true e, decide_eq_false (by omega : ¬ t'.sp = i)]
        simp
    · rw [if_neg z]
      have ht2 : t ∈ r := by
        rcases List.mem_cons.mp ht with y | y
        · exact absurd (by rw [y]) z
        · exact y
      have ih := cnt_upd (rooms := rooms) (L := r) nd2.2 ht2 e
      unfold cnt updT at ih
      simp only
      rw [List.filter_cons, List.filter_cons]
      by_cases y : c.sp = i
      · simp only [y, decide_true, if_true, List.length_cons]
        omega
      · simp only [y, decide_false, if_false]
        exact ih
theorem cnt_pos {i hold : Int} {L : List T} (h : totalL i L > hold) (h0 : 0 ≤ hold) : L.filter (fun t => decide (t.sp = i)) ≠ [] := by
  intro z
  unfold totalL at h
  rw [z] at h
  simp at h
  omega
def spCrowd (K : PySem.W.Frag) : Sp := fun vs H Q _ => ∃ G S N n M, vs = [.ref S.q, .ref n] ∧ SceneAt K G H S N ∧ N ≤ 1000 ∧ NoAt H n M ∧ ¬ G n ∧ ¬ own S n ∧ M ≤ 900 ∧
  ∀ S' H', Kp G H H' → SceneAt K G H' S' N → Stp S S' (crowdL S.hold (S.bl.map (·.t))) → NoAt H' n (M + 4) → Q .non H'
theorem NoAt.same {H H' : Hp} {n : Addr} {M : Nat} (h : NoAt H n M) (k : Same H H') : NoAt H' n M := by
  obtain ⟨xs, e, l⟩ := h
  exact ⟨xs, k _ _ e, l⟩
theorem NoAt.ne {H : Hp} {n : Addr} {M : Nat} (h : NoAt H n M) : H n ≠ none := by
  obtain ⟨xs, e, l⟩ := h
  rw [e]
  simp
theorem ok_crowd (T : Tx K mg) : FnOk P wo K mg base CX0 2 (He.ga K "crowd") (fdA K (He.ga K "crowd")) ["scene", "notes"] (spCrowd K) := by
  refine okD (F_crowd T) sc_crowd (fun vs H Q E h => ?_) (fun cdv A outer s H vs Q E hr h => ?_)
  · obtain ⟨G, S, N, n, M, rfl, _⟩ := h
    rfl
  · obtain ⟨G, S, N, n, M, rfl, sc, nb, no, gn, on, mb, q⟩ := h
    obtain ⟨dx, e⟩ := sc.ins
    unfold scF at e
    have eho := sc.ho
    have r4 := sc.ok.r4
    refine ⟨_, (pss_one (ps_for PassesOwn.never rfl (pi_range1 rfl (z_range T) (pa_cons (pe_callB (call_len_seqK (K := K)) (by rfl) (z_len T) (by decide +kernel) (pa_cons (pe_fldK (K := K) (pv 0) rfl) pa_nil)) pa_nil)) (pg_name (i := 2) sc_crowd.nd rfl (Or.inr rfl)) (pss_cons (ps_while PassesOwn.never (pt_cmpR op_gt (pe_call (ok_total_of (P := P) (wo := wo) (K := K) T) (hr.mono (by decide)) rfl (g_total_of T) (F_total_of T).kp (b_total_of T) .nil pass0 (pa_cons (pv 0) (pa_cons (pv 2) pa_nil))) (pe_ix (ix_listK (K := K)) (pe_fldK (K := K) (pv 0) rfl) (pv 2) (fun _ _ => rfl)) (nomark _)) (pss_cons (ps_set (i := 3) sc_crowd.nd rfl (Or.inl rfl) (pe_call (ok_weakest (P := P) (wo := wo) (K := K) T) (hr.mono (by decide)) rfl (g_weakest T) (F_weakest T).kp (b_weakest T) .nil pass0 (pa_cons (pe_lock (pe_lc (own := [("one", 4)]) rfl sc_crowd.nd (pi_values (pe_fldK (K := K) (pv 0) rfl)) (blkOk_by (N := ["scene", "notes", "spot", "body", "one"]) (sc := defScope s_crowd) (by decide +kernel)) (fun _ _ _ _ _ => (pg_name (i := 4) sc_crowd.nd rfl (Or.inl rfl))) (fun _ _ _ _ _ => (pts_one (pt_cmpR op_eq (pe_fldK (K := K) (pv 4) rfl) (pv 2) (nomark _)))) (fun _ _ _ _ _ => (pv 4)))) pa_nil)))
 (pss_one (ps_if (pt_cmpR op_eq (pe_op op_add (pv 2) pe_int) (pe_callB (call_len_seqK (K := K)) (by rfl) (z_len T) (by decide +kernel) (pa_cons (pe_fldK (K := K) (pv 0) rfl) pa_nil)) (nomark _)) (pss_one (ps_expr (pe_call (ok_goes (P := P) (wo := wo) (K := K) T) (hr.mono (by decide)) rfl (g_goes T) (F_goes T).kp (b_goes T) .nil pass0 (pa_cons (pv 0) (pa_cons (pv 3) (pa_cons pe_str pa_nil)))))) (pss_cons (ps_fldaug (pv 3) pe_int in_add)
 (pss_one (ps_expr (pe_bm PySem.F.plainAttrs_list PySem.F.slot_list_append PySem.F.type_list_append mt_append (pe_fldK (K := K) (pv 0) rfl) (pa_cons (pe_tup (pa_cons (pe_fldK (K := K) (pv 0) rfl) (pa_cons (pe_fldK (K := K) (pv 3) rfl) (pa_cons pe_str (pa_cons (pe_fldK (K := K) (pv 3) rfl) pa_nil))))) pa_nil)))))))))
 (pss_one (ps_expr (pe_bm PySem.F.plainAttrs_list PySem.F.slot_list_append PySem.F.type_list_append mt_append (pv 1) (pa_cons (pe_tup (pa_cons pe_str (pa_cons pe_str (pa_cons (pe_call (ok_total_of (P := P) (wo := wo) (K := K) T) (hr.mono (by decide)) rfl (g_total_of T) (F_total_of T).kp (b_total_of T) .nil pass0 (pa_cons (pv 0) (pa_cons (pv 2) pa_nil))) (pa_cons (pv 2) pa_nil))))) pa_nil))))))), ?_⟩
    try dsimp only [cxK, cxP, cxW]
    walk_at "rds"
    refine x_lenL (SqL.of eho) ?_
    walk_at "rds"
    rw [List.length_map]
    refine k_iR (by omega) (by omega) ?_
    rw [Int.toNat_natCast]
    clear e eho
    refine k_for (itx_r 0 S.hold.length) (fun i σ' H' => (∃ o2 o3 o4, σ' = [some (.ref S.q), some (.ref n), o2, o3, o4]) ∧
      ∃ S' L', Kp G H H' ∧ SceneAt K G H' S' N ∧ Stp S S' L' ∧ NoAt H' n (M + i) ∧ crowdFrom S.hold i (S.hold.length - i) L' = crowdL S.hold (S.bl.map (·.t))) ?_ (fun _ _ _ _ _ => trivial) (fun i x σ' H' hx h => ?_) (fun σ' H' h => ?_)
    · exact ⟨⟨_, _, _, rfl⟩, S, _, Kp.refl _ _, sc, Stp.refl _, no, rfl⟩
    · obtain ⟨⟨o2, o3, o4, rfl⟩, S1, L1, kp1, sc1, st1, no1, cr1⟩ := h
      obtain ⟨hi, rfl⟩ : i < S.hold.length ∧ x = .int i := by
        rw [List.getElem?_map] at hx
        cases hy : (List.range S.hold.length)[i]? with
        | none => rw [hy] at hx; cases hx
        | some z =>
          have := (List.getElem?_eq_some_iff.mp hy)
          obtain ⟨h1, h2⟩ := this
          rw [List.length_range] at h1
          rw [List.getElem_range] at h2
          rw [hy] at hx
          refine ⟨h1, ?_⟩
          rw [← Option.some.inj hx, ← h2]
          show V.int (0 + (i : Int)) = _
          rw [Int.zero_add]
      have hold : (S.hold.map V.int)[(i : Int).toNat]? = some (.int (S.hold.getD i 0)) := by
        rw [Int.toNat_natCast, List.getElem?_map, List.getD_eq_getElem?_getD, List.getElem?_eq_getElem hi]
        rfl
      have hpos : 1 ≤ S.hold.getD i 0 := by
        rw [List.getD_eq_getElem?_getD, List.getElem?_eq_getElem hi]
        exact sc.ok.rp _ (List.getElem_mem hi)
      walk_at "rds"
      have mL : (S1.bl.map (·.t)).length = L1.length := by rw [st1.ts]
      obtain ⟨hi1, hf1⟩ : S1.hold = S.hold ∧ True := by
        obtain ⟨bl1, rfl⟩ := st1.bl
        exact ⟨rfl, trivial⟩
      refine r_while (fun m σ' H' => (∃ o3 o4, σ' = [some (.ref S.q), some (.ref n), some (.int i), o3, o4]) ∧
        ∃ S2 L2, Kp G H H' ∧ SceneAt K G H' S2 N ∧ Stp S S2 L2 ∧ NoAt H' n (M + i) ∧ cnt i L2 ≤ m ∧ settle S.hold.length (S.hold.getD i 0) i m L2 = settle S.hold.length (S.hold.getD i 0) i L1.length L1) L1.length ⟨⟨_, _, rfl⟩, S1, L1, kp1, sc1, st1, no1, List.length_filter_le _ _, rfl⟩ (fun m σ' H2 h => ?_)
      obtain ⟨⟨o3, o4, rfl⟩, S2, L2, kp2, sc2, st2, no2, cm, se⟩ := h
      obtain ⟨bl2, rfl⟩ := st2.bl
      walk_at "rds"
      refine ⟨G, S.wb bl2, N, i, rfl, sc2, fun H3 sm3 => ?_⟩
      have ts2 : bl2.map (·.t) = L2 := st2.ts
      rw [show (S.wb bl2).bl.map (·.t) = L2 from st2.ts]
      have sc3 := sc2.same sm3
      have no3 := no2.same sm3
      have kp3 : Kp G H H3 := kp2.trans (Kp.same sm3)
      clear sc2 no2 kp2 sm3 H2
      obtain ⟨dx, e⟩ := sc3.ins
      have e' : H3 S.q = some (.ins (He.ga K "Scene") dx (fScene (.int S.mo) (.ref S.ho) (.ref S.pr) (.int 0) (.int 1) (.ref S.bo) (.ref S.ma) (.ref S.da) (.int S.hi) .non (.ref S.ta))) := e
      have eho : H3 S.ho = some (.lst (S.hold.map V.int)) := sc3.ho
      have ebo : H3 S.bo = some (.dK (kvsB bl2)) := sc3.bo
      clear e
      walk_at "rds"
      refine x_ixL (SqL.of eho) (atI_nat (Int.natCast_nonneg i) hold) ?_
      walk_at "rds"
      refine k_wh (fun hc => ?_) (fun hc => ?_)
      · have hgt : totalL i L2 > S.hold.getD i 0 := of_decide_eq_true hc
        walk_at "rds"
        have l8 : bl2.length ≤ 8 := sc3.ok.l8
        have bq : S.q ≠ S.bo := fun z => by rw [z, ebo] at e'; cases e'
        refine r_lockE (d := S.bo) ebo trivial fun od => ?_
        walk_at "rds"
        refine k_iV (o := od) (kvs := kvsB bl2) upd_same ?_
        refine k_lcP (itx_d S.bo od (kvsB bl2)) (pickF bl2 (fun b => decide (b.t.sp = i)) fun b => .ref b.p) (fun H' k => k _ _ upd_same) ?_ (fun v H' N' hv k hN => ?_) (fun D H' _ k eD => ?_)
        · rw [vals_kvsB, List.length_map]; exact sz8 (by omega)
        · rw [vals_kvsB] at hv
          obtain ⟨b, hb, rfl⟩ := List.mem_map.mp hv
          rw [pickF_at (bl := bl2) sc3.ok.np hb] at hN
          obtain ⟨bdx, bas, eb⟩ := bd_read sc3 k hb
          refine el_nameT rfl ?_
          walk_at "rds"
          refine k_elT (fun hc => ?_) (fun hc => ?_)
          · walk_at "rds"
            rw [hc] at hN
            exact hN _ (Same.refl _)
          · rw [hc] at hN
            exact hN _ (Same.refl _)
        refine ⟨k _ _ upd_same, ?_⟩
        have sm4 := same_unlock ebo k
        have hD : D ≠ S.bo := fun z => by
          have := k _ _ (upd_same (H := H3) (a := S.bo) (o := .frz od (.dK (kvsB bl2))))
          rw [← z, eD] at this
          cases this
        rw [vals_kvsB, pick_map (bl := bl2) sc3.ok.np] at eD
        have eD2 := (upd_ne (H := H') (o := .dK (kvsB bl2)) hD).trans eD
        have hne := cnt_pos hgt (by omega)
        rw [← ts2, List.filter_map] at hne
        obtain ⟨x, r, hxr⟩ : ∃ x r, bl2.filter (fun b => decide (b.t.sp = (i : Int))) = x :: r := by
          cases z : bl2.filter (fun b => decide (b.t.sp = (i : Int))) with
          | nil =>
            exact absurd (by
              have : bl2.filter ((fun t : Wh.T => decide (t.sp = (i : Int))) ∘ fun b => b.t) = [] := z
              rw [this]
              rfl) hne
          | cons x r => exact ⟨x, r, rfl⟩
        rw [hxr] at eD2
        have hsub : ∀ b ∈ x :: r, b ∈ bl2 ∧ b.t.sp = i := fun b hb => by
          rw [← hxr] at hb
          obtain ⟨h1, h2⟩ := List.mem_filter.mp hb
          exact ⟨h1, of_decide_eq_true h2⟩
        have sc4 := sc3.same sm4
        walk_at "rds"
        refine ⟨D, x, r, rfl, eD2, ?_, fun b hb => ?_, fun H5 sm5 => ?_⟩
        · have := congrArg List.length hxr
          have h2 := List.length_filter_le (fun b : Bd => decide (b.t.sp = (i : Int))) bl2
          rw [List.length_cons] at this
          omega
        · obtain ⟨h1, h2⟩ := hsub b hb
          obtain ⟨cdx, cas, ec⟩ := (sc4.bd b h1).ex
          exact ⟨cdx, cas, ec⟩
        · have sc5 := sc4.same sm5
          have sm35 := sm4.trans sm5
          have no5 := no3.same sm35
          have kp5 : Kp G H H5 := kp3.trans (Kp.same sm35)
          obtain ⟨hb, hsp⟩ := hsub _ (wB_mem x r)
          have hwk : weakL i L2 = some ((r.foldl wB x).t) := by
            unfold weakL
            rw [← ts2, List.filter_map]
            have : bl2.filter ((fun t : Wh.T => decide (t.sp = (i : Int))) ∘ fun b => b.t) = x :: r := hxr
            rw [this, wB_t]
            rfl
          generalize r.foldl wB x = b at *
          have e5 := sm35 _ _ e'
          have eho5 := sm35 _ _ eho
          obtain ⟨cdx, cas, ec⟩ := (sc5.bd b hb).ex
          have ec' : H5 b.p = some (.ins (He.ga K "Body") cdx (bF b cas)) := ec
          have ec2 : H5 b.p = some (.ins (He.ga K "Body") cdx (fBody (.str b.t.nm) (.int b.t.kin) (.ref b.wa) (.int b.t.fo) (.int b.t.si) (.int cas) (.int b.t.sp))) := ec
          clear ec ec' eD eD2 hxr hsub e' eho k
          have nd2 := nd_bl sc5.ok
          have hmem : b.t ∈ L2 := by rw [← ts2]; exact List.mem_map.mpr ⟨b, hb, rfl⟩
          obtain ⟨m', rfl⟩ : ∃ m', m = m' + 1 := by
            have := cnt_upd (rooms := S.hold.length) (by rw [← ts2]; exact nd2) hmem hsp
            exact ⟨m - 1, by omega⟩
          have cm' : cnt i (updT b.t.nm (moveT S.hold.length i) L2) ≤ m' := by
            have := cnt_upd (rooms := S.hold.length) (by rw [← ts2]; exact nd2) hmem hsp
            omega
          have se' : settle S.hold.length (S.hold.getD i 0) i m' (updT b.t.nm (moveT S.hold.length i) L2) = settle S.hold.length (S.hold.getD i 0) i L1.length L1 := by
            rw [← se]
            conv => rhs; unfold settle
            rw [if_pos hgt, hwk]
            rfl
          walk_at "rds"
          refine x_lenL (SqL.of eho5) ?_
          walk_at "rds"
          rw [List.length_map]
          have rest : ∀ S6 H6, Kp G H5 H6 → SceneAt K G H6 S6 N → Stp (S.wb bl2) S6 (updT b.t.nm (moveT S.hold.length i) L2) → NoAt H6 n (M + i) →
              ∃ S2 L2, Kp G H H6 ∧ SceneAt K G H6 S2 N ∧ Stp S S2 L2 ∧ NoAt H6 n (M + i) ∧ cnt i L2 ≤ m' ∧ settle S.hold.length (S.hold.getD i 0) i m' L2 = settle S.hold.length (S.hold.getD i 0) i L1.length L1 := fun S6 H6 kp6 sc6 st6 no6 =>
            ⟨S6, _, kp5.trans kp6, sc6, st2.trans st6, no6, cm', se'⟩
          refine k_if (fun hc2 => ?_) (fun hc2 => ?_)
          · have hl : (i : Int) + 1 = (S.hold.length : Nat) := of_decide_eq_true hc2
            walk_at "rds"
            refine ⟨_, S.wb bl2, N, b, "crowded", rfl, sc5.gadd (p := n) no5.ne (fun o => on (st2.own o)), hb, nb, fun S6 H6 kp6 sc6 st6 => ?_⟩
            walk_at "rds"
            obtain ⟨xs, en, xl⟩ := no5
            have kp6' : Kp G H5 H6 := kp6.mono fun c g => .inl g
            refine ⟨m', Nat.lt_succ_self _, ⟨_, _, rfl⟩, rest S6 H6 kp6' (sc5.shrink sc6 kp6' st6 fun c g => .inl g) (st6.cast ?_) ⟨xs, kp6.g _ _ (.inr rfl) en, xl⟩⟩
            rw [show (S.wb bl2).bl.map (·.t) = L2 from ts2]
            refine updT_congr fun u _ _ => ?_
            unfold moveT
            rw [if_pos hl]
          · have hl : ¬ (i : Int) + 1 = (S.hold.length : Nat) := of_decide_eq_false hc2
            walk_at "rds"
            refine k_faI (k := 1) ec2 (c_Body T) (n_Body_spot T) rfl rfl (fun Q' z => x_add z) (lnBody (by decide)) ?_
            rw [show putF "spot" (V.int (b.t.sp + 1)) (fBody (.str b.t.nm) (.int b.t.kin) (.ref b.wa) (.int b.t.fo) (.int b.t.si) (.int cas) (.int b.t.sp)) = bF ⟨{ b.t with sp := b.t.sp + 1 }, b.p, b.wa⟩ cas from rfl]
            have cok := (sc5.bd b hb).ok
            have s0 := cok.s0
            have hpos1 := sc5.pos hb
            obtain ⟨sc6, kp6⟩ := sc5.body (dx := cdx) (as := cas) hb (t' := { b.t with sp := b.t.sp + 1 }) rfl rfl ⟨cok.w, cok.k0, cok.k9, by show 0 ≤ b.t.sp + 1; omega, cok.f1, cok.fc, cok.i0⟩ (by show b.t.sp + 1 < (S.hold.length : Nat); omega) (d := 1) (by show 5 - (b.t.sp + 1).toNat + 1 ≤ 5 - b.t.sp.toNat; omega)
            have hpn : b.p ≠ n := fun z => on (st2.own (.inr (.inr (.inr (.inr (.inr ⟨b, hb, z.symm⟩))))))
            have hpq : S.q ≠ b.p := (sc5.ok.nq b hb).symm
            have e6 := (upd_ne (o := .ins (He.ga K "Body") cdx (bF ⟨{ b.t with sp := b.t.sp + 1 }, b.p, b.wa⟩ cas)) hpq).trans e5
            have eb6 : (upd H5 b.p (.ins (He.ga K "Body") cdx (bF ⟨{ b.t with sp := b.t.sp + 1 }, b.p, b.wa⟩ cas))) b.p = some (.ins (He.ga K "Body") cdx (fBody (.str b.t.nm) (.int b.t.kin) (.ref b.wa) (.int b.t.fo) (.int b.t.si) (.int cas) (.int (b.t.sp + 1)))) := upd_same
            obtain ⟨xs, en, xl⟩ := no5
            have en6 := (upd_ne (o := .ins (He.ga K "Body") cdx (bF ⟨{ b.t with sp := b.t.sp + 1 }, b.p, b.wa⟩ cas)) hpn.symm).trans en
            obtain ⟨tl, et, tn⟩ := sc6.ta
            have et6 : (upd H5 b.p (.ins (He.ga K "Body") cdx (bF ⟨{ b.t with sp := b.t.sp + 1 }, b.p, b.wa⟩ cas))) S.ta = some (.lst tl) := et
            have st6 := stp_b (S := S.wb bl2) sc5.ok.nn hb (o := some { b.t with sp := b.t.sp + 1 }) (fun t' z => by rw [← Option.some.inj z]; exact ⟨rfl, rfl⟩)
            clear ec2 e5 et ebo bq
            generalize upd H5 b.p (.ins (He.ga K "Body") cdx (bF ⟨{ b.t with sp := b.t.sp + 1 }, b.p, b.wa⟩ cas)) = H6 at *
            walk_at "rds"
            refine k_bmL et6 ?_
            walk_at "rds"
            intro y fy
            have nta : S.ta ≠ y := ne_of_none et6 fy
            walk_at "rds"
            refine k_append (xs := tl) ((upd_ne nta).trans et6) (Nat.lt_of_le_of_lt (show tl.length ≤ 1000 by omega) (by decide)) ?_
            walk_at "rds"
            have sc7 := sc6.same (same_new (o := .tup [.int S.mo, .str b.t.nm, .str "moved", .int (b.t.sp + 1)]) fy)
            obtain ⟨sc8, kp8⟩ := sc7.told (tl' := tl ++ [.ref y]) (M := N) ((upd_ne nta).trans et6) (by
              rw [List.length_append, List.length_singleton]
              omega)
            have nnta : n ≠ S.ta := fun z => on (.inr (.inr (.inr (.inr (.inl z)))))
            have nny : n ≠ y := ne_of_none en6 fy
            refine ⟨m', Nat.lt_succ_self _, ⟨_, _, rfl⟩, rest _ _ (kp6.trans ((Kp.new fy).trans kp8)) sc8 (st6.cast ?_) ⟨xs, (upd_ne nnta).trans ((upd_ne nny).trans en6), xl⟩⟩
            rw [show (S.wb bl2).bl.map (·.t) = L2 from ts2]
            refine updT_congr fun u hu e => ?_
            rw [nd_uniq (by rw [← ts2]; exact nd2) hu hmem e]
            unfold moveT
            rw [if_neg hl, hsp]
      · have hle := of_decide_eq_false hc
        rw [settle_stop hle] at se
        walk_at "rds"
        obtain ⟨xs, en, xl⟩ := no3
        refine k_bmL en ?_
        walk_at "rds"
        refine ⟨G, S.wb bl2, N, i, rfl, sc3, fun H4 sm4 => ?_⟩
        walk_at "rds"
        have en4 := sm4 _ _ en
        intro r fr
        have nr : n ≠ r := ne_of_none en4 fr
        walk_at "rds"
        refine k_append (xs := xs) ((upd_ne nr).trans en4) (Nat.lt_of_le_of_lt (show xs.length ≤ 1000 by omega) (by decide)) ?_
        walk_at "rds"
        have sc4 := sc3.same sm4
        generalize hH5 : upd (upd H4 r _) n _ = H5
        have kp5 : Kp G H4 H5 := by
          rw [← hH5]
          exact (Kp.new fr).trans (Kp.put gn ((upd_ne nr).trans en4) trivial)
        have sc5 : SceneAt K G H5 (S.wb bl2) N := sc4.frame kp5 fun a o => by
          have y1 : a ≠ n := fun z => on (st2.own (z ▸ o))
          have y2 : a ≠ r := fun z => (sc4.there o) (z ▸ fr)
          rw [← hH5, upd_ne y1, upd_ne y2]
        refine ⟨⟨_, _, _, rfl⟩, _, L2, (kp3.trans (Kp.same sm4)).trans kp5, sc5, st2, ⟨xs ++ [.ref r], by rw [← hH5]; exact upd_same, by rw [List.length_append, List.length_singleton]; omega⟩, ?_⟩
        rw [← cr1, se]
        have : S.hold.length - i = (S.hold.length - (i + 1)) + 1 := by omega
        rw [this]
        rfl
    · obtain ⟨_, S', L', kp', sc', st', no', cr'⟩ := h
      have e3 : ((List.range S.hold.length).map fun (i : Nat) => V.int (0 + (i : Int))).length = S.hold.length := by rw [List.length_map, List.length_range]
      rw [e3] at no' cr'
      refine q S' H' kp' sc' (st'.cast ?_) (no'.le (by omega))
      rw [Nat.sub_self] at cr'
      exact cr'
end
end Wh

/-! ## S5f -/
set_option Elab.async false
set_option linter.all false
set_option maxRecDepth 100000
set_option maxHeartbeats 4000000


namespace Wh
open PySem PySem.Spec PyProof.Rows L2
section
variable {P : Program} {wo : World} {K : PySem.W.Frag} {mg : Str → Option Value} {base : Heap}
/-! ### a turn -/
def spWatched (K : PySem.W.Frag) : Sp := fun vs H Q _ => ∃ G S N, vs = [.ref S.q] ∧ SceneAt K G H S N ∧ Q .non H
theorem ok_watched (T : Tx K mg) : FnOk P wo K mg base CX0 1 (He.ga K "watched") (fdA K (He.ga K "watched")) ["scene"] (spWatched K) := by
  refine okD (F_watched T) sc_watched (fun vs H Q E h => ?_) (fun cdv A outer s H vs Q E hr h => ?_)
  · obtain ⟨G, S, N, rfl, _⟩ := h
    rfl
  · obtain ⟨G, S, N, rfl, sc, q⟩ := h
    obtain ⟨dx, e⟩ := sc.ins
    unfold scF at e
    refine ⟨_, (pss_cons (ps_if (pt_cmp (pc_isN (pe_fldK (K := K) (pv 0) rfl))) (pss_one (ps_ret pe_non)) pss_nil)
 pss_never), ?_⟩
    try dsimp only [cxK, cxP, cxW]
    walk_at "rds"
    exact q
theorem inV_int {h : Int} {hs : List Int} (m : h ∈ hs) : inV (.int h) (hs.map V.int) = true := by
  unfold inV
  rw [List.any_map]
  refine List.any_eq_true.mpr ⟨h, m, ?_⟩
  show eqV (.int h) (.int h) = true
  simp [eqV]
theorem flat_int (hs : List Int) : (hs.map V.int).all flatV = true := by
  rw [List.all_map]
  exact List.all_eq_true.mpr fun x _ => rfl
def turnL (S : Sc) : List T := crowdL S.hold (S.ds.foldl (fun L d => askL S.pres d.2.1 L) (waneL (S.bl.map (·.t))))
def spTurn (K : PySem.W.Frag) : Sp := fun vs H Q _ => ∃ G S N n, vs = [.ref S.q, .ref n] ∧ SceneAt K G H S N ∧ N ≤ 1000 ∧ NoAt H n 0 ∧ ¬ G n ∧ ¬ own S n ∧ (∀ d ∈ S.ds, (S.mo + 1) % 24 ∈ d.2.2) ∧
  ∀ S' H', Kp G H H' → SceneAt K G H' S' N → Stp { S with mo := S.mo + 1 } S' (turnL S) → Q .non H'
theorem Paired.getL {α β : Type} {F : α → β → Prop} : ∀ {xs : List α} {ys : List β}, Paired F xs ys → ∀ (i : Nat) (x : α), xs[i]? = some x → ∃ y, ys[i]? = some y ∧ F x y
  | _, _, .nil, i, y, h => by simp at h
  | _, _, .cons r t, 0, y, h => by
    simp only [List.getElem?_cons_zero, Option.some.injEq] at h
    subst h
    exact ⟨_, rfl, r⟩
  | _, _, .cons r t, i + 1, y, h => by
    simp only [List.getElem?_cons_succ] at h
    obtain ⟨x, hx, f⟩ := Paired.getL t i y h
    exact ⟨x, by simpa using hx, f⟩
theorem ok_one_turn (T : Tx K mg) : FnOk P wo K mg base CX0 4 (He.ga K "one_turn") (fdA K (He.ga K "one_turn")) ["scene", "notes"] (spTurn K) := by
  refine okD (F_one_turn T) sc_one_turn (fun vs H Q E h => ?_) (fun cdv A outer s H vs Q E hr h => ?_)
  · obtain ⟨G, S, N, n, rfl, _⟩ := h
    rfl
  · obtain ⟨G, S, N, n, rfl, sc, nb, no, gn, on, act, q⟩ := h
    obtain ⟨dx, e⟩ := sc.ins
    unfold scF at e
    have d8 := sc.ok.d8
    refine ⟨_, (pss_cons (ps_fldaug (pv 0) pe_int in_add)
 (pss_cons (ps_expr (pe_call (ok_wane_all (P := P) (wo := wo) (K := K) T) (hr.mono (by decide)) rfl (g_wane_all T) (F_wane_all T).kp (b_wane_all T) .nil pass0 (pa_cons (pv 0) (pa_cons (pv 1) pa_nil))))
 (pss_cons (ps_set (i := 2) sc_one_turn.nd rfl (Or.inl rfl) (pe_op op_mod (pe_fldK (K := K) (pv 0) rfl) pe_int))
 (pss_cons (ps_for PassesOwn.never rfl (pi_list (pe_fldK (K := K) (pv 0) rfl)) (pg_tupK (K := K) (n := 3) rfl (pgs_cons (pg_name (i := 3) sc_one_turn.nd rfl (Or.inl rfl)) (pgs_cons (pg_name (i := 4) sc_one_turn.nd rfl (Or.inl rfl)) (pgs_cons (pg_name (i := 5) sc_one_turn.nd rfl (Or.inl rfl)) pgs_nil)))) (pss_one (ps_if (pt_cmpR (op_inK (K := K)) (pv 2) (pv 5) (by rfl)) (pss_one (ps_expr (pe_call (ok_ask_for (P := P) (wo := wo) (K := K) T) (hr.mono (by decide)) rfl (g_ask_for T) (F_ask_for T).kp (b_ask_for T) .nil pass0 (pa_cons (pv 0) (pa_cons (pv 4) (pa_cons (pv 1) pa_nil)))))) pss_nil)))
 (pss_cons (ps_set (i := 4) sc_one_turn.nd rfl (Or.inl rfl) (pe_call (ok_watched (P := P) (wo := wo) (K := K) T) (hr.mono (by decide)) rfl (g_watched T) (F_watched T).kp (b_watched T) .nil pass0 (pa_cons (pv 0) pa_nil)))
 (pss_cons (ps_if (pt_cmp (pc_notN (pv 4))) (pss_one (ps_expr (pe_call (ok_ask_for (P := P) (wo := wo) (K := K) T) (hr.mono (by decide)) rfl (g_ask_for T) (F_ask_for T).kp (b_ask_for T) .nil pass0 (pa_cons (pv 0) (pa_cons (pv 4) (pa_cons (pv 1) pa_nil)))))) pss_nil)
 (pss_one (ps_expr (pe_call (ok_crowd (P := P) (wo := wo) (K := K) T) (hr.mono (by decide)) rfl (g_crowd T) (F_crowd T).kp (b_crowd T) .nil pass0 (pa_cons (pv 0) (pa_cons (pv 1) pa_nil))))))))))), ?_⟩
    try dsimp only [cxK, cxP, cxW]
    walk_at "rds"
    refine k_faI (k := 1) e (c_Scene T) (n_Scene_moment T) rfl rfl (fun Q' z => x_add z) (lnScene (by decide)) ?_
    rw [pScene_moment]
    obtain ⟨sc1, kp1⟩ := sc.own1 (dx := dx) (mo := S.mo + 1) (hi := S.hi) sc.gda sc.n2 sc.da sc.dd sc.ok.d8
    have nq : n ≠ S.q := fun z => on (.inl z)
    obtain ⟨xs, en, xl⟩ := no
    have no1 : NoAt (upd H S.q (.ins (He.ga K "Scene") dx (scF { S with mo := S.mo + 1 }))) n 0 := ⟨xs, (upd_ne nq).trans en, xl⟩
    have on1 : ¬ own { S with mo := S.mo + 1 } n := on
    have kp1' : Kp G H (upd H S.q (.ins (He.ga K "Scene") dx (scF { S with mo := S.mo + 1 }))) := kp1
    have sc1' : SceneAt K G (upd H S.q (.ins (He.ga K "Scene") dx (scF { S with mo := S.mo + 1 }))) { S with mo := S.mo + 1 } N := sc1
    obtain ⟨S1, hS1⟩ : ∃ S1 : Sc, S1 = { S with mo := S.mo + 1 } := ⟨_, rfl⟩
    have q' : ∀ S' H', Kp G H H' → SceneAt K G H' S' N → Stp S1 S' (turnL S) → Q .non H' := by rw [hS1]; exact q
    have hH1 : upd H S.q (.ins (He.ga K "Scene") dx (fScene (.int (S.mo + 1)) (.ref S.ho) (.ref S.pr) (.int 0) (.int 1) (.ref S.bo) (.ref S.ma) (.ref S.da) (.int S.hi) .non (.ref S.ta))) = upd H S.q (.ins (He.ga K "Scene") dx (scF S1)) := by rw [hS1]; rfl
    have hq1 : S.q = S1.q := by rw [hS1]
    have hm1 : S1.mo = S.mo + 1 := by rw [hS1]
    have hd1 : S1.ds = S.ds := by rw [hS1]
    have ht1 : S1.hold = S.hold ∧ S1.pres = S.pres ∧ S1.bl = S.bl := by rw [hS1]; exact ⟨rfl, rfl, rfl⟩
    rw [hH1]
    rw [← hS1] at no1 on1 kp1' sc1'
    clear sc1 kp1 e q en hH1
    generalize upd H S.q (.ins (He.ga K "Scene") dx (scF S1)) = H1 at *
    rw [hq1]
    walk_at "rds"
    refine ⟨G, S1, N, n, 0, rfl, sc1', nb, no1, gn, on1, by omega, fun S2 H2 kp2 sc2 st2 no2 => ?_⟩
    walk_at "rds"
    obtain ⟨bl2, rfl⟩ := st2.bl
    obtain ⟨dx2, e2⟩ := sc2.ins
    have e2' : H2 S1.q = some (.ins (He.ga K "Scene") dx2 (fScene (.int S1.mo) (.ref S1.ho) (.ref S1.pr) (.int 0) (.int 1) (.ref S1.bo) (.ref S1.ma) (.ref S1.da) (.int S1.hi) .non (.ref S1.ta))) := e2
    have ed2 : H2 S1.da = some (.lst (S1.dl.map V.ref)) := sc2.da
    have dd2 : Paired (DoAt K H2) S1.dl S1.ds := sc2.dd
    clear e2
    walk_at "rds"
    refine x_I (by show (0 : Int) < 24; decide) ?_
    walk_at "rds"
    refine k_iL (SqL.of ed2) ?_
    have hl : S1.dl.length = S1.ds.length := Paired.length dd2
    refine k_for (itx_l K S1.da (S1.dl.map V.ref)) (fun i σ' H' => (∃ o3 o4 o5, σ' = [some (.ref S1.q), some (.ref n), some (.int (S1.mo % 24)), o3, o4, o5]) ∧
      ∃ S' L', Kp G H1 H' ∧ SceneAt K G H' S' N ∧ Stp S1 S' L' ∧ NoAt H' n (16 + 9 * i) ∧ L' = (S1.ds.take i).foldl (fun L d => askL S1.pres d.2.1 L) (waneL (S1.bl.map (·.t)))) ?_ (fun i σ' H' _ h => ?_) (fun i x σ' H' hx h => ?_) (fun σ' H' h => ?_)
    · exact ⟨⟨_, _, _, rfl⟩, _, _, kp2, sc2, st2, no2.le (by omega), rfl⟩
    · obtain ⟨_, S', L', _, sc', st', _⟩ := h
      obtain ⟨bl3, rfl⟩ := st'.bl
      exact SqL.of sc'.da
    · obtain ⟨⟨o3, o4, o5, rfl⟩, S3, L3, kp3, sc3, st3, no3, hL3⟩ := h
      obtain ⟨bl3, rfl⟩ := st3.bl
      obtain ⟨a, ha, rfl⟩ : ∃ a, S1.dl[i]? = some a ∧ x = .ref a := by
        rw [List.getElem?_map] at hx
        cases hy : S1.dl[i]? with
        | none => rw [hy] at hx; cases hx
        | some z => rw [hy] at hx; exact ⟨z, rfl, (Option.some.inj hx).symm⟩
      have dd3 : Paired (DoAt K H') S1.dl S1.ds := sc3.dd
      obtain ⟨d, hd, hda⟩ := Paired.getL dd3 i a ha
      obtain ⟨ht, ea, eh⟩ := hda.hours
      have hact : S1.mo % 24 ∈ d.2.2 := by
        rw [hm1]
        exact act d (by rw [← hd1]; exact List.mem_of_getElem? hd)
      have hi : i < S1.ds.length := (List.getElem?_eq_some_iff.mp hd).1
      rw [hd1] at hi
      walk_at "rds"
      refine ⟨ht, _, rfl, (.inr eh), rfl, flat_int _, ?_⟩
      refine x_bT (inV_int hact) ?_
      walk_at "rds"
      refine ⟨G, S1.wb bl3, N, n, 16 + 9 * i, d.2.1, rfl, sc3, nb, no3, gn, fun o => on1 (st3.own o), by omega, fun S4 H4 kp4 sc4 st4 no4 => ?_⟩
      walk_at "rds"
      refine ⟨⟨_, _, _, rfl⟩, S4, _, kp3.trans kp4, sc4, st3.trans st4, no4, ?_⟩
      rw [List.take_add_one, hd, List.foldl_append, ← hL3]
      rw [show (S1.wb bl3).bl.map (·.t) = L3 from st3.ts]
      rfl
    · obtain ⟨⟨o3, o4, o5, rfl⟩, S3, L3, kp3, sc3, st3, no3, hL3⟩ := h
      obtain ⟨bl3, rfl⟩ := st3.bl
      rw [List.length_map, hl] at no3 hL3
      rw [List.take_length] at hL3
      have d9 : S1.ds.length ≤ 8 := by rw [hd1]; exact d8
      walk_at "rds"
      refine ⟨G, S1.wb bl3, N, rfl, sc3, ?_⟩
      walk_at "rds"
      refine ⟨G, S1.wb bl3, N, n, 16 + 9 * S1.ds.length, rfl, sc3, nb, no3, gn, fun o => on1 (st3.own o), by omega, fun S4 H4 kp4 sc4 st4 no4 => ?_⟩
      walk_at "rds"
      refine q' S4 H4 ((kp1'.trans kp3).trans kp4) sc4 ((st3.trans st4).cast ?_)
      rw [show (S1.wb bl3).bl.map (·.t) = L3 from st3.ts, hL3]
      unfold turnL
      rw [show (S1.wb bl3).hold = S1.hold from rfl, ht1.1, ht1.2.1, ht1.2.2, hd1]
/-- some turns: one -/
def spGo (K : PySem.W.Frag) : Sp := fun vs H Q _ => ∃ G S N, vs = [.ref S.q, .int 1] ∧ SceneAt K G H S N ∧ N ≤ 1000 ∧ (∀ d ∈ S.ds, (S.mo + 1) % 24 ∈ d.2.2) ∧
  ∀ S' H', Kp G H H' → SceneAt K G H' S' N → Stp { S with mo := S.mo + 1 } S' (turnL S) → Q .non H'
theorem ok_go_on (T : Tx K mg) : FnOk P wo K mg base CX0 5 (He.ga K "go_on") (fdA K (He.ga K "go_on")) ["scene", "turns"] (spGo K) := by
  refine okD (F_go_on T) sc_go_on (fun vs H Q E h => ?_) (fun cdv A outer s H vs Q E hr h => ?_)
  · obtain ⟨G, S, N, rfl, _⟩ := h
    rfl
  · obtain ⟨G, S, N, rfl, sc, nb, act, q⟩ := h
    refine ⟨_, (pss_cons (ps_while PassesOwn.never (pt_cmpR op_ge (pv 1) pe_int (nomark _)) pss_never)
 (pss_one (ps_for PassesOwn.never rfl (pi_range1 rfl (z_range T) (pa_cons (pv 1) pa_nil)) (pg_name (i := 2) sc_go_on.nd rfl (Or.inl rfl)) (pss_one (ps_expr (pe_call (ok_one_turn (P := P) (wo := wo) (K := K) T) (hr.mono (by decide)) rfl (g_one_turn T) (F_one_turn T).kp (b_one_turn T) .nil pass0 (pa_cons (pv 0) (pa_cons (pe_lst pa_nil) pa_nil)))))))), ?_⟩
    try dsimp only [cxK, cxP, cxW]
    walk_at "rds"
    refine r_while (fun m σ' H' => σ' = [some (.ref S.q), some (.int 1), none] ∧ H' = H) 0 ⟨rfl, rfl⟩ (fun m σ' H' h => ?_)
    obtain ⟨rfl, rfl⟩ := h
    walk_at "rds"
    refine k_wh (fun hc => absurd (of_decide_eq_true hc) (by decide)) (fun _ => ?_)
    walk_at "rds"
    refine k_iR (by decide) (by decide) ?_
    refine k_for (itx_r 0 (Int.toNat 1)) (fun i σ' H2 => (∃ o2, σ' = [some (.ref S.q), some (.int 1), o2]) ∧ (i = 0 → H2 = H') ∧ (i = 1 → Q .non H2)) ⟨⟨_, rfl⟩, fun _ => rfl, (fun z => absurd z (by decide))⟩ (fun _ _ _ _ _ => trivial) (fun i x σ' H2 hx h => ?_) (fun σ' H2 h => ?_)
    · obtain ⟨⟨o2, rfl⟩, h0, _⟩ := h
      have hi : i = 0 := by
        have := (List.getElem?_eq_some_iff.mp hx).1
        rw [List.length_map, List.length_range] at this
        have e1 : Int.toNat 1 = 1 := rfl
        omega
      obtain rfl := h0 hi
      subst hi
      walk_at "rds"
      intro n fn
      walk_at "rds"
      refine ⟨G, S, N, n, rfl, sc.same (same_new fn), nb, ⟨[], upd_same, Nat.le_refl _⟩, sc.dm.fresh fn, fun o => sc.there o fn, act, fun S' H3 kp sc' st => ?_⟩
      walk_at "rds"
      exact ⟨⟨_, rfl⟩, (fun z => absurd z (by decide)), fun _ => q S' H3 ((Kp.new fn).trans kp) sc' st⟩
    · exact h.2.2 rfl
theorem ok_pass_scene (T : Tx K mg) : FnOk P wo K mg base CX0 6 (He.ga K "pass_scene") (fdA K (He.ga K "pass_scene")) ["scene", "turns"] (spGo K) := by
  refine okD (F_pass_scene T) sc_pass_scene (fun vs H Q E h => ?_) (fun cdv A outer s H vs Q E hr h => ?_)
  · obtain ⟨G, S, N, rfl, _⟩ := h
    rfl
  · obtain ⟨G, S, N, rfl, sc, nb, act, q⟩ := h
    obtain ⟨dx, e⟩ := sc.ins
    unfold scF at e
    refine ⟨_, (pss_one (ps_if (pt_cmp (pc_isN (pe_fldK (K := K) (pv 0) rfl))) (pss_one (ps_expr (pe_call (ok_go_on (P := P) (wo := wo) (K := K) T) (hr.mono (by decide)) rfl (g_go_on T) (F_go_on T).kp (b_go_on T) .nil pass0 (pa_cons (pv 0) (pa_cons (pv 1) pa_nil))))) pss_never)), ?_⟩
    try dsimp only [cxK, cxP, cxW]
    walk_at "rds"
    refine ⟨G, S, N, rfl, sc, nb, act, fun S' H' kp sc' st => ?_⟩
    walk_at "rds"
    exact q S' H' kp sc' st
end
end Wh

/-! ## S6a -/
set_option Elab.async false
set_option linter.all false
set_option maxRecDepth 100000
set_option maxHeartbeats 4000000


namespace Wh
open PySem PySem.Spec PyProof.Rows L2
section
variable {P : Program} {wo : World} {K : PySem.W.Frag} {mg : Str → Option Value} {base : Heap}
/-! ### the store -/
structure StO (K : PySem.W.Frag) (G : Addr → Prop) (H : Hp) (p : Addr) (S : Sc) (N : Nat) : Prop where
  ins : ∃ dx, H p = some (.ins (He.ga K "Store") dx (fStore (.ref S.q)))
  g : ¬ G p
  o : ¬ own S p
  sc : SceneAt K G H S N
theorem StO.same {K : PySem.W.Frag} {G : Addr → Prop} {H H' : Hp} {p : Addr} {S : Sc} {N : Nat} (h : StO K G H p S N) (k : Same H H') : StO K G H' p S N := by
  obtain ⟨dx, e⟩ := h.ins
  exact ⟨⟨dx, k _ _ e⟩, h.g, h.o, h.sc.same k⟩
def spBodyOf (K : PySem.W.Frag) : Sp := fun vs H Q _ => ∃ G p S N b, vs = [.ref p, .str b.t.nm] ∧ StO K G H p S N ∧ b ∈ S.bl ∧ NameOk b.t.nm ∧ ∀ H', Same H H' → Q (.ref b.p) H'
theorem ok_Store_body_of (T : Tx K mg) : FnOk P wo K mg base CX0 2 (He.ma K (He.ga K "Store") "body_of") (fdA K (He.ma K (He.ga K "Store") "body_of")) ["self", "name"] (spBodyOf K) := by
  refine okD (F_Store_body_of T) sc_Store_body_of (fun vs H Q E h => ?_) (fun cdv A outer s H vs Q E hr h => ?_)
  · obtain ⟨G, p, S, N, b, rfl, _⟩ := h
    rfl
  · obtain ⟨G, p, S, N, b, rfl, st, hb, nok, q⟩ := h
    refine ⟨_, (pss_cons (ps_if (pt_not (pt_val (pe_call (ok_is_name (P := P) (wo := wo) (K := K) T) (hr.mono (by decide)) rfl (g_is_name T) (F_is_name T).kp (b_is_name T) .nil pass0 (pa_cons (pv 1) pa_nil)))) (pss_one ps_never) pss_nil)
 (pss_cons (ps_if (pt_cmp (pc_dnotin (hu_of hr) (pv 1) (pe_fldK (K := K) (pe_fldK (K := K) (pv 0) rfl) rfl))) (pss_one ps_never) pss_nil)
 (pss_one (ps_ret (pe_dget (hu_of hr) (pe_fldK (K := K) (pe_fldK (K := K) (pv 0) rfl) rfl) (pv 1) (fun _ _ => rfl)))))), ?_⟩
    try dsimp only [cxK, cxP, cxW]
    walk_at "rds"
    refine ⟨_, rfl, nok, fun H1 sm => ?_⟩
    have st1 := st.same sm
    obtain ⟨sdx, es⟩ := st1.ins
    obtain ⟨dx, e⟩ := st1.sc.ins
    unfold scF at e
    have ebo := st1.sc.bo
    walk_at "rds"
    refine k_dn2s (.inl ebo) ?_
    rw [valV_kvsB st1.sc.ok.nn hb]
    walk_at "rds"
    refine k_ifNF ?_
    walk_at "rds"
    refine k_dg2s (.inl ebo) (valV_kvsB st1.sc.ok.nn hb) ?_
    exact q H1 sm
def spNow (K : PySem.W.Frag) : Sp := fun vs H Q _ => ∃ G p S N, vs = [.ref p] ∧ StO K G H p S N ∧ Q (.int S.mo) H
theorem ok_Store_now (T : Tx K mg) : FnOk P wo K mg base CX0 1 (He.ma K (He.ga K "Store") "now") (fdA K (He.ma K (He.ga K "Store") "now")) ["self"] (spNow K) := by
  refine okD (F_Store_now T) sc_Store_now (fun vs H Q E h => ?_) (fun cdv A outer s H vs Q E hr h => ?_)
  · obtain ⟨G, p, S, N, rfl, _⟩ := h
    rfl
  · obtain ⟨G, p, S, N, rfl, st, q⟩ := h
    obtain ⟨sdx, es⟩ := st.ins
    obtain ⟨dx, e⟩ := st.sc.ins
    unfold scF at e
    refine ⟨_, (pss_one (ps_ret (pe_fldK (K := K) (pe_fldK (K := K) (pv 0) rfl) rfl))), ?_⟩
    try dsimp only [cxK, cxP, cxW]
    walk_at "rds"
    exact q
def spMender (K : PySem.W.Frag) : Sp := fun vs H Q _ => ∃ G p S N, vs = [.ref p] ∧ StO K G H p S N ∧ Q .non H
theorem ok_Store_mender (T : Tx K mg) : FnOk P wo K mg base CX0 1 (He.ma K (He.ga K "Store") "mender") (fdA K (He.ma K (He.ga K "Store") "mender")) ["self"] (spMender K) := by
  refine okD (F_Store_mender T) sc_Store_mender (fun vs H Q E h => ?_) (fun cdv A outer s H vs Q E hr h => ?_)
  · obtain ⟨G, p, S, N, rfl, _⟩ := h
    rfl
  · obtain ⟨G, p, S, N, rfl, st, q⟩ := h
    obtain ⟨sdx, es⟩ := st.ins
    obtain ⟨dx, e⟩ := st.sc.ins
    unfold scF at e
    refine ⟨_, (pss_one (ps_ret (pe_fldK (K := K) (pe_fldK (K := K) (pv 0) rfl) rfl))), ?_⟩
    try dsimp only [cxK, cxP, cxW]
    walk_at "rds"
    exact q
def spAskers (K : PySem.W.Frag) : Sp := fun vs H Q _ => ∃ G p S N, vs = [.ref p] ∧ StO K G H p S N ∧ ∀ l H', Same H H' → H' l = some (.lst (S.dl.map V.ref)) → Q (.ref l) H'
theorem ok_Store_askers (T : Tx K mg) : FnOk P wo K mg base CX0 1 (He.ma K (He.ga K "Store") "askers") (fdA K (He.ma K (He.ga K "Store") "askers")) ["self"] (spAskers K) := by
  refine okD (F_Store_askers T) sc_Store_askers (fun vs H Q E h => ?_) (fun cdv A outer s H vs Q E hr h => ?_)
  · obtain ⟨G, p, S, N, rfl, _⟩ := h
    rfl
  · obtain ⟨G, p, S, N, rfl, st, q⟩ := h
    obtain ⟨sdx, es⟩ := st.ins
    obtain ⟨dx, e⟩ := st.sc.ins
    unfold scF at e
    refine ⟨_, (pss_one (ps_ret (pe_callTy call_list_of (by rfl) (z_list T) (by decide +kernel) (pa_cons (pe_fldK (K := K) (pe_fldK (K := K) (pv 0) rfl) rfl) pa_nil)))), ?_⟩
    try dsimp only [cxK, cxP, cxW]
    walk_at "rds"
    refine ⟨S.da, _, rfl, .inl (SqL.of st.sc.da), fun l fl => ?_⟩
    exact q l _ (same_new fl) upd_same
def spThere (K : PySem.W.Frag) : Sp := fun vs H Q _ => ∃ G p S N, vs = [.ref p] ∧ StO K G H p S N ∧ ∀ l H', H l = none → Same H H' → H' l = some (.lst ((sortS (S.bl.map (·.t.nm))).map V.str)) → Q (.ref l) H'
theorem ok_Store_there (T : Tx K mg) : FnOk P wo K mg base CX0 1 (He.ma K (He.ga K "Store") "there") (fdA K (He.ma K (He.ga K "Store") "there")) ["self"] (spThere K) := by
  refine okD (F_Store_there T) sc_Store_there (fun vs H Q E h => ?_) (fun cdv A outer s H vs Q E hr h => ?_)
  · obtain ⟨G, p, S, N, rfl, _⟩ := h
    rfl
  · obtain ⟨G, p, S, N, rfl, st, q⟩ := h
    obtain ⟨sdx, es⟩ := st.ins
    obtain ⟨dx, e⟩ := st.sc.ins
    have l8 := st.sc.ok.l8
    unfold scF at e
    refine ⟨_, (pss_one (ps_ret (pe_callB (call_sortedD rfl) (by rfl) (z_sorted T) (by decide +kernel) (pa_cons (pe_fldK (K := K) (pe_fldK (K := K) (pv 0) rfl) rfl) pa_nil)))), ?_⟩
    try dsimp only [cxK, cxP, cxW]
    walk_at "rds"
    refine ⟨S.bo, kvsB S.bl, S.bl.map (·.t.nm), rfl, .inl st.sc.bo, keys_kvsB _, by rw [List.length_map]; omega, fun ys l hperm hsort fl => ?_⟩
    rw [sorted_eq hperm hsort]
    exact q l _ fl (same_new fl) upd_same
def spThing (K : PySem.W.Frag) : Sp := fun vs H Q _ => ∃ G p S N b, vs = [.ref p, .str b.t.nm] ∧ StO K G H p S N ∧ b ∈ S.bl ∧ NameOk b.t.nm ∧
  ∀ r H' (as : Int), Same H H' → H' r = some (.tup [.int b.t.sp, .int b.t.kin, .int b.t.fo, .int b.t.si, .int as]) → Q (.ref r) H'
theorem ok_Store_thing (T : Tx K mg) : FnOk P wo K mg base CX0 3 (He.ma K (He.ga K "Store") "thing") (fdA K (He.ma K (He.ga K "Store") "thing")) ["self", "name"] (spThing K) := by
  refine okD (F_Store_thing T) sc_Store_thing (fun vs H Q E h => ?_) (fun cdv A outer s H vs Q E hr h => ?_)
  · obtain ⟨G, p, S, N, b, rfl, _⟩ := h
    rfl
  · obtain ⟨G, p, S, N, b, rfl, st, hb, nok, q⟩ := h
    obtain ⟨sdx, es⟩ := st.ins
    refine ⟨_, (pss_cons (ps_set (i := 2) sc_Store_thing.nd rfl (Or.inl rfl) (pe_meth (pv 0) (c_Store (K := K) T) (m_Store_body_of (K := K) T) (ok_Store_body_of (P := P) (wo := wo) (K := K) T) (hr.mono (by decide)) (b_Store_body_of T) .nil pass0 (pa_cons (pv 1) pa_nil)))
 (pss_one (ps_ret (pe_tup (pa_cons (pe_fldK (K := K) (pv 2) rfl) (pa_cons (pe_fldK (K := K) (pv 2) rfl) (pa_cons (pe_fldK (K := K) (pv 2) rfl) (pa_cons (pe_fldK (K := K) (pv 2) rfl) (pa_cons (pe_fldK (K := K) (pv 2) rfl) pa_nil))))))))), ?_⟩
    try dsimp only [cxK, cxP, cxW]
    walk_at "rds"
    refine ⟨G, p, S, N, b, rfl, st, hb, nok, fun H1 sm => ?_⟩
    obtain ⟨bdx, bas, eb⟩ := ((st.same sm).sc.bd b hb).ex
    unfold bF at eb
    walk_at "rds"
    intro r fr
    exact q r _ bas (sm.trans (same_new fr)) upd_same
def spWaneOf (K : PySem.W.Frag) : Sp := fun vs H Q _ => ∃ G p S N b, vs = [.ref p, .str b.t.nm] ∧ StO K G H p S N ∧ b ∈ S.bl ∧ NameOk b.t.nm ∧ ∀ H', Same H H' → Q (.ref b.wa) H'
theorem ok_Store_wane_of (T : Tx K mg) : FnOk P wo K mg base CX0 3 (He.ma K (He.ga K "Store") "wane_of") (fdA K (He.ma K (He.ga K "Store") "wane_of")) ["self", "name"] (spWaneOf K) := by
  refine okD (F_Store_wane_of T) sc_Store_wane_of (fun vs H Q E h => ?_) (fun cdv A outer s H vs Q E hr h => ?_)
  · obtain ⟨G, p, S, N, b, rfl, _⟩ := h
    rfl
  · obtain ⟨G, p, S, N, b, rfl, st, hb, nok, q⟩ := h
    obtain ⟨sdx, es⟩ := st.ins
    refine ⟨_, (pss_one (ps_ret (pe_fldK (K := K) (pe_meth (pv 0) (c_Store (K := K) T) (m_Store_body_of (K := K) T) (ok_Store_body_of (P := P) (wo := wo) (K := K) T) (hr.mono (by decide)) (b_Store_body_of T) .nil pass0 (pa_cons (pv 1) pa_nil)) rfl))), ?_⟩
    try dsimp only [cxK, cxP, cxW]
    walk_at "rds"
    refine ⟨G, p, S, N, b, rfl, st, hb, nok, fun H1 sm => ?_⟩
    obtain ⟨bdx, bas, eb⟩ := ((st.same sm).sc.bd b hb).ex
    unfold bF at eb
    walk_at "rds"
    exact q H1 sm
def spSState (K : PySem.W.Frag) : Sp := fun vs H Q _ => ∃ G p S N, vs = [.ref p] ∧ StO K G H p S N ∧ ∀ a H', Same H H' → StAt H' a (stL (S.bl.map (·.t))) → Q (.ref a) H'
theorem ok_Store_state (T : Tx K mg) : FnOk P wo K mg base CX0 3 (He.ma K (He.ga K "Store") "state") (fdA K (He.ma K (He.ga K "Store") "state")) ["self"] (spSState K) := by
  refine okD (F_Store_state T) sc_Store_state (fun vs H Q E h => ?_) (fun cdv A outer s H vs Q E hr h => ?_)
  · obtain ⟨G, p, S, N, rfl, _⟩ := h
    rfl
  · obtain ⟨G, p, S, N, rfl, st, q⟩ := h
    obtain ⟨sdx, es⟩ := st.ins
    obtain ⟨dx, e⟩ := st.sc.ins
    unfold scF at e
    refine ⟨_, (pss_one (ps_ret (pe_meth0 (pe_fldK (K := K) (pv 0) rfl) (c_Scene (K := K) T) (m_Scene_state (K := K) T) (ok_Scene_state (P := P) (wo := wo) (K := K) T) (hr.mono (by decide)) (b_Scene_state T) .nil pass0))), ?_⟩
    try dsimp only [cxK, cxP, cxW]
    walk_at "rds"
    exact ⟨G, S, N, rfl, st.sc, fun a H' _ sm sa => q a H' sm sa⟩
theorem shrink2 {K : PySem.W.Frag} {G G' : Addr → Prop} {H H' : Hp} {S S' : Sc} {N N' : Nat} {L : List T} {mo : Int} (h0 : SceneAt K G H S N) (h : SceneAt K G' H' S' N') (k : Kp G H H') (s : Stp { S with mo := mo } S' L) (i : ∀ a, G a → G' a) : SceneAt K G H' S' N' := by
  obtain ⟨bl', rfl⟩ := s.bl
  exact ⟨h0.dm.kp k, h.ins, h0.gq, h0.gbo, h0.gma, h0.gda, h0.gta, h0.gho, h0.gpr, h.ho, h.pr, h.bo, h.ma, h.da, h.dd, h.ta, fun b hb => by
    obtain ⟨c, hc, e1, e2, e3, _⟩ := s.from_ b hb
    refine ⟨(h.bd b hb).ex, ?_, ?_, (h.bd b hb).ok⟩
    · rw [← e1]; exact (h0.bd c hc).g
    · have := (h0.bd c hc).w.kp k
      rw [e2, e3] at this
      exact this, h.n1, h.n2, h.ok⟩
def spPass (K : PySem.W.Frag) : Sp := fun vs H Q _ => ∃ G p S N, vs = [.ref p, .int 1] ∧ StO K G H p S N ∧ N ≤ 1000 ∧ (∀ d ∈ S.ds, (S.mo + 1) % 24 ∈ d.2.2) ∧
  ∀ S' H', Kp G H H' → StO K G H' p S' N → Stp { S with mo := S.mo + 1 } S' (turnL S) → Q .non H'
theorem ok_Store_pass_on (T : Tx K mg) : FnOk P wo K mg base CX0 7 (He.ma K (He.ga K "Store") "pass_on") (fdA K (He.ma K (He.ga K "Store") "pass_on")) ["self", "turns"] (spPass K) := by
  refine okD (F_Store_pass_on T) sc_Store_pass_on (fun vs H Q E h => ?_) (fun cdv A outer s H vs Q E hr h => ?_)
  · obtain ⟨G, p, S, N, rfl, _⟩ := h
    rfl
  · obtain ⟨G, p, S, N, rfl, st, nb, act, q⟩ := h
    obtain ⟨sdx, es⟩ := st.ins
    obtain ⟨dx, e⟩ := st.sc.ins
    unfold scF at e
    refine ⟨_, (pss_cons (ps_if (pt_not (pt_val (pe_call (ok_is_moment (P := P) (wo := wo) (K := K) T) (hr.mono (by decide)) rfl (g_is_moment T) (F_is_moment T).kp (b_is_moment T) .nil pass0 (pa_cons (pv 1) pa_nil)))) (pss_one ps_never) pss_nil)
 (pss_cons (ps_if (PW.pt (pw_and (pt_cmpR op_lt (pv 1) pe_int (nomark _)) (pw_and1 (pt_cmp (pc_isN (pe_fldK (K := K) (pe_fldK (K := K) (pv 0) rfl) rfl)))))) (pss_cons (ps_expr (pe_call (ok_pass_scene (P := P) (wo := wo) (K := K) T) (hr.mono (by decide)) rfl (g_pass_scene T) (F_pass_scene T).kp (b_pass_scene T) .nil pass0 (pa_cons (pe_fldK (K := K) (pv 0) rfl) (pa_cons (pv 1) pa_nil))))
 (pss_one ps_retN)) pss_nil)
 (pss_cons (ps_set (i := 2) sc_Store_pass_on.nd rfl (Or.inl rfl) (pe_meth0 (pe_fldK (K := K) (pv 0) rfl) (c_Scene (K := K) T) (m_Scene_twin (K := K) T) (ok_Scene_twin (P := P) (wo := wo) (K := K) T) (hr.mono (by decide)) (b_Scene_twin T) .nil pass0))
 (pss_cons (ps_expr (pe_call (ok_pass_scene (P := P) (wo := wo) (K := K) T) (hr.mono (by decide)) rfl (g_pass_scene T) (F_pass_scene T).kp (b_pass_scene T) .nil pass0 (pa_cons (pv 2) (pa_cons (pv 1) pa_nil))))
 (pss_one (ps_fld (pv 0) (pv 2) rfl)))))), ?_⟩
    try dsimp only [cxK, cxP, cxW]
    walk_at "rds"
    refine ⟨1, rfl, by decide, by decide, ?_⟩
    walk_at "rds"
    rw [show decide ((1 : Int) < 48) = true from rfl]
    walk_at "rds"
    refine ⟨_, S, N, rfl, st.sc.gadd (p := p) (by rw [es]; simp) st.o, nb, act, fun S' H' kp sc' stp => ?_⟩
    walk_at "rds"
    have kpG : Kp G H H' := kp.mono fun c g => .inl g
    have hq : S'.q = S.q := by
      obtain ⟨bl', rfl⟩ := stp.bl
      rfl
    exact q S' H' kpG ⟨⟨sdx, by rw [hq]; exact kp.g _ _ (.inr rfl) es⟩, st.g, fun o => st.o (stp.own o), shrink2 st.sc sc' kpG stp fun c g => .inl g⟩ stp
/-- an asker more -/
def spHire (K : PySem.W.Frag) : Sp := fun vs H Q _ => ∃ G p S N nm ht hs, vs = [.ref p, .str nm, .ref ht] ∧ StO K G H p S N ∧ S.ds = [] ∧ NameOk nm ∧ (H ht = some (.tup (hs.map V.int)) ∨ ∀ H0, SqT K H0 ht (hs.map V.int)) ∧ HoursOk hs ∧
  ∀ S' H', Kp G H H' → StO K G H' p S' N → S' = { S with hi := S.hi + 1, dl := S'.dl, ds := [(S.hi + 1, nm, hs)] } → Q (.int (S.hi + 1)) H'
theorem StO.put {K : PySem.W.Frag} {G : Addr → Prop} {H H' : Hp} {p : Addr} {S S' : Sc} {N N' : Nat} (h : StO K G H p S N) (k : H' p = H p) (hq : S'.q = S.q) (ho : ∀ a, own S' a → a = p → False) (sc : SceneAt K G H' S' N') : StO K G H' p S' N' := by
  obtain ⟨dx, e⟩ := h.ins
  exact ⟨⟨dx, by rw [k, hq]; exact e⟩, h.g, fun o => ho p o rfl, sc⟩
end
end Wh

/-! ## S6b -/
set_option Elab.async false
set_option linter.all false
set_option maxRecDepth 100000
set_option maxHeartbeats 4000000


namespace Wh
open PySem PySem.Spec PyProof.Rows L2
section
variable {P : Program} {wo : World} {K : PySem.W.Frag} {mg : Str → Option Value} {base : Heap}
/-! ### askers come and go -/
theorem SceneAt.doers {K : PySem.W.Frag} {G : Addr → Prop} {H : Hp} {S : Sc} {N : Nat} (h : SceneAt K G H S N) {dl : List Addr} {ds : List Doer} (dd : Paired (DoAt K H) dl ds) (d8 : ds.length ≤ 8) :
    SceneAt K G (upd H S.da (.lst (dl.map V.ref))) { S with dl := dl, ds := ds } N ∧ Kp G H (upd H S.da (.lst (dl.map V.ref))) := by
  have kp : Kp G H (upd H S.da (.lst (dl.map V.ref))) := Kp.put h.gda h.da trivial
  have ne : ∀ {c o}, H c = some o → (∀ kv, o = .lst kv → False) → c ≠ S.da := fun {c o} hc no z => by
    rw [z, h.da] at hc
    cases hc
    exact no _ rfl
  obtain ⟨qdx, eq⟩ := h.ins
  obtain ⟨tl, et, tn⟩ := h.ta
  have nho : S.ho ≠ S.da := fun z => h.gda (z ▸ h.gho)
  have npr : S.pr ≠ S.da := fun z => h.gda (z ▸ h.gpr)
  have o := h.ok
  exact ⟨⟨h.dm.kp kp, ⟨qdx, (upd_ne (ne eq (fun _ z => by cases z))).trans eq⟩, h.gq, h.gbo, h.gma, h.gda, h.gta, h.gho, h.gpr, (upd_ne nho).trans h.ho, (upd_ne npr).trans h.pr,
    (upd_ne (ne h.bo (fun _ z => by cases z))).trans h.bo, (upd_ne (ne h.ma (fun _ z => by cases z))).trans h.ma, upd_same, Paired.mapP dd fun a d z => z.tups kp.t, ⟨tl, (upd_ne h.n2.symm).trans et, tn⟩, fun c hc => by
      obtain ⟨cdx, cas, ec⟩ := (h.bd c hc).ex
      exact ⟨⟨cdx, cas, (upd_ne (ne ec (fun _ z => by cases z))).trans ec⟩, (h.bd c hc).g, (h.bd c hc).w.kp kp, (h.bd c hc).ok⟩, h.n1, h.n2, ⟨o.r1, o.r4, o.rp, o.p10, d8, o.l8, o.sp, o.nn, o.np, o.nq⟩⟩, kp⟩
theorem own_q {S : Sc} : own S S.q := .inl rfl
theorem own_da {S : Sc} : own S S.da := .inr (.inr (.inr (.inl rfl)))
theorem ok_Store_hire (T : Tx K mg) : FnOk P wo K mg base CX0 4 (He.ma K (He.ga K "Store") "hire") (fdA K (He.ma K (He.ga K "Store") "hire")) ["self", "name", "hours"] (spHire K) := by
  refine okD (F_Store_hire T) sc_Store_hire (fun vs H Q E h => ?_) (fun cdv A outer s H vs Q E hr h => ?_)
  · obtain ⟨G, p, S, N, nm, ht, hs, rfl, _⟩ := h
    rfl
  · obtain ⟨G, p, S, N, nm, ht, hs, rfl, st, hds, nok, hht, hok, q⟩ := h
    refine ⟨_, (pss_cons (ps_if (pt_not (pt_val (pe_call (ok_is_name (P := P) (wo := wo) (K := K) T) (hr.mono (by decide)) rfl (g_is_name T) (F_is_name T).kp (b_is_name T) .nil pass0 (pa_cons (pv 1) pa_nil)))) (pss_one ps_never) pss_nil)
 (pss_cons (ps_if (pt_not (pt_val (pe_call (ok_are_hours (P := P) (wo := wo) (K := K) T) (hr.mono (by decide)) rfl (g_are_hours T) (F_are_hours T).kp (b_are_hours T) .nil pass0 (pa_cons (pv 2) pa_nil)))) (pss_one ps_never) pss_nil)
 (pss_cons (ps_if (pt_cmpR op_eq (pe_callB (call_len_seqK (K := K)) (by rfl) (z_len T) (by decide +kernel) (pa_cons (pe_fldK (K := K) (pe_fldK (K := K) (pv 0) rfl) rfl) pa_nil)) (pe_globI (by rfl) (i_MOST T)) (nomark _)) (pss_one ps_never) pss_nil)
 (pss_cons (ps_fldaug (pe_fldK (K := K) (pv 0) rfl) pe_int in_add)
 (pss_cons (ps_expr (pe_bm PySem.F.plainAttrs_list PySem.F.slot_list_append PySem.F.type_list_append mt_append (pe_fldK (K := K) (pe_fldK (K := K) (pv 0) rfl) rfl) (pa_cons (pe_tup (pa_cons (pe_fldK (K := K) (pe_fldK (K := K) (pv 0) rfl) rfl) (pa_cons (pv 1) (pa_cons (pv 2) pa_nil)))) pa_nil)))
 (pss_one (ps_ret (pe_fldK (K := K) (pe_fldK (K := K) (pv 0) rfl) rfl)))))))), ?_⟩
    try dsimp only [cxK, cxP, cxW]
    walk_at "rds"
    refine ⟨nm, rfl, nok, fun H1 sm1 => ?_⟩
    walk_at "rds"
    have sqt : SqT K H1 ht (hs.map V.int) := by
      rcases hht with e | e
      · exact SqT.of (sm1 _ _ e)
      · exact e H1
    refine ⟨ht, hs, rfl, sqt, hok, fun H2 sm2 => ?_⟩
    have sm := sm1.trans sm2
    have st2 := st.same sm
    have hht2 : H2 ht = some (.tup (hs.map V.int)) ∨ ∀ H0, SqT K H0 ht (hs.map V.int) := hht.elim (fun e => .inl (sm _ _ e)) .inr
    obtain ⟨sdx, es⟩ := st2.ins
    obtain ⟨dx, e⟩ := st2.sc.ins
    have sc := st2.sc
    have ed := sc.da
    have hdl : S.dl = [] := by
      have := Paired.length sc.dd
      rw [hds] at this
      exact List.length_eq_zero_iff.mp this
    rw [hdl] at ed
    unfold scF at e
    walk_at "rds"
    refine x_lenL (SqL.of ed) ?_
    walk_at "rds"
    refine k_if (fun hc => absurd (of_decide_eq_true hc) (by simp)) (fun _ => ?_)
    walk_at "rds"
    refine k_faI (k := 1) e (c_Scene T) (n_Scene_hired T) rfl rfl (fun Q' z => x_add z) (lnScene (by decide)) ?_
    rw [pScene_hired]
    have kp2 : Kp G H H2 := Kp.same sm
    obtain ⟨sc1, kp1⟩ := sc.own1 (dx := dx) (mo := S.mo) (hi := S.hi + 1) sc.gda sc.n2 sc.da sc.dd sc.ok.d8
    have pq : p ≠ S.q := fun z => st.o (z ▸ own_q)
    have pda : p ≠ S.da := fun z => st.o (z ▸ own_da)
    have nqd : S.da ≠ S.q := fun z => by rw [z, e] at ed; cases ed
    have es1 := (upd_ne (o := .ins (He.ga K "Scene") dx (fScene (.int S.mo) (.ref S.ho) (.ref S.pr) (.int 0) (.int 1) (.ref S.bo) (.ref S.ma) (.ref S.da) (.int (S.hi + 1)) .non (.ref S.ta))) pq).trans es
    have e1 : (upd H2 S.q (.ins (He.ga K "Scene") dx (fScene (.int S.mo) (.ref S.ho) (.ref S.pr) (.int 0) (.int 1) (.ref S.bo) (.ref S.ma) (.ref S.da) (.int (S.hi + 1)) .non (.ref S.ta)))) S.q = _ := upd_same
    have ed1 := (upd_ne (o := .ins (He.ga K "Scene") dx (fScene (.int S.mo) (.ref S.ho) (.ref S.pr) (.int 0) (.int 1) (.ref S.bo) (.ref S.ma) (.ref S.da) (.int (S.hi + 1)) .non (.ref S.ta))) nqd).trans ed
    have sc1' : SceneAt K G (upd H2 S.q (.ins (He.ga K "Scene") dx (fScene (.int S.mo) (.ref S.ho) (.ref S.pr) (.int 0) (.int 1) (.ref S.bo) (.ref S.ma) (.ref S.da) (.int (S.hi + 1)) .non (.ref S.ta)))) { S with hi := S.hi + 1 } N := sc1
    have kp1' : Kp G H2 (upd H2 S.q (.ins (He.ga K "Scene") dx (fScene (.int S.mo) (.ref S.ho) (.ref S.pr) (.int 0) (.int 1) (.ref S.bo) (.ref S.ma) (.ref S.da) (.int (S.hi + 1)) .non (.ref S.ta)))) := kp1
    have hht3 : (upd H2 S.q (.ins (He.ga K "Scene") dx (fScene (.int S.mo) (.ref S.ho) (.ref S.pr) (.int 0) (.int 1) (.ref S.bo) (.ref S.ma) (.ref S.da) (.int (S.hi + 1)) .non (.ref S.ta)))) ht = some (.tup (hs.map V.int)) ∨ ∀ H0, SqT K H0 ht (hs.map V.int) := hht2.elim (fun z => .inl (kp1'.t _ _ z)) .inr
    clear sc1 kp1 es e ed hht2 sqt
    generalize upd H2 S.q (.ins (He.ga K "Scene") dx (fScene (.int S.mo) (.ref S.ho) (.ref S.pr) (.int 0) (.int 1) (.ref S.bo) (.ref S.ma) (.ref S.da) (.int (S.hi + 1)) .non (.ref S.ta))) = H3 at *
    walk_at "rds"
    refine k_bmL ed1 ?_
    walk_at "rds"
    intro r fr
    have n1 : S.da ≠ r := ne_of_none ed1 fr
    walk_at "rds"
    refine k_append (xs := []) ((upd_ne n1).trans ed1) (by decide) ?_
    have sc2 := sc1'.same (same_new (o := .tup [.int (S.hi + 1), .str nm, .ref ht]) fr)
    obtain ⟨sc3, kp3⟩ := sc2.doers (dl := [r]) (ds := [(S.hi + 1, nm, hs)]) (.cons ⟨ht, upd_same, hht3.elim (fun z => .inl (same_new fr _ _ z)) .inr⟩ .nil) (by show 1 ≤ 8; decide)
    have n2 : S.q ≠ r := ne_of_none e1 fr
    have n3 : p ≠ r := ne_of_none es1 fr
    have n4 : S.q ≠ S.da := nqd.symm
    walk_at "rds"
    refine q { S with hi := S.hi + 1, dl := [r], ds := [(S.hi + 1, nm, hs)] } _ (kp2.trans (kp1'.trans ((Kp.new fr).trans kp3))) ⟨⟨sdx, ?_⟩, st.g, st.o, sc3⟩ rfl
    exact (upd_ne pda).trans ((upd_ne n3).trans es1)
/-- an asker less -/
def spDismiss (K : PySem.W.Frag) : Sp := fun vs H Q _ => ∃ G p S N d, vs = [.ref p, .int d.1] ∧ StO K G H p S N ∧ S.ds = [d] ∧
  ∀ S' H', Kp G H H' → StO K G H' p S' N → (S' = { S with da := S'.da, dl := [], ds := [] }) → H S'.da = none → Q .non H'
theorem ok_Store_dismiss (T : Tx K mg) : FnOk P wo K mg base CX0 2 (He.ma K (He.ga K "Store") "dismiss") (fdA K (He.ma K (He.ga K "Store") "dismiss")) ["self", "number"] (spDismiss K) := by
  refine okD (F_Store_dismiss T) sc_Store_dismiss (fun vs H Q E h => ?_) (fun cdv A outer s H vs Q E hr h => ?_)
  · obtain ⟨G, p, S, N, d, rfl, _⟩ := h
    rfl
  · obtain ⟨G, p, S, N, d, rfl, st, hds, q⟩ := h
    obtain ⟨sdx, es⟩ := st.ins
    have sc := st.sc
    obtain ⟨dx, e⟩ := sc.ins
    unfold scF at e
    have ed := sc.da
    have dd := sc.dd
    rw [hds] at dd
    obtain ⟨a, hdl, ht, ea, eh⟩ : ∃ a, S.dl = [a] ∧ DoAt K H a d := by
      have hl : S.dl.length = 1 := Paired.length dd
      obtain ⟨a, ha⟩ : ∃ a, S.dl = [a] := by
        match S.dl, hl with
        | [a], _ => exact ⟨a, rfl⟩
      rw [ha] at dd
      cases dd with
      | cons r _ => exact ⟨a, ha, r⟩
    rw [hdl] at ed
    refine ⟨_, (pss_cons (ps_setLc (i := 2) (own := [("doer", 3)]) rfl sc_Store_dismiss.nd rfl rfl (sw_true rfl rfl rfl (by decide +kernel)) (pi_list (pe_fldK (K := K) (pe_fldK (K := K) (pv 0) rfl) rfl)) (blkOk_by (N := ["self", "number", "kept", "doer"]) (sc := defScope s_Store_dismiss) (by decide +kernel)) (fun _ _ _ _ _ => (pg_name (i := 3) sc_Store_dismiss.nd rfl (Or.inl rfl))) (fun _ _ _ _ _ => (pts_one (PW.pt (pw_or (pt_not (pt_val (pe_call (ok_is_whole (P := P) (wo := wo) (K := K) T) (hr.mono (by decide)) rfl (g_is_whole T) (F_is_whole T).kp (b_is_whole T) .nil pass0 (pa_cons (pv 1) pa_nil)))) (pw_or1 (pt_cmpR op_ne (pe_ix (ix_tupK (K := K)) (pv 3) pe_int (fun _ _ => rfl)) (pv 1) (nomark _))))))) (fun _ _ _ _ _ => (pv 3)))
 (pss_cons (ps_if (pt_cmpR op_eq (pe_callB (call_len_seqK (K := K)) (by rfl) (z_len T) (by decide +kernel) (pa_cons (pv 2) pa_nil)) (pe_callB (call_len_seqK (K := K)) (by rfl) (z_len T) (by decide +kernel) (pa_cons (pe_fldK (K := K) (pe_fldK (K := K) (pv 0) rfl) rfl) pa_nil)) (nomark _)) (pss_one ps_never) pss_nil)
 (pss_one (ps_fld (pe_fldK (K := K) (pv 0) rfl) (pv 2) rfl)))), ?_⟩
    try dsimp only [cxK, cxP, cxW]
    walk_at "rds"
    refine k_iL (SqL.of ed) ?_
    refine k_lcP (itx_l K S.da ([a].map V.ref)) (fun _ => none) (fun H' k => SqL.of (k _ _ ed)) (by show 1 < sizeLine; decide) (fun v H' N' hv k hN => ?_) (fun D H' fD k eD => ?_)
    · obtain rfl : v = .ref a := by simpa using hv
      refine el_nameT rfl ?_
      walk_at "rds"
      refine ⟨d.1, rfl, ?_⟩
      walk_at "rds"
      refine x_ixT (SqT.of (k _ _ ea)) (by rfl) ?_
      walk_at "rds"
      rw [show (!decide (d.1 = d.1)) = false by simp]
      exact k_elT (fun z => by cases z) fun _ => hN _ (Same.refl _)
    · have eD' : H' D = some (.lst []) := eD
      have e2 := k _ _ e
      have es2 := k _ _ es
      have ed2 := k _ _ ed
      have sc2 := sc.same k
      clear eD e es ed
      walk_at "rds"
      refine x_lenL (SqL.of eD') ?_
      walk_at "rds"
      refine x_lenL (SqL.of ed2) ?_
      walk_at "rds"
      refine k_if (fun hc => absurd (of_decide_eq_true hc) (by simp)) (fun _ => ?_)
      walk_at "rds"
      rw [pScene_doers]
      have gD : ¬ G D := st.sc.dm.fresh fD
      obtain ⟨tl, et, _⟩ := sc.ta
      have nDt : D ≠ S.ta := (ne_of_none et fD).symm
      obtain ⟨sc3, kp3⟩ := sc2.own1 (dx := dx) (mo := S.mo) (hi := S.hi) (dl := []) (ds := []) gD nDt eD' .nil (by decide)
      have pq : p ≠ S.q := fun z => st.o (z ▸ own_q)
      refine q { S with da := D, dl := [], ds := [] } _ ((Kp.same k).trans kp3) ⟨⟨sdx, (upd_ne pq).trans es2⟩, st.g, fun o => ?_, sc3⟩ rfl fD
      rcases o with z | z | z | z | z | z
      · exact st.o (.inl z)
      · exact st.o (.inr (.inl z))
      · exact st.o (.inr (.inr (.inl z)))
      · obtain ⟨dxx, ess⟩ := st.ins
        exact ne_of_none ess fD z
      · exact st.o (.inr (.inr (.inr (.inr (.inl z)))))
      · exact st.o (.inr (.inr (.inr (.inr (.inr z)))))
end
end Wh

/-! ## S6c -/
set_option Elab.async false
set_option linter.all false
set_option maxRecDepth 100000
set_option maxHeartbeats 4000000


namespace Wh
open PySem PySem.Spec PyProof.Rows L2
section
variable {P : Program} {wo : World} {K : PySem.W.Frag} {mg : Str → Option Value} {base : Heap}
/-! ### a new store, a copy -/
def spStoreInit (K : PySem.W.Frag) : Sp := fun vs H Q _ => ∃ (x dx rl : Addr) (rs ps : List Int) (sv : V), vs = [.ref x, .ref rl, sv, .int 0, .int 1] ∧ H x = some (.ins (He.ga K "Store") dx []) ∧ H rl = some (.lst (rs.map V.int)) ∧ 1 ≤ rs.length ∧ rs.length ≤ 4 ∧ (∀ r ∈ rs, 1 ≤ r ∧ r ≤ 1000000000000) ∧
  ((sv = .non ∧ ps = List.replicate 10 0) ∨ ∃ sl, sv = .ref sl ∧ H sl = some (.lst (ps.map V.int)) ∧ ps.length = 10 ∧ ∀ r ∈ ps, -1000000000 ≤ r ∧ r ≤ 1000000000) ∧
  ∀ S H', (∀ b o, H b = some o → b ≠ x → H' b = some o) → H' x = some (.ins (He.ga K "Store") dx (fStore (.ref S.q))) → SceneAt K (fun a => H' a ≠ none ∧ ¬ own S a ∧ a ≠ x) H' S 0 → (∀ a, own S a → H a = none) → S.mo = 0 → S.hold = rs → S.pres = ps → S.ds = [] → S.bl = [] → Q .non H'
theorem ok_Store_init (T : Tx K mg) : FnOk P wo K mg base CX0 5 (He.ma K (He.ga K "Store") "__init__") (fdA K (He.ma K (He.ga K "Store") "__init__")) ["self", "rooms", "stirs", "grain", "fade"] (spStoreInit K) := by
  refine okD (F_Store_init T) sc_Store_init (fun vs H Q E h => ?_) (fun cdv A outer s H vs Q E hr h => ?_)
  · obtain ⟨x, dx, rl, rs, ps, sv, rfl, _⟩ := h
    rfl
  · obtain ⟨x, dx, rl, rs, ps, sv, rfl, hx, hrl, r1, r4, rb, hsv, q⟩ := h
    have p10 : ps.length = 10 := by
      rcases hsv with ⟨_, rfl⟩ | ⟨_, _, _, h, _⟩
      · rfl
      · exact h
    refine ⟨_, (pss_cons (ps_if (pt_not (pt_val (pe_call (ok_are_rooms (P := P) (wo := wo) (K := K) T) (hr.mono (by decide)) rfl (g_are_rooms T) (F_are_rooms T).kp (b_are_rooms T) .nil pass0 (pa_cons (pv 1) pa_nil)))) (pss_one ps_never) pss_nil)
 (pss_cons (ps_if (pt_not (pt_val (pe_call (ok_are_stirs (P := P) (wo := wo) (K := K) T) (hr.mono (by decide)) rfl (g_are_stirs T) (F_are_stirs T).kp (b_are_stirs T) .nil pass0 (pa_cons (pv 2) pa_nil)))) (pss_one ps_never) pss_nil)
 (pss_cons (ps_if (pt_not (pt_val (pe_call (ok_is_size (P := P) (wo := wo) (K := K) T) (hr.mono (by decide)) rfl (g_is_size T) (F_is_size T).kp (b_is_size T) .nil pass0 (pa_cons (pv 3) pa_nil)))) (pss_one ps_never) pss_nil)
 (pss_cons (ps_if (pt_not (pt_val (pe_call (ok_is_strength (P := P) (wo := wo) (K := K) T) (hr.mono (by decide)) rfl (g_is_strength T) (F_is_strength T).kp (b_is_strength T) .nil pass0 (pa_cons (pv 4) pa_nil)))) (pss_one ps_never) pss_nil)
 (C8.pss_cut (ps_set (i := 5) sc_Store_init.nd rfl (Or.inl rfl) (pe_ifExp (pt_cmp (pc_isN (pv 2))) (pe_op op_rep (pe_lst (pa_cons pe_int pa_nil)) pe_int) (pe_callTy call_list_of (by rfl) (z_list T) (by decide +kernel) (pa_cons (pv 2) pa_nil))))
 (pss_one (ps_fld (pv 0) (pe_make (k_Scene (K := K) T) (ok_Scene_init (P := P) (wo := wo) (K := K) T) (hr.mono (by decide)) rfl (g_Scene (K := K) T) (b_Scene_init T) .nil pass0 (pa_cons (pe_callTy call_list_of (by rfl) (z_list T) (by decide +kernel) (pa_cons (pv 1) pa_nil)) (pa_cons (pv 5) (pa_cons (pv 3) (pa_cons (pv 4) pa_nil))))) rfl))))))), ?_⟩
    try dsimp only [cxK, cxP, cxW]
    walk_at "rds"
    refine ⟨rl, rs, rfl, hrl, r1, r4, rb, fun H1 sm1 => ?_⟩
    walk_at "rds"
    have go : ∀ (Q' : VK), (∀ H2, Same H1 H2 → Q' (.bl true) H2) → spStirs [sv] H1 Q' E0 := fun Q' hq => by
      rcases hsv with ⟨rfl, _⟩ | ⟨sl, rfl, hs, _, hb⟩
      · exact .inl ⟨rfl, hq _ (Same.refl _)⟩
      · exact .inr ⟨sl, ps, rfl, sm1 _ _ hs, p10, hb, hq⟩
    refine go _ fun H2 sm2 => ?_
    walk_at "rds"
    refine ⟨0, rfl, by decide, by decide, ?_⟩
    walk_at "rds"
    refine ⟨1, rfl, by decide, by decide, ?_⟩
    have sm := sm1.trans sm2
    walk_at "rds"
    refine ⟨fun σ' H3 => ∃ pr, σ' = [some (.ref x), some (.ref rl), some sv, some (.int 0), some (.int 1), some (.ref pr)] ∧ Same H H3 ∧ H3 pr = some (.lst (ps.map V.int)) ∧ H pr = none, ?_, ?_⟩
    · rcases hsv with ⟨rfl, hps⟩ | ⟨sl, rfl, hs, _, hb⟩
      · walk_at "rds"
        intro l fl
        walk_at "rds"
        refine ⟨l, 10, [.int 0], rfl, rfl, upd_same, by decide, by decide, by decide, fun pr fp => ?_⟩
        obtain ⟨n1, fp2⟩ := upd_none fp
        walk_at "rds"
        refine ⟨pr, rfl, sm.trans ((same_new fl).trans (same_new fp)), ?_, Same.free sm fp2⟩
        rw [upd_same, hps]
        rfl
      · walk_at "rds"
        refine ⟨sl, _, rfl, .inl (SqL.of (sm _ _ hs)), fun pr fp => ?_⟩
        walk_at "rds"
        exact ⟨pr, rfl, sm.trans (same_new fp), upd_same, Same.free sm fp⟩
    · rintro σ' H3 ⟨pr0, rfl, sm3, ep0, fp0⟩
      walk_at "rds"
      have hr3 := sm3 _ _ hrl
      have hx3 := sm3 _ _ hx
      refine ⟨rl, _, rfl, .inl (SqL.of hr3), fun ho fh => ?_⟩
      have fhH := Same.free sm3 fh
      walk_at "rds"
      have n0 : pr0 ≠ ho := ne_of_none ep0 fh
      refine k_make fun q0 qdx f1 f2 f3 => ?_
      obtain ⟨m1, f1'⟩ := upd_none f1
      obtain ⟨m2, f2'⟩ := upd_none f2
      refine ⟨q0, qdx, .ref ho, .ref pr0, .int 0, .int 1, rfl, upd_same, fun bo ma da ta H4 k4 b1 b2 b3 b4 n4 n5 n6 n7 n8 n9 eq ebo ema eda eta => ⟨rfl, ?_⟩⟩
      have z1 : ∀ {b o}, H3 b = some o → b ≠ q0 ∧ b ≠ qdx ∧ b ≠ ho := fun {b o} hb => ⟨ne_of_none hb f1', ne_of_none hb f2', ne_of_none hb fh⟩
      have up : ∀ {b o}, H3 b = some o → (upd (upd (upd H3 ho (.lst (rs.map V.int))) qdx (.own q0)) q0 (.ins (He.ga K "Scene") qdx [])) b = some o := fun {b o} hb => by
        obtain ⟨y1, y2, y3⟩ := z1 hb
        rw [upd_ne y1, upd_ne y2, upd_ne y3]
        exact hb
      have s34 : ∀ {b o}, H3 b = some o → H4 b = some o := fun hb => k4 _ _ (up hb) (z1 hb).1
      have s04 : Same H H4 := fun b o hb => s34 (sm3 _ _ hb)
      have nhq : ho ≠ q0 := m1.symm
      have nhd : ho ≠ qdx := m2.symm
      have upho : (upd (upd (upd H3 ho (.lst (rs.map V.int))) qdx (.own q0)) q0 (.ins (He.ga K "Scene") qdx [])) ho = some (.lst (rs.map V.int)) := by
        rw [upd_ne nhq, upd_ne nhd, upd_same]
      have eho : H4 ho = some (.lst (rs.map V.int)) := k4 _ _ upho nhq
      have epr : H4 pr0 = some (.lst (ps.map V.int)) := s34 ep0
      have fr : ∀ {c}, (upd (upd (upd H3 ho (.lst (rs.map V.int))) qdx (.own q0)) q0 (.ins (He.ga K "Scene") qdx [])) c = none → H c = none := fun {c} hc => by
        cases z : H c with
        | none => rfl
        | some o => rw [up (sm3 _ _ z)] at hc; cases hc
      have hx4 := s34 hx3
      walk_at "rds"
      have old : ∀ {b o}, H b = some o → b ≠ q0 ∧ b ≠ bo ∧ b ≠ ma ∧ b ≠ da ∧ b ≠ ta := fun {b o} hb => ⟨(z1 (sm3 _ _ hb)).1, ne_of_none (up (sm3 _ _ hb)) b1, ne_of_none (up (sm3 _ _ hb)) b2, ne_of_none (up (sm3 _ _ hb)) b3, ne_of_none (up (sm3 _ _ hb)) b4⟩
      obtain ⟨x1, x2, x3, x4, x5⟩ := old hx
      have nxho : ho ≠ x := fun z => by rw [z, hx] at fhH; cases fhH
      have nxpr : pr0 ≠ x := fun z => by rw [z, hx] at fp0; cases fp0
      have ofl : ∀ {c xs}, H4 c = some (.lst xs) → c ≠ da → c ≠ ta → c ≠ x → (upd H4 x (.ins (He.ga K "Store") dx (putF "scene" (.ref q0) []))) c ≠ none ∧ ¬ own ⟨q0, ho, pr0, bo, ma, da, ta, 0, 0, rs, ps, [], [], []⟩ c ∧ c ≠ x := fun {c xs} hc y1 y2 y3 => by
        refine ⟨by rw [upd_ne y3, hc]; simp, fun o => ?_, y3⟩
        rcases o with z | z | z | z | z | ⟨b', hb', z⟩
        · rw [z, eq] at hc; cases hc
        · rw [z, ebo] at hc; cases hc
        · rw [z, ema] at hc; cases hc
        · exact y1 z
        · exact y2 z
        · cases hb'
      have hod : ho ≠ da ∧ ho ≠ ta := ⟨ne_of_none upho b3, ne_of_none upho b4⟩
      have prd : pr0 ≠ da ∧ pr0 ≠ ta := ⟨ne_of_none (up ep0) b3, ne_of_none (up ep0) b4⟩
      refine q ⟨q0, ho, pr0, bo, ma, da, ta, 0, 0, rs, ps, [], [], []⟩ _ (fun b o hb hne => (upd_ne hne).trans (s04 _ _ hb)) upd_same
        ⟨fun a g => g.1, ⟨qdx, (upd_ne x1.symm).trans eq⟩, fun g => g.2.1 (.inl rfl), fun g => g.2.1 (.inr (.inl rfl)), fun g => g.2.1 (.inr (.inr (.inl rfl))), fun g => g.2.1 (.inr (.inr (.inr (.inl rfl)))), fun g => g.2.1 (.inr (.inr (.inr (.inr (.inl rfl))))),
          ofl eho hod.1 hod.2 nxho, ofl epr prd.1 prd.2 nxpr, (upd_ne nxho).trans eho, (upd_ne nxpr).trans epr, (upd_ne x2.symm).trans ebo, (upd_ne x3.symm).trans ema, (upd_ne x4.symm).trans eda, .nil, ⟨[], (upd_ne x5.symm).trans eta, Nat.le_refl _⟩, (fun b hb => nomatch hb), n4, n9,
          ⟨r1, r4, fun r hz => (rb r hz).1, p10, Nat.zero_le _, Nat.zero_le _, (fun b hb => nomatch hb), .nil, .nil, (fun b hb => nomatch hb)⟩⟩ (fun a o => ?_) rfl rfl rfl rfl rfl
      rcases o with z | z | z | z | z | ⟨b', hb', z⟩
      · rw [z]; exact Same.free sm3 f1'
      · rw [z]; exact fr b1
      · rw [z]; exact fr b2
      · rw [z]; exact fr b3
      · rw [z]; exact fr b4
      · cases hb'
theorem SceneAt.minus {K : PySem.W.Frag} {G : Addr → Prop} {H : Hp} {S : Sc} {N : Nat} (h : SceneAt K G H S N) {x C dx : Addr} {v : V} (e : H x = some (.ins C dx (fStore v))) : SceneAt K (fun a => G a ∧ a ≠ x) H S N := by
  have nl : ∀ {c xs}, H c = some (.lst xs) → c ≠ x := fun {c xs} hc z => by
    rw [z, e] at hc
    cases hc
  have bd : ∀ b ∈ S.bl, BodyAt K (fun a => G a ∧ a ≠ x) H b := fun b hb => by
    obtain ⟨wdx, hl, tl, g1, g2, g3, we, ⟨a1, s1, p1⟩, ⟨a2, s2, p2⟩⟩ := (h.bd b hb).w.ex
    refine ⟨(h.bd b hb).ex, fun g => (h.bd b hb).g g.1, ⟨wdx, hl, tl, ⟨g1, fun z => ?_⟩, ⟨g2, nl s1⟩, ⟨g3, nl s2⟩, we, ⟨a1, s1, p1⟩, ⟨a2, s2, p2⟩⟩, (h.bd b hb).ok⟩
    rw [z, e] at we
    have l := congrArg List.length (HO.ins.inj (Option.some.inj we)).2.2
    cases l
  exact ⟨fun a g => h.dm a g.1, h.ins, fun g => h.gq g.1, fun g => h.gbo g.1, fun g => h.gma g.1, fun g => h.gda g.1, fun g => h.gta g.1, ⟨h.gho, nl h.ho⟩, ⟨h.gpr, nl h.pr⟩, h.ho, h.pr, h.bo, h.ma, h.da, h.dd, h.ta, bd, h.n1, h.n2, h.ok⟩
def spCopied (K : PySem.W.Frag) : Sp := fun vs H Q _ => ∃ G p S N, vs = [.ref p] ∧ StO K G H p S N ∧
  ∀ p' S' H', Same H H' → StO K (fun a => G a ∨ (H a = none ∧ H' a ≠ none ∧ ¬ own S' a ∧ a ≠ p')) H' p' S' N → (∀ a, own S' a → H a = none) → H p' = none → Lk S S' → Q (.ref p') H'
theorem ok_Store_copied (T : Tx K mg) : FnOk P wo K mg base CX0 7 (He.ma K (He.ga K "Store") "copied") (fdA K (He.ma K (He.ga K "Store") "copied")) ["self"] (spCopied K) := by
  refine okD (F_Store_copied T) sc_Store_copied (fun vs H Q E h => ?_) (fun cdv A outer s H vs Q E hr h => ?_)
  · obtain ⟨G, p, S, N, rfl, _⟩ := h
    rfl
  · obtain ⟨G, p, S, N, rfl, st, q⟩ := h
    obtain ⟨ds, hv, hb⟩ := bd_Store1 T
    refine ⟨_, (pss_cons (ps_set (i := 1) sc_Store_copied.nd rfl (Or.inl rfl) (pe_make (k_Store (K := K) T) (ok_Store_init (P := P) (wo := wo) (K := K) T) (hr.mono (by decide)) rfl (g_Store (K := K) T) hb hv pass0 (pa_cons (pe_lst (pa_cons pe_int pa_nil)) pa_nil)))
 (pss_cons (ps_fld (pv 1) (pe_meth0 (pe_fldK (K := K) (pv 0) rfl) (c_Scene (K := K) T) (m_Scene_twin (K := K) T) (ok_Scene_twin (P := P) (wo := wo) (K := K) T) (hr.mono (by decide)) (b_Scene_twin T) .nil pass0) rfl)
 (pss_one (ps_ret (pv 1))))), ?_⟩
    try dsimp only [cxK, cxP, cxW]
    walk_at "rds"
    intro rl fr
    walk_at "rds"
    intro x sdx f1 f2 f3
    obtain ⟨m1, f1'⟩ := upd_none f1
    obtain ⟨m2, f2'⟩ := upd_none f2
    refine ⟨x, sdx, rl, [1], List.replicate 10 0, .non, rfl, upd_same, ?_, by decide, by decide, by decide, .inl ⟨rfl, rfl⟩, fun S0 H1 k1 ex sc0 fr0 _ _ _ _ _ => ⟨rfl, ?_⟩⟩
    · rw [upd_ne m1.symm, upd_ne m2.symm, upd_same]
      rfl
    have s01 : Same H H1 := fun b o hb => by
      have y1 : b ≠ x := ne_of_none hb f1'
      have y2 : b ≠ sdx := ne_of_none hb f2'
      have y3 : b ≠ rl := ne_of_none hb fr
      exact k1 b o (by rw [upd_ne y1, upd_ne y2, upd_ne y3]; exact hb) y1
    have st1 := st.same s01
    obtain ⟨pdx, es⟩ := st1.ins
    obtain ⟨qdx, e⟩ := st1.sc.ins
    unfold scF at e
    walk_at "rds"
    refine ⟨G, S, N, rfl, st1.sc, fun S' H' sm sc' fr' lk => ?_⟩
    have ex2 := sm _ _ ex
    walk_at "rds"
    rw [pStore_scene]
    have scm := sc'.minus ex2
    have kp : Kp (fun a => (G a ∨ (H1 a = none ∧ H' a ≠ none ∧ ¬ own S' a)) ∧ a ≠ x) H' (upd H' x (.ins (He.ga K "Store") sdx (fStore (.ref S'.q)))) := Kp.put (fun g => g.2 rfl) ex2 trivial
    have nox : ¬ own S' x := fun o => by
      have := fr' x o
      rw [ex] at this
      cases this
    have scf := scm.frame kp fun a o => upd_ne (fun z => nox (z ▸ o))
    have tot : ∀ {c}, H' c ≠ none → (upd H' x (.ins (He.ga K "Store") sdx (fStore (.ref S'.q)))) c ≠ none := fun {c} hc => by
      by_cases z : c = x
      · rw [z, upd_same]; simp
      · rw [upd_ne z]; exact hc
    have gx : ¬ G x := fun g => st.sc.dm x g f1'
    refine q x S' _ (fun b o hb => (upd_ne (ne_of_none hb f1')).trans (sm _ _ (s01 _ _ hb))) ⟨⟨sdx, upd_same⟩, fun g => g.elim gx fun g => g.2.2.2 rfl, nox, scf.gmono' (fun a g => g.1.elim .inl fun z => .inr ⟨Same.free s01 z.1, tot z.2.1, z.2.2, g.2⟩) (fun a g => ?_) fun a o g => ?_⟩ (fun a o => Same.free s01 (fr' a o)) f1' lk
    · rcases g with g | g
      · exact st.sc.dm.kp (Kp.same (fun b o hb => (upd_ne (ne_of_none hb f1')).trans (sm _ _ (s01 _ _ hb)))) a g
      · exact g.2.1
    · rcases g with g | g
      · exact st.sc.dm a g (Same.free s01 (fr' a o))
      · exact g.2.2.1 o
end
end Wh

/-! ## S6d -/
set_option Elab.async false
set_option linter.all false
set_option maxRecDepth 100000
set_option maxHeartbeats 4000000


namespace Wh
open PySem PySem.Spec PyProof.Rows L2
section
variable {P : Program} {wo : World} {K : PySem.W.Frag} {mg : Str → Option Value} {base : Heap}
/-! ### putting in -/
theorem SceneAt.add {K : PySem.W.Frag} {G : Addr → Prop} {H : Hp} {S : Sc} {N : Nat} (h : SceneAt K G H S N) {q dx wa : Addr} {as : Int} {t : T} (eq : H q = some (.ins (He.ga K "Body") dx (bF ⟨t, q, wa⟩ as))) (gq : ¬ G q) (nq : ¬ own S q) (w : WaneAt K G H wa t.wn) (ok : t.Ok) (sp : t.sp = 0) (l : S.bl.length < 8) (nn : t.nm ∉ S.bl.map (·.t.nm)) :
    SceneAt K G (upd H S.bo (.dK (kvsB (S.bl ++ [⟨t, q, wa⟩])))) (S.wb (S.bl ++ [⟨t, q, wa⟩])) (N + 5) ∧ Kp G H (upd H S.bo (.dK (kvsB (S.bl ++ [⟨t, q, wa⟩])))) := by
  have kp : Kp G H (upd H S.bo (.dK (kvsB (S.bl ++ [⟨t, q, wa⟩])))) := Kp.put h.gbo h.bo trivial
  have ne : ∀ {c o}, H c = some o → (∀ kv, o = .dK kv → False) → c ≠ S.bo := fun {c o} hc no z => by
    rw [z, h.bo] at hc
    cases hc
    exact no _ rfl
  obtain ⟨qdx, e⟩ := h.ins
  obtain ⟨tl, et, tn⟩ := h.ta
  have o := h.ok
  refine ⟨⟨h.dm.kp kp, ⟨qdx, (upd_ne (ne e (fun _ z => by cases z))).trans e⟩, h.gq, h.gbo, h.gma, h.gda, h.gta, h.gho, h.gpr, (upd_ne (ne h.ho (fun _ z => by cases z))).trans h.ho, (upd_ne (ne h.pr (fun _ z => by cases z))).trans h.pr,
    upd_same, (upd_ne h.n1.symm).trans h.ma, (upd_ne (ne h.da (fun _ z => by cases z))).trans h.da, Paired.mapP h.dd fun a d z => z.tups kp.t, ⟨tl, (upd_ne (ne et (fun _ z => by cases z))).trans et, ?_⟩, fun c hc => ?_, h.n1, h.n2, ?_⟩, kp⟩
  · show tl.length + pot (S.bl ++ [⟨t, q, wa⟩]) ≤ N + 5
    have : pot (S.bl ++ [⟨t, q, wa⟩]) = pot S.bl + 5 := by
      unfold pot
      rw [List.map_append, List.sum_append]
      simp [sp]
    omega
  · rcases List.mem_append.mp (show c ∈ S.bl ++ [⟨t, q, wa⟩] from hc) with z | z
    · obtain ⟨cdx, cas, ec⟩ := (h.bd c z).ex
      exact ⟨⟨cdx, cas, (upd_ne (ne ec (fun _ z => by cases z))).trans ec⟩, (h.bd c z).g, (h.bd c z).w.kp kp, (h.bd c z).ok⟩
    · obtain rfl := List.mem_singleton.mp z
      exact ⟨⟨dx, as, (upd_ne (ne eq (fun _ z => by cases z))).trans eq⟩, gq, w.kp kp, ok⟩
  · have r1 := o.r1
    refine ⟨o.r1, o.r4, o.rp, o.p10, o.d8, ?_, fun c hc => ?_, ?_, ?_, fun c hc => ?_⟩
    · show (S.bl ++ [_]).length ≤ 8
      rw [List.length_append, List.length_singleton]
      omega
    · rcases List.mem_append.mp (show c ∈ S.bl ++ [⟨t, q, wa⟩] from hc) with z | z
      · exact o.sp c z
      · obtain rfl := List.mem_singleton.mp z
        show t.sp < (S.hold.length : Nat)
        omega
    · show ((S.bl ++ [_]).map _).Nodup
      rw [List.map_append]
      refine List.nodup_append.mpr ⟨o.nn, by simp, fun a ha c hc z => ?_⟩
      obtain rfl : c = t.nm := by simpa using hc
      exact nn (z ▸ ha)
    · show ((S.bl ++ [_]).map _).Nodup
      rw [List.map_append]
      refine List.nodup_append.mpr ⟨o.np, by simp, fun a ha c hc z => ?_⟩
      obtain rfl : c = q := by simpa using hc
      obtain ⟨b, hb, eb⟩ := List.mem_map.mp ha
      exact nq (.inr (.inr (.inr (.inr (.inr ⟨b, hb, by rw [eb, z]⟩)))))
    · rcases List.mem_append.mp (show c ∈ S.bl ++ [⟨t, q, wa⟩] from hc) with z | z
      · exact o.nq c z
      · obtain rfl := List.mem_singleton.mp z
        exact fun y => nq (.inl y)
theorem SceneAt.le {K : PySem.W.Frag} {G : Addr → Prop} {H : Hp} {S : Sc} {N M : Nat} (h : SceneAt K G H S N) (l : N ≤ M) : SceneAt K G H S M := by
  obtain ⟨tl, et, tn⟩ := h.ta
  exact ⟨h.dm, h.ins, h.gq, h.gbo, h.gma, h.gda, h.gta, h.gho, h.gpr, h.ho, h.pr, h.bo, h.ma, h.da, h.dd, ⟨tl, et, by omega⟩, h.bd, h.n1, h.n2, h.ok⟩
def spPut (K : PySem.W.Frag) : Sp := fun vs H Q _ => ∃ G p S N wa t, vs = [.ref p, .str t.nm, .int t.kin, .ref wa, .int t.fo] ∧ StO K G H p S N ∧ N ≤ 900 ∧ 0 ≤ S.mo ∧ WaneAt K G H wa t.wn ∧ t.Ok ∧ t.sp = 0 ∧ t.si = 0 ∧ S.bl.length < 8 ∧ t.nm ∉ S.bl.map (·.t.nm) ∧ NameOk t.nm ∧
  ∀ S' H', Kp G H H' → StO K G H' p S' (N + 6) → S'.mo = S.mo → S'.hold = S.hold → S'.pres = S.pres → S'.ds = S.ds → S'.bl.map (·.t) = crowdL S.hold (S.bl.map (·.t) ++ [t]) → Q .non H'
theorem ok_Store_put (T : Tx K mg) : FnOk P wo K mg base CX0 4 (He.ma K (He.ga K "Store") "put") (fdA K (He.ma K (He.ga K "Store") "put")) ["self", "name", "sort", "wane", "strength"] (spPut K) := by
  refine okD (F_Store_put T) sc_Store_put (fun vs H Q E h => ?_) (fun cdv A outer s H vs Q E hr h => ?_)
  · obtain ⟨G, p, S, N, wa, t, rfl, _⟩ := h
    rfl
  · obtain ⟨G, p, S, N, wa, t, rfl, st, nb, m0, w, ok, sp0, si0, l8, nin, nok, q⟩ := h
    have c2 := ok.w.c2
    refine ⟨_, (pss_cons (ps_if (pt_not (pt_val (pe_call (ok_is_name (P := P) (wo := wo) (K := K) T) (hr.mono (by decide)) rfl (g_is_name T) (F_is_name T).kp (b_is_name T) .nil pass0 (pa_cons (pv 1) pa_nil)))) (pss_one ps_never) pss_nil)
 (pss_cons (ps_if (pt_not (pt_val (pe_call (ok_is_sort (P := P) (wo := wo) (K := K) T) (hr.mono (by decide)) rfl (g_is_sort T) (F_is_sort T).kp (b_is_sort T) .nil pass0 (pa_cons (pv 2) pa_nil)))) (pss_one ps_never) pss_nil)
 (pss_cons (ps_if (pt_not (pt_val (pe_callB (call_isCK (insWane T)) (by rfl) (z_isinstance T) (by decide +kernel) (pa_cons (pv 3) (pa_cons (pe_glob (v := .ref _) (by rfl) (g_Wane (K := K) T) rfl) pa_nil))))) (pss_one ps_never) pss_nil)
 (pss_cons (ps_if (PW.pt (pw_or (pt_not (pt_val (pe_call (ok_is_strength (P := P) (wo := wo) (K := K) T) (hr.mono (by decide)) rfl (g_is_strength T) (F_is_strength T).kp (b_is_strength T) .nil pass0 (pa_cons (pv 4) pa_nil)))) (pw_or1 (pt_cmpR op_gt (pv 4) (pe_meth0 (pv 3) (c_Wane (K := K) T) (m_Wane_cap (K := K) T) (ok_Wane_cap (P := P) (wo := wo) (K := K) T) (hr.mono (by decide)) (b_Wane_cap T) .nil pass0) (nomark _))))) (pss_one ps_never) pss_nil)
 (pss_cons (ps_set (i := 5) sc_Store_put.nd rfl (Or.inl rfl) (pe_fldK (K := K) (pv 0) rfl))
 (pss_cons (ps_if (pt_cmp (pc_din (hu_of hr) (pv 1) (pe_fldK (K := K) (pv 5) rfl))) (pss_one ps_never) pss_nil)
 (pss_cons (ps_if (pt_cmpR op_eq (pe_callB call_lenD (by rfl) (z_len T) (by decide +kernel) (pa_cons (pe_fldK (K := K) (pv 5) rfl) pa_nil)) (pe_globI (by rfl) (i_MOST T)) (nomark _)) (pss_one ps_never) pss_nil)
 (pss_cons (ps_set (i := 4) sc_Store_put.nd rfl (Or.inl rfl) (pe_callB (call_min2 rfl) (by rfl) (z_min T) (by decide +kernel) (pa_cons (pe_meth0 (pv 3) (c_Wane (K := K) T) (m_Wane_cap (K := K) T) (ok_Wane_cap (P := P) (wo := wo) (K := K) T) (hr.mono (by decide)) (b_Wane_cap T) .nil pass0) (pa_cons (pe_op op_add (pv 4) (pe_call (ok_trace_of (P := P) (wo := wo) (K := K) T) (hr.mono (by decide)) rfl (g_trace_of T) (F_trace_of T).kp (b_trace_of T) .nil pass0 (pa_cons (pv 5) (pa_cons (pv 1) pa_nil)))) pa_nil))))
 (pss_cons (ps_expr (pe_dpop2 (pe_fldK (K := K) (pv 5) rfl) (pv 1) pe_non ⟨rfl, rfl, rfl, rfl⟩))
 (pss_cons (ps_dput (hu_of hr) (pe_fldK (K := K) (pv 5) rfl) (pv 1) (pe_make (k_Body (K := K) T) (ok_Body_init (P := P) (wo := wo) (K := K) T) (hr.mono (by decide)) rfl (g_Body (K := K) T) (b_Body_init T) .nil pass0 (pa_cons (pv 1) (pa_cons (pv 2) (pa_cons (pv 3) (pa_cons (pv 4) pa_nil))))) rfl)
 (pss_cons (ps_expr (pe_bm PySem.F.plainAttrs_list PySem.F.slot_list_append PySem.F.type_list_append mt_append (pe_fldK (K := K) (pv 5) rfl) (pa_cons (pe_tup (pa_cons (pe_fldK (K := K) (pv 5) rfl) (pa_cons (pv 1) (pa_cons pe_str (pa_cons pe_int pa_nil))))) pa_nil)))
 (pss_one (ps_expr (pe_call (ok_crowd (P := P) (wo := wo) (K := K) T) (hr.mono (by decide)) rfl (g_crowd T) (F_crowd T).kp (b_crowd T) .nil pass0 (pa_cons (pv 5) (pa_cons (pe_lst pa_nil) pa_nil)))))))))))))))), ?_⟩
    try dsimp only [cxK, cxP, cxW]
    walk_at "rds"
    refine ⟨_, rfl, nok, fun H1 sm1 => ?_⟩
    walk_at "rds"
    refine ⟨_, rfl, ok.k0, ok.k9, ?_⟩
    have w1 := w.kp (Kp.same (G := G) sm1)
    obtain ⟨wdx, whl, wtl, wg, _, _, we, _⟩ := id w1.ex
    have st1 := st.same sm1
    obtain ⟨sdx, es⟩ := st1.ins
    obtain ⟨dx, e⟩ := st1.sc.ins
    unfold scF at e
    walk_at "rds"
    refine ⟨wa, wdx, _, rfl, we, ?_⟩
    walk_at "rds"
    refine ⟨_, rfl, ok.f1, by have := ok.fc; omega, ?_⟩
    walk_at "rds"
    refine ⟨G, wa, t.wn, rfl, w1, ?_⟩
    walk_at "rds"
    refine k_if (fun hc => absurd (of_decide_eq_true hc) (by have := ok.fc; omega)) (fun _ => ?_)
    have ebo := st1.sc.bo
    have ema := st1.sc.ma
    walk_at "rds"
    refine k_di2s (.inl ebo) ?_
    rw [valV_kvsN nin]
    walk_at "rds"
    refine k_ifF ?_
    walk_at "rds"
    refine ⟨S.bo, _, rfl, ebo, ?_⟩
    walk_at "rds"
    refine k_if (fun hc => absurd (of_decide_eq_true hc) (by unfold kvsB; rw [List.length_map]; omega)) (fun _ => ?_)
    walk_at "rds"
    refine ⟨G, wa, t.wn, rfl, w1, ?_⟩
    walk_at "rds"
    refine ⟨G, S, N, t.nm, rfl, st1.sc, m0, fun H2 sm2 => ?_⟩
    have sm := sm1.trans sm2
    have st2 := st.same sm
    have w2 := w.kp (Kp.same (G := G) sm)
    have e2 := sm2 _ _ e
    have es2 := sm2 _ _ es
    have ebo2 := st2.sc.bo
    have ema2 := st2.sc.ma
    clear e es ebo ema we
    walk_at "rds"
    refine ⟨_, _, rfl, ?_⟩
    rw [show (if t.fo + 0 < t.wn.cap then t.fo + 0 else t.wn.cap) = t.fo by have := ok.fc; split <;> omega]
    walk_at "rds"
    refine k_pop2 (.inl ema2) ?_
    walk_at "rds"
    refine k_pop2n ema2 rfl ?_
    walk_at "rds"
    refine k_make fun x bdx f1 f2 f3 => ?_
    refine ⟨x, bdx, _, _, _, _, rfl, upd_same, rfl, ?_⟩
    rw [upd_upd]
    have sm3 : Same H2 (upd (upd H2 bdx (.own x)) x (.ins (He.ga K "Body") bdx (fBody (.str t.nm) (.int t.kin) (.ref wa) (.int t.fo) (.int 0) (.int 0) (.int 0)))) := fun b o hb => by
      rw [upd_ne (ne_of_none hb f1), upd_ne (ne_of_none hb f2)]
      exact hb
    have st3 := st2.same sm3
    have w3 := w2.kp (Kp.same (G := G) sm3)
    have ex : (upd (upd H2 bdx (.own x)) x (.ins (He.ga K "Body") bdx (fBody (.str t.nm) (.int t.kin) (.ref wa) (.int t.fo) (.int 0) (.int 0) (.int 0)))) x = some (.ins (He.ga K "Body") bdx (bF ⟨t, x, wa⟩ 0)) := by
      rw [upd_same]
      unfold bF
      rw [sp0, si0]
    have gx : ¬ G x := st2.sc.dm.fresh f1
    have nox : ¬ own S x := fun o => st2.sc.there o f1
    obtain ⟨sc4, kp4⟩ := st3.sc.add ex gx nox w3 ok sp0 l8 nin
    have e3 := sm3 _ _ e2
    have es3 := sm3 _ _ es2
    have ebo3 := st3.sc.bo
    have nqb : S.q ≠ S.bo := fun z => by rw [z, ebo3] at e3; cases e3
    have pbo : p ≠ S.bo := fun z => st.o (.inr (.inl z))
    have kp03 : Kp G H (upd (upd H2 bdx (.own x)) x (.ins (He.ga K "Body") bdx (fBody (.str t.nm) (.int t.kin) (.ref wa) (.int t.fo) (.int 0) (.int 0) (.int 0)))) := Kp.same (sm.trans sm3)
    have pnx : p ≠ x := ne_of_none es2 f1
    clear e2 es2 ebo2 ema2 st3 w3 ex w2 st2
    generalize upd (upd H2 bdx (.own x)) x (.ins (He.ga K "Body") bdx (fBody (.str t.nm) (.int t.kin) (.ref wa) (.int t.fo) (.int 0) (.int 0) (.int 0))) = H3 at *
    walk_at "rds"
    refine k_dp3s ebo3 (by unfold kvsB; rw [List.length_map]; exact sz8 (by omega)) ?_
    rw [putK_new _ (valV_kvsN nin), show kvsB S.bl ++ [(Sum.inr t.nm, V.ref x)] = kvsB (S.bl ++ [⟨t, x, wa⟩]) by unfold kvsB; rw [List.map_append]; rfl]
    have e4 := (upd_ne (o := .dK (kvsB (S.bl ++ [⟨t, x, wa⟩]))) nqb).trans e3
    have es4 := (upd_ne (o := .dK (kvsB (S.bl ++ [⟨t, x, wa⟩]))) pbo).trans es3
    clear e3 es3 ebo3
    generalize upd H3 S.bo (.dK (kvsB (S.bl ++ [⟨t, x, wa⟩]))) = H4 at *
    obtain ⟨tl, et, tn⟩ := sc4.ta
    have et4 : H4 S.ta = some (.lst tl) := et
    have tn4 : tl.length + pot (S.bl ++ [⟨t, x, wa⟩]) ≤ N + 5 := tn
    walk_at "rds"
    refine k_bmL et4 ?_
    walk_at "rds"
    intro y fy
    have nty : S.ta ≠ y := ne_of_none et4 fy
    have npy : p ≠ y := ne_of_none es4 fy
    have nqy : S.q ≠ y := ne_of_none e4 fy
    walk_at "rds"
    refine k_append (xs := tl) ((upd_ne nty).trans et4) (Nat.lt_of_le_of_lt (show tl.length ≤ 1000 by omega) (by decide)) ?_
    obtain ⟨sc5, kp5⟩ := (sc4.same (same_new (o := .tup [.int S.mo, .str t.nm, .str "put", .int 0]) fy)).told (tl' := tl ++ [.ref y]) (M := N + 6) ((upd_ne nty).trans et4) (by
      rw [List.length_append, List.length_singleton]
      show tl.length + 1 + pot (S.bl ++ [⟨t, x, wa⟩]) ≤ N + 6
      omega)
    have pta : p ≠ S.ta := fun z => st.o (.inr (.inr (.inr (.inr (.inl z)))))
    have nqt : S.q ≠ S.ta := fun z => by rw [z, et4] at e4; cases e4
    have es5 := (upd_ne (o := .lst (tl ++ [V.ref y])) pta).trans ((upd_ne (o := .tup [.int S.mo, .str t.nm, .str "put", .int 0]) npy).trans es4)
    have kpall := kp03.trans (kp4.trans ((Kp.new (o := .tup [.int S.mo, .str t.nm, .str "put", .int 0]) fy).trans kp5))
    walk_at "rds"
    intro n fn
    walk_at "rds"
    have opx : ∀ a, own (S.wb (S.bl ++ [⟨t, x, wa⟩])) a → own S a ∨ a = x := fun a o => by
      rcases o with z | z | z | z | z | ⟨b, hb, z⟩
      · exact .inl (.inl z)
      · exact .inl (.inr (.inl z))
      · exact .inl (.inr (.inr (.inl z)))
      · exact .inl (.inr (.inr (.inr (.inl z))))
      · exact .inl (.inr (.inr (.inr (.inr (.inl z)))))
      · rcases List.mem_append.mp (show b ∈ S.bl ++ [⟨t, x, wa⟩] from hb) with y | y
        · exact .inl (.inr (.inr (.inr (.inr (.inr ⟨b, y, z⟩)))))
        · obtain rfl := List.mem_singleton.mp y
          exact .inr z
    have pno : ¬ own (S.wb (S.bl ++ [(⟨t, x, wa⟩ : Bd)])) p := fun o => (opx p o).elim st.o pnx
    have sc6 := sc5.same (same_new (o := .lst []) fn)
    have es6 := same_new (o := .lst []) fn _ _ es5
    have nno : ¬ own (S.wb (S.bl ++ [(⟨t, x, wa⟩ : Bd)])) n := fun o => sc5.there o fn
    have gn : ¬ G n := sc5.dm.fresh fn
    have kpall6 := kpall.trans (Kp.new (G := G) (o := .lst []) fn)
    have pnn : n ≠ p := (ne_of_none es5 fn).symm
    refine ⟨fun c => G c ∨ c = p, S.wb (S.bl ++ [(⟨t, x, wa⟩ : Bd)]), N + 6, n, 0, rfl, sc6.gadd (p := p) (fun z => nomatch (es6.symm.trans z)) pno, by omega, ⟨[], upd_same, Nat.le_refl _⟩, fun g => g.elim gn pnn, nno, by omega, fun S' H' kp' sc' st' _ => ?_⟩
    walk_at "rds"
    have kpG := kp'.mono (G' := G) fun c g => .inl g
    have hq : S'.q = S.q ∧ S'.mo = S.mo ∧ S'.hold = S.hold ∧ S'.pres = S.pres ∧ S'.ds = S.ds := by
      obtain ⟨bl', rfl⟩ := st'.bl
      exact ⟨rfl, rfl, rfl, rfl, rfl⟩
    refine q S' H' (kpall6.trans kpG) ⟨⟨sdx, by rw [hq.1]; exact kp'.g _ _ (.inr rfl) es6⟩, st.g, fun o => pno (st'.own o), sc6.shrink sc' kpG st' fun c g => .inl g⟩ hq.2.1 hq.2.2.1 hq.2.2.2.1 hq.2.2.2.2 ?_
    rw [st'.ts]
    show crowdL S.hold ((S.bl ++ [(⟨t, x, wa⟩ : Bd)]).map (·.t)) = _
    rw [List.map_append]
    rfl
end
end Wh

/-! ## S7a -/
set_option Elab.async false
set_option linter.all false
set_option maxRecDepth 100000
set_option maxHeartbeats 4000000


namespace Wh
open PySem PySem.Spec PyProof.Rows L2
section
variable {P : Program} {wo : World} {K : PySem.W.Frag} {mg : Str → Option Value} {base : Heap}
/-! ### what keep asks first -/
theorem x_isC {K : PySem.W.Frag} {H : Hp} {a C dx : Addr} {fs : List (Str × V)} {Q : VK} (e : H a = some (.ins C dx fs)) (q : Q (.bl true) H) : rIsC C [.ref a, .ref C] H Q := ⟨a, dx, fs, rfl, e, q⟩
def spNeedA (K : PySem.W.Frag) : Sp := fun vs H Q _ => ∃ G p S N l, ∃ ns : List Str, vs = [.ref p, .ref l, .int 120] ∧ StO K G H p S N ∧ H l = some (.lst (ns.map V.str)) ∧ ns.length ≤ 8 ∧ (∀ x ∈ ns, NameOk x) ∧ ∀ H', Same H H' → Q .non H'
theorem ok_need_asked (T : Tx K mg) : FnOk P wo K mg base CX0 2 (He.ga K "need_asked") (fdA K (He.ga K "need_asked")) ["store", "names", "most"] (spNeedA K) := by
  refine okD (F_need_asked T) sc_need_asked (fun vs H Q E h => ?_) (fun cdv A outer s H vs Q E hr h => ?_)
  · obtain ⟨G, p, S, N, l, ns, rfl, _⟩ := h
    rfl
  · obtain ⟨G, p, S, N, l, ns, rfl, st, el, l8, nok, q⟩ := h
    obtain ⟨_, _, _, _, _, kl, _⟩ := exk T
    obtain ⟨sdx, es⟩ := st.ins
    refine ⟨_, (pss_cons (ps_if (pt_not (pt_val (pe_callB (call_isCK (insStore T)) (by rfl) (z_isinstance T) (by decide +kernel) (pa_cons (pv 0) (pa_cons (pe_glob (v := .ref _) (by rfl) (g_Store (K := K) T) rfl) pa_nil))))) (pss_one ps_never) pss_nil)
 (pss_cons (ps_if (PW.pt (pw_or (pt_not (pt_val (pe_callB (call_isiK (K := K)) (by rfl) (z_isinstance T) (by decide +kernel) (pa_cons (pv 1) (pa_cons (pe_bltn (v := .ty "list") (by rfl) (z_list T) (by decide +kernel) rfl) pa_nil))))) (pw_or1 (pt_not (pt_val (pe_callB (cr_allK (K := K) rfl) (by rfl) (z_all T) (by decide +kernel) (pa_cons (pe_lc (own := [("name", 3)]) rfl sc_need_asked.nd (pi_list (pv 1)) (blkOk_by (N := ["store", "names", "most", "name"]) (sc := defScope s_need_asked) (by decide +kernel)) (fun _ _ _ _ _ => (pg_name (i := 3) sc_need_asked.nd rfl (Or.inl rfl))) (fun _ _ _ _ _ => pts_nil) (fun _ _ _ _ _ => (pe_call (ok_is_name (P := P) (wo := wo) (K := K) T) (hr.mono (by decide)) rfl (g_is_name T) (F_is_name T).kp (b_is_name T) .nil pass0 (pa_cons (pv 3) pa_nil)))) pa_nil))))))) (pss_one ps_never) pss_nil)
 (pss_one (ps_if (PW.pt (pw_or (pt_not (pt_val (pe_call (ok_is_whole (P := P) (wo := wo) (K := K) T) (hr.mono (by decide)) rfl (g_is_whole T) (F_is_whole T).kp (b_is_whole T) .nil pass0 (pa_cons (pv 2) pa_nil)))) (pw_or1 (pt_not (pt_chain op_le op_le pe_int (pv 2) (pe_globI (by rfl) (i_MOST_STATES T))))))) (pss_one ps_never) pss_nil)))), ?_⟩
    try dsimp only [cxK, cxP, cxW]
    walk_at "rds"
    refine x_isC (K := K) es ?_
    walk_at "rds"
    refine k_isi T (.base (.lst el)) kl ?_
    walk_at "rds"
    refine k_iL (SqL.of el) ?_
    refine k_lcP (itx_l K l (ns.map V.str)) (fun _ => some (.bl true)) (fun H' k => SqL.of (k _ _ el)) ?_ (fun v H' N' hv k hN => ?_) (fun D H' _ k eD => ?_)
    · rw [List.length_map]; exact sz8 (by omega)
    · refine el_name rfl ?_
      obtain ⟨n, hn, rfl⟩ := List.mem_map.mp hv
      walk_at "rds"
      exact ⟨n, rfl, nok n hn, fun H4 k4 => hN _ k4⟩
    · walk_at "rds"
      refine x_allT eD ?_
      walk_at "rds"
      refine ⟨120, rfl, ?_⟩
      walk_at "rds"
      refine k_ch3 (fun _ => ?_) (fun z => absurd z (by decide))
      walk_at "rds"
      rw [show decide ((120 : Int) ≤ 400) = true from rfl]
      walk_at "rds"
      exact q H' k
def spNeedG (K : PySem.W.Frag) : Sp := fun vs H Q _ => ∃ G p S N l, ∃ ns : List Str, vs = [.ref p, .ref l] ∧ StO K G H p S N ∧ S.ds = [] ∧ H l = some (.lst (ns.map V.str)) ∧ (∀ x ∈ ns, x ∈ S.bl.map (·.t.nm)) ∧ ∀ H', Same H H' → Q .non H'
theorem inV_str {h : Str} {hs : List Str} (m : h ∈ hs) : inV (.str h) (hs.map V.str) = true := by
  unfold inV
  rw [List.any_map]
  refine List.any_eq_true.mpr ⟨h, m, ?_⟩
  show eqV (.str h) (.str h) = true
  simp [eqV]
theorem flat_str (hs : List Str) : (hs.map V.str).all flatV = true := by
  rw [List.all_map]
  exact List.all_eq_true.mpr fun x _ => rfl
theorem ok_need_game (T : Tx K mg) : FnOk P wo K mg base CX0 2 (He.ga K "need_game") (fdA K (He.ga K "need_game")) ["store", "names"] (spNeedG K) := by
  refine okD (F_need_game T) sc_need_game (fun vs H Q E h => ?_) (fun cdv A outer s H vs Q E hr h => ?_)
  · obtain ⟨G, p, S, N, l, ns, rfl, _⟩ := h
    rfl
  · obtain ⟨G, p, S, N, l, ns, rfl, st, hds, el, hin, q⟩ := h
    obtain ⟨sdx, es⟩ := st.ins
    have hdl : S.dl = [] := by
      have := Paired.length st.sc.dd
      rw [hds] at this
      exact List.length_eq_zero_iff.mp this
    refine ⟨_, (pss_cons (ps_if (PW.pt (pw_or (pt_cmpR (op_neNil hr.units) (pe_meth0 (pv 0) (c_Store (K := K) T) (m_Store_askers (K := K) T) (ok_Store_askers (P := P) (wo := wo) (K := K) T) (hr.mono (by decide)) (b_Store_askers T) .nil pass0) (pe_lst pa_nil) (nomark _)) (pw_or1 (pt_cmp (pc_notN (pe_meth0 (pv 0) (c_Store (K := K) T) (m_Store_mender (K := K) T) (ok_Store_mender (P := P) (wo := wo) (K := K) T) (hr.mono (by decide)) (b_Store_mender T) .nil pass0)))))) (pss_one ps_never) pss_nil)
 (pss_cons (ps_set (i := 2) sc_need_game.nd rfl (Or.inl rfl) (pe_meth0 (pv 0) (c_Store (K := K) T) (m_Store_there (K := K) T) (ok_Store_there (P := P) (wo := wo) (K := K) T) (hr.mono (by decide)) (b_Store_there T) .nil pass0))
 (pss_one (ps_for PassesOwn.never rfl (pi_list (pv 1)) (pg_name (i := 3) sc_need_game.nd rfl (Or.inl rfl)) (pss_one (ps_if (pt_cmpR (op_notInK (K := K)) (pv 3) (pv 2) (by rfl)) (pss_one ps_never) pss_nil)))))), ?_⟩
    try dsimp only [cxK, cxP, cxW]
    walk_at "rds"
    refine ⟨G, p, S, N, rfl, st, fun al H1 sm1 eal => ?_⟩
    rw [hdl] at eal
    walk_at "rds"
    intro nl fnl
    walk_at "rds"
    refine ⟨al, nl, [], rfl, rfl, SqL.of (by
      have : al ≠ nl := ne_of_none eal fnl
      rw [upd_ne this]
      exact eal), SqL.of upd_same, ?_⟩
    walk_at "rds"
    refine k_orF ?_
    have sm2 := sm1.trans (same_new (o := .lst []) fnl)
    have st2 := st.same sm2
    obtain ⟨sdx2, es2⟩ := st2.ins
    walk_at "rds"
    refine ⟨G, p, S, N, rfl, st2, ?_⟩
    walk_at "rds"
    refine ⟨G, p, S, N, rfl, st2, fun tl H3 _ sm3 etl => ?_⟩
    have el3 := sm3 _ _ (sm2 _ _ el)
    walk_at "rds"
    refine k_iL (SqL.of el3) ?_
    refine k_for (itx_l K l (ns.map V.str)) (fun i σ' H' => (∃ o3, σ' = [some (.ref p), some (.ref l), some (.ref tl), o3]) ∧ H' = H3) ⟨⟨_, rfl⟩, rfl⟩ (fun i σ' H' _ h => by rw [h.2]; exact SqL.of el3) (fun i x σ' H' hx h => ?_) (fun σ' H' h => ?_)
    · obtain ⟨⟨o3, rfl⟩, rfl⟩ := h
      obtain ⟨nm, hn, rfl, hi⟩ := nth_str hx
      walk_at "rds"
      refine ⟨tl, _, rfl, .inl (SqL.of etl), rfl, flat_str _, ?_⟩
      have := inV_str (sortS_mem.mpr (hin nm (List.mem_of_getElem? hn)))
      refine x_bF (by show (!inV _ _) = false; rw [this]; rfl) ?_
      walk_at "rds"
      exact ⟨⟨_, rfl⟩, rfl⟩
    · obtain ⟨_, rfl⟩ := h
      exact q _ (sm2.trans sm3)
/-! ### moves -/
def movV : Option Str → V
  | none => .non
  | some n => .str n
def NamesOk (S : Sc) : Prop := ∀ b ∈ S.bl, NameOk b.t.nm
def spMoves (K : PySem.W.Frag) : Sp := fun vs H Q _ => ∃ G p S N, vs = [.ref p] ∧ StO K G H p S N ∧ NamesOk S ∧ ∀ l H', H l = none → Same H H' → H' l = some (.lst ((movL (S.bl.map (·.t))).map movV)) → Q (.ref l) H'
theorem ok_moves_of (T : Tx K mg) : FnOk P wo K mg base CX0 4 (He.ga K "moves_of") (fdA K (He.ga K "moves_of")) ["store"] (spMoves K) := by
  refine okD (F_moves_of T) sc_moves_of (fun vs H Q E h => ?_) (fun cdv A outer s H vs Q E hr h => ?_)
  · obtain ⟨G, p, S, N, rfl, _⟩ := h
    rfl
  · obtain ⟨G, p, S, N, rfl, st, nok, q⟩ := h
    refine ⟨_, (pss_cons (ps_set (i := 1) sc_moves_of.nd rfl (Or.inl rfl) (pe_lst (pa_cons pe_non pa_nil)))
 (pss_cons (ps_for PassesOwn.never rfl (pi_list (pe_meth0 (pv 0) (c_Store (K := K) T) (m_Store_there (K := K) T) (ok_Store_there (P := P) (wo := wo) (K := K) T) (hr.mono (by decide)) (b_Store_there T) .nil pass0)) (pg_name (i := 2) sc_moves_of.nd rfl (Or.inl rfl)) (pss_cons (ps_asg (pe_meth (pv 0) (c_Store (K := K) T) (m_Store_thing (K := K) T) (ok_Store_thing (P := P) (wo := wo) (K := K) T) (hr.mono (by decide)) (b_Store_thing T) .nil pass0 (pa_cons (pv 2) pa_nil)) (pg_tupK (K := K) (n := 5) rfl (pgs_cons (pg_name (i := 3) sc_moves_of.nd rfl (Or.inl rfl)) (pgs_cons (pg_name (i := 4) sc_moves_of.nd rfl (Or.inl rfl)) (pgs_cons (pg_name (i := 5) sc_moves_of.nd rfl (Or.inl rfl)) (pgs_cons (pg_name (i := 6) sc_moves_of.nd rfl (Or.inl rfl)) (pgs_cons (pg_name (i := 7) sc_moves_of.nd rfl (Or.inl rfl)) pgs_nil)))))))
 (pss_one (ps_if (pt_cmpR op_gt (pe_call (ok_turned (P := P) (wo := wo) (K := K) T) (hr.mono (by decide)) rfl (g_turned T) (F_turned T).kp (b_turned T) .nil pass0 (pa_cons (pe_meth (pv 0) (c_Store (K := K) T) (m_Store_wane_of (K := K) T) (ok_Store_wane_of (P := P) (wo := wo) (K := K) T) (hr.mono (by decide)) (b_Store_wane_of T) .nil pass0 (pa_cons (pv 2) pa_nil)) (pa_cons (pv 5) (pa_cons (pv 6) pa_nil)))) pe_int (nomark _)) (pss_one (ps_expr (pe_bm PySem.F.plainAttrs_list PySem.F.slot_list_append PySem.F.type_list_append mt_append (pv 1) (pa_cons (pv 2) pa_nil)))) pss_nil))))
 (pss_one (ps_ret (pv 1))))), ?_⟩
    try dsimp only [cxK, cxP, cxW]
    walk_at "rds"
    intro fl ff
    have st1 := st.same (same_new (o := .lst [V.non]) ff)
    obtain ⟨sdx, es⟩ := st1.ins
    walk_at "rds"
    refine ⟨G, p, S, N, rfl, st1, fun tl H1 ftl sm1 etl => ?_⟩
    have efl := sm1 _ _ (upd_same (H := H) (a := fl) (o := .lst [V.non]))
    have sm01 := (same_new (o := .lst [V.non]) ff).trans sm1
    walk_at "rds"
    refine k_iL (SqL.of etl) ?_
    have ntl : fl ≠ tl := ne_of_none upd_same ftl
    refine k_for (itx_l K tl ((sortS (S.bl.map (·.t.nm))).map V.str)) (fun i σ' H' => (∃ o2 o3 o4 o5 o6 o7, σ' = [some (.ref p), some (.ref fl), o2, o3, o4, o5, o6, o7]) ∧ Same H H' ∧ H' tl = some (.lst ((sortS (S.bl.map (·.t.nm))).map V.str)) ∧
      H' fl = some (.lst ((none :: (((sortS (S.bl.map (·.t.nm))).take i).filter fun n => ((look (S.bl.map (·.t)) n).bind waneT).isSome).map some).map movV))) ?_ (fun i σ' H' _ h => SqL.of h.2.2.1) (fun i x σ' H' hx h => ?_) (fun σ' H' h => ?_)
    · refine ⟨⟨_, _, _, _, _, _, rfl⟩, sm01, etl, ?_⟩
      simp only [List.take_zero, List.filter_nil, List.map_nil, List.map_cons]
      exact efl
    · obtain ⟨⟨o2, o3, o4, o5, o6, o7, rfl⟩, sm, et, ef⟩ := h
      obtain ⟨nm, hn, rfl, hi⟩ := nth_str hx
      obtain ⟨b, hb, rfl⟩ := List.mem_map.mp (sortS_mem.mp (List.mem_of_getElem? hn))
      have lk := look_bl st.sc.ok.nn hb
      have st2 := st.same sm
      obtain ⟨sdx2, es2⟩ := st2.ins
      have l8 := st.sc.ok.l8
      have ok := (st.sc.bd b hb).ok
      walk_at "rds"
      refine ⟨G, p, S, N, b, rfl, st2, hb, nok b hb, fun r H2 as sm2 er => ?_⟩
      have st3 := st2.same sm2
      obtain ⟨sdx3, es3⟩ := st3.ins
      walk_at "rds"
      refine ⟨G, p, S, N, b, rfl, st3, hb, nok b hb, fun H3 sm3 => ?_⟩
      have st4 := st3.same sm3
      walk_at "rds"
      refine ⟨G, b.wa, b.t.wn, b.t.fo, b.t.si, rfl, (st4.sc.bd b hb).w, ok.w, ok.i0, ?_⟩
      walk_at "rds"
      have sm23 := sm2.trans sm3
      have ef3 := sm23 _ _ ef
      have et3 := sm23 _ _ et
      refine k_if (fun hc => ?_) (fun hc => ?_)
      · have h0 := of_decide_eq_true hc
        have hsome : ((look (S.bl.map (·.t)) b.t.nm).bind waneT).isSome = true := by
          rw [lk]
          unfold waneT
          simp only [Option.bind_some]
          rw [if_neg (by omega)]
          rfl
        walk_at "rds"
        refine k_bmL ef3 ?_
        walk_at "rds"
        refine k_append (xs := _) ef3 (by
          rw [List.length_map, List.length_cons, List.length_map]
          have h1 := List.length_filter_le (fun n => ((look (S.bl.map (·.t)) n).bind waneT).isSome) ((sortS (S.bl.map (·.t.nm))).take i)
          have h2 : ((sortS (S.bl.map (·.t.nm))).take i).length ≤ 8 := by
            rw [List.length_take, sortS_length, List.length_map]
            omega
          exact sz8 (by omega)) ?_
        walk_at "rds"
        refine ⟨⟨_, _, _, _, _, _, rfl⟩, fun c o hc => ?_, (upd_ne ntl.symm).trans et3, ?_⟩
        · have y : c ≠ fl := ne_of_none hc ff
          exact (upd_ne y).trans ((sm.trans sm23) _ _ hc)
        · rw [List.take_add_one, hn, List.filter_append]
          simp only [Option.toList_some, List.filter_cons, List.filter_nil, hsome, if_true, List.map_append, List.map_cons, List.map_nil]
          exact upd_same
      · have h0 := of_decide_eq_false hc
        have hnone : ((look (S.bl.map (·.t)) b.t.nm).bind waneT).isSome = false := by
          rw [lk]
          unfold waneT
          simp only [Option.bind_some]
          rw [if_pos (by omega)]
          rfl
        walk_at "rds"
        refine ⟨⟨_, _, _, _, _, _, rfl⟩, sm.trans sm23, et3, ?_⟩
        rw [List.take_add_one, hn, List.filter_append]
        simp only [Option.toList_some, List.filter_cons, List.filter_nil, hnone, Bool.false_eq_true, if_false, List.append_nil]
        exact ef3
    · obtain ⟨⟨o2, o3, o4, o5, o6, o7, rfl⟩, sm, et, ef⟩ := h
      walk_at "rds"
      rw [List.length_map, List.take_length] at ef
      refine q fl _ ff sm ?_
      unfold movL
      rw [List.map_map]
      exact ef
end
end Wh

/-! ## S7b -/
set_option Elab.async false
set_option linter.all false
set_option maxRecDepth 100000
set_option maxHeartbeats 4000000


namespace Wh
open PySem PySem.Spec PyProof.Rows L2
section
variable {P : Program} {wo : World} {K : PySem.W.Frag} {mg : Str → Option Value} {base : Heap}
/-! ### moved -/
theorem StO.all {K : PySem.W.Frag} {G : Addr → Prop} {H : Hp} {p : Addr} {S : Sc} {N : Nat} (h : StO K G H p S N) : StO K (fun a => H a ≠ none ∧ ¬ own S a ∧ a ≠ p) H p S N :=
  ⟨h.ins, fun g => g.2.2 rfl, h.o, h.sc.gmono' (fun a g => ⟨h.sc.dm a g, fun o => h.sc.notG o g, fun z => h.g (z ▸ g)⟩) (fun a g => g.1) fun a o g => g.2.1 o⟩
theorem shrink3 {K : PySem.W.Frag} {G G' : Addr → Prop} {H H' : Hp} {S S' : Sc} {N N' : Nat} (h0 : SceneAt K G H S N) (h : SceneAt K G' H' S' N') (k : Kp G H H') (i : ∀ a, G a → G' a) (ho : S'.ho = S.ho) (pr : S'.pr = S.pr) (fr : ∀ b ∈ S'.bl, ∃ c ∈ S.bl, c.wa = b.wa ∧ c.t.wn = b.t.wn) : SceneAt K G H' S' N' :=
  ⟨h0.dm.kp k, h.ins, fun g => h.gq (i _ g), fun g => h.gbo (i _ g), fun g => h.gma (i _ g), fun g => h.gda (i _ g), fun g => h.gta (i _ g), by rw [ho]; exact h0.gho, by rw [pr]; exact h0.gpr, h.ho, h.pr, h.bo, h.ma, h.da, h.dd, h.ta, fun b hb => by
    obtain ⟨c, hc, e2, e3⟩ := fr b hb
    refine ⟨(h.bd b hb).ex, fun g => (h.bd b hb).g (i _ g), ?_, (h.bd b hb).ok⟩
    have := (h0.bd c hc).w.kp k
    rw [e2, e3] at this
    exact this, h.n1, h.n2, h.ok⟩
def spMoved (K : PySem.W.Frag) : Sp := fun vs H Q _ => ∃ G p S N mv, vs = [.ref p, movV mv] ∧ StO K G H p S N ∧ N ≤ 1000 ∧ S.ds = [] ∧ 0 ≤ S.mo ∧ (∀ n, mv = some n → NameOk n) ∧
  ∀ p' S' H', Same H H' → StO K (fun a => G a ∨ (H a = none ∧ H' a ≠ none ∧ ¬ own S' a ∧ a ≠ p')) H' p' S' N → (∀ a, own S' a → H a = none) → H p' = none → S'.hold = S.hold → S'.pres = S.pres → S'.ds = [] → 0 ≤ S'.mo → S'.bl.map (·.t) = stepL S.hold S.pres mv (S.bl.map (·.t)) → Q (.ref p') H'
theorem hoursAll : HoursOk [0, 1, 2, 3, 4, 5, 6, 7, 8, 9, 10, 11, 12, 13, 14, 15, 16, 17, 18, 19, 20, 21, 22, 23] := by
  refine ⟨by simp, by decide, by decide, fun k hk => ?_⟩
  have : k < 23 := by
    have : k + 1 < 24 := hk
    omega
  clear hk
  revert this
  revert k
  decide
theorem hour_in (m : Int) : m % 24 ∈ ([0, 1, 2, 3, 4, 5, 6, 7, 8, 9, 10, 11, 12, 13, 14, 15, 16, 17, 18, 19, 20, 21, 22, 23] : List Int) := by
  have h1 := Int.emod_nonneg m (show (24 : Int) ≠ 0 by decide)
  have h2 := Int.emod_lt_of_pos m (show (0 : Int) < 24 by decide)
  simp only [List.mem_cons, List.not_mem_nil, or_false]
  omega
theorem same_of_kp {G : Addr → Prop} {H H1 H' : Hp} (s : Same H H1) (k : Kp G H1 H') (g : ∀ a, H a ≠ none → G a) : Same H H' := fun b o e => k.g _ _ (g b (by rw [e]; simp)) (s _ _ e)
theorem fin2_ {K : PySem.W.Frag} {G G2 : Addr → Prop} {H H1 H' : Hp} {p p' : Addr} {S S1 S' : Sc} {N : Nat} (st : StO K G H p S N) (st2 : StO K G2 H' p' S' N) (scr : SceneAt K (fun a => G a ∨ (H a = none ∧ H1 a ≠ none ∧ ¬ own S1 a ∧ a ≠ p')) H' S' N) (kpr : Kp (fun a => G a ∨ (H a = none ∧ H1 a ≠ none ∧ ¬ own S1 a ∧ a ≠ p')) H1 H') (fr1 : ∀ a, own S1 a → H a = none) (fp : H p' = none) (oo : ∀ a, own S' a → own S1 a ∨ a = S'.da) (fd : H S'.da = none) (sm : Same H H') : StO K (fun a => G a ∨ (H a = none ∧ H' a ≠ none ∧ ¬ own S' a ∧ a ≠ p')) H' p' S' N := by
  have of_ : ∀ a, own S' a → H a = none := fun a o => (oo a o).elim (fr1 a) fun z => z ▸ fd
  refine ⟨st2.ins, fun g => g.elim (fun g => st.sc.dm _ g fp) (fun g => g.2.2.2 rfl), st2.o, scr.gmono' (fun a g => g.elim .inl fun g => ?_) (fun a g => ?_) fun a o g => ?_⟩
  · exact .inr ⟨g.1, scr.dm a (.inr g), fun o => scr.notG o (.inr g), g.2.2.2⟩
  · rcases g with g | g
    · exact st.sc.dm.kp (Kp.same sm) a g
    · exact g.2.1
  · rcases g with g | g
    · exact st.sc.dm a g (of_ a o)
    · exact g.2.2.1 o
theorem fin_ {K : PySem.W.Frag} {G G2 : Addr → Prop} {H H1 H' : Hp} {p p' : Addr} {S S1 S' : Sc} {N : Nat} (st : StO K G H p S N) (st2 : StO K G2 H' p' S' N) (scr : SceneAt K (fun a => G a ∨ (H a = none ∧ H1 a ≠ none ∧ ¬ own S1 a ∧ a ≠ p')) H' S' N) (kpr : Kp (fun a => G a ∨ (H a = none ∧ H1 a ≠ none ∧ ¬ own S1 a ∧ a ≠ p')) H1 H') (fr1 : ∀ a, own S1 a → H a = none) (fp : H p' = none) (oo : ∀ a, own S' a → own S1 a) (sm : Same H H') : StO K (fun a => G a ∨ (H a = none ∧ H' a ≠ none ∧ ¬ own S' a ∧ a ≠ p')) H' p' S' N :=
  fin2_ st st2 scr kpr fr1 fp (fun a o => .inl (oo a o)) (fr1 _ (oo _ own_da)) sm
theorem ok_moved (T : Tx K mg) : FnOk P wo K mg base CX0 8 (He.ga K "moved") (fdA K (He.ga K "moved")) ["store", "move"] (spMoved K) := by
  refine okD (F_moved T) sc_moved (fun vs H Q E h => ?_) (fun cdv A outer s H vs Q E hr h => ?_)
  · obtain ⟨G, p, S, N, mv, rfl, _⟩ := h
    rfl
  · obtain ⟨G, p, S, N, mv, rfl, st, nb, hds, m0, nok, q⟩ := h
    obtain ⟨sdx, es⟩ := st.ins
    refine ⟨_, (pss_cons (ps_set (i := 2) sc_moved.nd rfl (Or.inl rfl) (pe_meth0 (pv 0) (c_Store (K := K) T) (m_Store_copied (K := K) T) (ok_Store_copied (P := P) (wo := wo) (K := K) T) (hr.mono (by decide)) (b_Store_copied T) .nil pass0))
 (pss_cons (ps_if (pt_cmp (pc_isN (pv 1))) (pss_cons (ps_expr (pe_meth (pv 2) (c_Store (K := K) T) (m_Store_pass_on (K := K) T) (ok_Store_pass_on (P := P) (wo := wo) (K := K) T) (hr.mono (by decide)) (b_Store_pass_on T) .nil pass0 (pa_cons pe_int pa_nil)))
 (pss_one (ps_ret (pv 2)))) pss_nil)
 (pss_cons (ps_set (i := 3) sc_moved.nd rfl (Or.inl rfl) (pe_meth (pv 2) (c_Store (K := K) T) (m_Store_hire (K := K) T) (ok_Store_hire (P := P) (wo := wo) (K := K) T) (hr.mono (by decide)) (b_Store_hire T) .nil pass0 (pa_cons (pv 1) (pa_cons (pe_glob (v := .ref _) (by rfl) (g_HOURS (K := K) T) rfl) pa_nil))))
 (pss_cons (ps_expr (pe_meth (pv 2) (c_Store (K := K) T) (m_Store_pass_on (K := K) T) (ok_Store_pass_on (P := P) (wo := wo) (K := K) T) (hr.mono (by decide)) (b_Store_pass_on T) .nil pass0 (pa_cons pe_int pa_nil)))
 (pss_cons (ps_expr (pe_meth (pv 2) (c_Store (K := K) T) (m_Store_dismiss (K := K) T) (ok_Store_dismiss (P := P) (wo := wo) (K := K) T) (hr.mono (by decide)) (b_Store_dismiss T) .nil pass0 (pa_cons (pv 3) pa_nil)))
 (pss_one (ps_ret (pv 2)))))))), ?_⟩
    try dsimp only [cxK, cxP, cxW]
    walk_at "rds"
    refine ⟨G, p, S, N, rfl, st, fun p' S1 H1 sm1 st1r fr1 fp lk => ?_⟩
    have st1 := st1r.all
    have iall : ∀ a, (G a ∨ (H a = none ∧ H1 a ≠ none ∧ ¬ own S1 a ∧ a ≠ p')) → H1 a ≠ none ∧ ¬ own S1 a ∧ a ≠ p' := fun a g => ⟨st1r.sc.dm a g, fun o => st1r.sc.notG o g, fun z => st1r.g (z ▸ g)⟩
    have gall : ∀ a, H a ≠ none → H1 a ≠ none ∧ ¬ own S1 a ∧ a ≠ p' := fun a ha => by
      refine ⟨?_, fun o => ha (fr1 a o), fun z => ha (z ▸ fp)⟩
      cases z : H a with
      | none => exact absurd z ha
      | some o => rw [sm1 _ _ z]; simp
    have hds1 : S1.ds = [] := lk.ds.trans hds
    have m1 : 0 ≤ S1.mo := by rw [lk.mo]; exact m0
    obtain ⟨pdx, ep⟩ := st1.ins
    cases mv with
    | none =>
      dsimp only [movV]
      walk_at "rds"
      refine ⟨_, p', S1, N, rfl, st1, nb, (fun d hd => by rw [hds1] at hd; cases hd), fun S2 H2 kp2 st2 stp => ?_⟩
      walk_at "rds"
      have hq : S2.hold = S1.hold ∧ S2.pres = S1.pres ∧ S2.ds = S1.ds ∧ S2.mo = S1.mo + 1 := by
        obtain ⟨bl', rfl⟩ := stp.bl
        exact ⟨rfl, rfl, rfl, rfl⟩
      have hq5 : S2.ho = S1.ho ∧ S2.pr = S1.pr := by
        obtain ⟨bl', rfl⟩ := stp.bl
        exact ⟨rfl, rfl⟩
      have kpr := kp2.mono (G' := fun a => G a ∨ (H a = none ∧ H1 a ≠ none ∧ ¬ own S1 a ∧ a ≠ p')) iall
      have scr := shrink3 st1r.sc st2.sc kpr iall hq5.1 hq5.2 (fun b hb => by
        obtain ⟨c, hc, _, e2, e3, _⟩ := stp.from_ b hb
        exact ⟨c, hc, e2, e3⟩)
      refine q p' S2 H2 (same_of_kp sm1 kp2 gall) (fin_ st st2 scr kpr fr1 fp (fun a o => stp.own o) (same_of_kp sm1 kp2 gall)) (fun a o => fr1 a (stp.own o)) fp (hq.1.trans lk.hold) (hq.2.1.trans lk.pres) (hq.2.2.1.trans hds1) (by omega) ?_
      rw [stp.ts]
      unfold turnL stepL
      rw [hds1, lk.hold, lk.ts]
      rfl
    | some nm =>
      dsimp only [movV]
      walk_at "rds"
      have htab := sqHOURS T
      refine ⟨_, p', S1, N, nm, He.ga K "HOURS", [0, 1, 2, 3, 4, 5, 6, 7, 8, 9, 10, 11, 12, 13, 14, 15, 16, 17, 18, 19, 20, 21, 22, 23], rfl, st1, hds1, nok nm rfl, .inr (fun H0 => htab H0), hoursAll, fun S2 H2 kp2 st2 hS2 => ?_⟩
      obtain ⟨pdx2, ep2⟩ := st2.ins
      walk_at "rds"
      have hds2 : S2.ds = [(S1.hi + 1, nm, [0, 1, 2, 3, 4, 5, 6, 7, 8, 9, 10, 11, 12, 13, 14, 15, 16, 17, 18, 19, 20, 21, 22, 23])] := by rw [hS2]
      have ho2 : ∀ a, own S2 a → own S1 a := fun a o => by rw [hS2] at o; exact o
      have hq2 : S2.hold = S1.hold ∧ S2.pres = S1.pres ∧ S2.mo = S1.mo ∧ S2.bl = S1.bl := by rw [hS2]; exact ⟨rfl, rfl, rfl, rfl⟩
      refine ⟨_, p', S2, N, rfl, st2, nb, fun d hd => ?_, fun S3 H3 kp3 st3 stp => ?_⟩
      · rw [hds2] at hd
        obtain rfl := List.mem_singleton.mp hd
        exact hour_in _
      obtain ⟨pdx3, ep3⟩ := st3.ins
      have hq3 : S3.hold = S2.hold ∧ S3.pres = S2.pres ∧ S3.ds = S2.ds ∧ S3.mo = S2.mo + 1 := by
        obtain ⟨bl', rfl⟩ := stp.bl
        exact ⟨rfl, rfl, rfl, rfl⟩
      walk_at "rds"
      refine ⟨_, p', S3, N, _, rfl, st3, hq3.2.2.1.trans hds2, fun S4 H4 kp4 st4 hS4 f4 => ?_⟩
      walk_at "rds"
      have hq4 : S4.hold = S3.hold ∧ S4.pres = S3.pres ∧ S4.ds = [] ∧ S4.mo = S3.mo ∧ S4.bl = S3.bl := by rw [hS4]; exact ⟨rfl, rfl, rfl, rfl, rfl⟩
      have kpall := kp2.trans (kp3.trans kp4)
      have f4' : H S4.da = none := by
        cases z : H S4.da with
        | none => rfl
        | some o =>
          have := (kp2.trans kp3).g _ _ (gall _ (by rw [z]; simp)) (sm1 _ _ z)
          rw [f4] at this
          cases this
      have hq5 : S4.ho = S1.ho ∧ S4.pr = S1.pr := by
        rw [hS4]
        obtain ⟨bl', rfl⟩ := stp.bl
        rw [hS2]
        exact ⟨rfl, rfl⟩
      have o31 : ∀ a, own S4 a → own S1 a ∨ a = S4.da := fun a o => by
        rw [hS4] at o
        have lift : own S3 a → own S1 a ∨ a = S4.da := fun o3 => .inl (ho2 a (stp.own o3))
        rcases o with z | z | z | z | z | z
        · exact lift (.inl z)
        · exact lift (.inr (.inl z))
        · exact lift (.inr (.inr (.inl z)))
        · exact .inr z
        · exact lift (.inr (.inr (.inr (.inr (.inl z)))))
        · exact lift (.inr (.inr (.inr (.inr (.inr z)))))
      have kpr := kpall.mono (G' := fun a => G a ∨ (H a = none ∧ H1 a ≠ none ∧ ¬ own S1 a ∧ a ≠ p')) iall
      have scr := shrink3 st1r.sc st4.sc kpr iall hq5.1 hq5.2 (fun b hb => by
        rw [hq4.2.2.2.2] at hb
        obtain ⟨c, hc, _, e2, e3, _⟩ := stp.from_ b hb
        rw [show ({ S2 with mo := S2.mo + 1 } : Sc).bl = S1.bl from hq2.2.2.2] at hc
        exact ⟨c, hc, e2, e3⟩)
      refine q p' S4 H4 (same_of_kp sm1 kpall gall) (fin2_ st st4 scr kpr fr1 fp o31 f4' (same_of_kp sm1 kpall gall)) (fun a o => ?_) fp (hq4.1.trans (hq3.1.trans (hq2.1.trans lk.hold))) (hq4.2.1.trans (hq3.2.1.trans (hq2.2.1.trans lk.pres))) hq4.2.2.1 (by omega) ?_
      · have o3 : own S3 a ∨ a = S4.da := by
          rw [hS4] at o
          rcases o with z | z | z | z | z | z
          · exact .inl (.inl z)
          · exact .inl (.inr (.inl z))
          · exact .inl (.inr (.inr (.inl z)))
          · exact .inr z
          · exact .inl (.inr (.inr (.inr (.inr (.inl z)))))
          · exact .inl (.inr (.inr (.inr (.inr (.inr z)))))
        rcases o3 with o3 | o3
        · exact fr1 a (ho2 a (stp.own o3))
        · rw [o3]; exact f4'
      · rw [hq4.2.2.2.2, stp.ts]
        unfold turnL stepL
        rw [hds2, hq2.1, hq2.2.1, hq2.2.2.2, lk.hold, lk.pres, lk.ts]
        rfl
end
end Wh

/-! ## S7c -/
set_option Elab.async false
set_option linter.all false
set_option maxRecDepth 100000
set_option maxHeartbeats 4000000


namespace Wh
open PySem PySem.Spec PyProof.Rows L2
section
variable {P : Program} {wo : World} {K : PySem.W.Frag} {mg : Str → Option Value} {base : Heap}
/-! ### lost within turns -/
def EdgeAt (H : Hp) (a : Addr) (e : Option Str × Nat) : Prop := H a = some (.tup [movV e.1, .int (e.2 : Nat)])
def RowAt (H : Hp) (a : Addr) (row : List (Option Str × Nat)) : Prop := ∃ ts : List Addr, H a = some (.lst (ts.map V.ref)) ∧ Paired (EdgeAt H) ts row
def WaysAt (H : Hp) (w : Addr) (W : Wy) : Prop := ∃ as : List Addr, H w = some (.lst (as.map V.ref)) ∧ Paired (RowAt H) as W
theorem RowAt.same {H H' : Hp} {a : Addr} {row : List (Option Str × Nat)} (h : RowAt H a row) (k : Same H H') : RowAt H' a row := by
  obtain ⟨ts, e, p⟩ := h
  exact ⟨ts, k _ _ e, Paired.mapP p fun a e z => k _ _ z⟩
theorem WaysAt.same {H H' : Hp} {w : Addr} {W : Wy} (h : WaysAt H w W) (k : Same H H') : WaysAt H' w W := by
  obtain ⟨as, e, p⟩ := h
  exact ⟨as, k _ _ e, Paired.mapP p fun a e z => z.same k⟩
theorem el_nameI {σ : L2.St} {H : Hp} {te : TE} {vs : List Nat} {j i : Nat} {D : Addr} {x : V} {Pv : Nat → List V → Addr → Hp → Prop} (hw : wipe ((wipe σ vs).set j (some x)) vs = wipe σ vs) (q : te ((wipe σ vs).set j (some x)) H (kEl Pv i D)) :
    gName j x (wipe σ vs) H fun σ2 H2 => wipe σ2 vs = wipe σ vs ∧ tYes σ2 H2 fun b H3 => if b = true then te σ2 H3 (kEl Pv i D) else ∃ acc, Pv (i + 1) acc D H3 := ⟨hw, q⟩
/-- where a list of refs stands -/
theorem nth_ref {as : List Addr} {i : Nat} {x : V} (hx : (as.map V.ref)[i]? = some x) : ∃ a, as[i]? = some a ∧ x = .ref a ∧ i < as.length := by
  rw [List.getElem?_map] at hx
  cases hy : as[i]? with
  | none => rw [hy] at hx; cases hx
  | some z => rw [hy] at hx; exact ⟨z, rfl, (Option.some.inj hx).symm, (List.getElem?_eq_some_iff.mp hy).1⟩
theorem nth_rng {n i : Nat} {x : V} (hx : ((List.range n).map fun (k : Nat) => V.int (0 + (k : Int)))[i]? = some x) : i < n ∧ x = .int (i : Nat) := by
  rw [List.getElem?_map] at hx
  cases hy : (List.range n)[i]? with
  | none => rw [hy] at hx; cases hx
  | some z =>
    obtain ⟨h1, h2⟩ := List.getElem?_eq_some_iff.mp hy
    rw [List.length_range] at h1
    rw [List.getElem_range] at h2
    rw [hy] at hx
    refine ⟨h1, ?_⟩
    rw [← Option.some.inj hx, ← h2]
    show V.int (0 + (i : Int)) = _
    rw [Int.zero_add]
def ecnt (W : Wy) (p t : Nat) : Nat := ((W.getD p []).filter fun q => decide (q.2 = t)).length
def AhAt (H : Hp) (bs : List Addr) (A : Nat → List Nat) : Prop := ∀ t b, bs[t]? = some b → H b = some (.lst ((A t).map fun (p : Nat) => V.int (p : Int)))
def addA (A : Nat → List Nat) (u p : Nat) : Nat → List Nat := fun t => if t = u then A t ++ [p] else A t
theorem addA_same (A : Nat → List Nat) (u p : Nat) : addA A u p u = A u ++ [p] := if_pos rfl
theorem addA_ne {A : Nat → List Nat} {u p t : Nat} (h : t ≠ u) : addA A u p t = A t := if_neg h
theorem getD_nth {W : Wy} {i : Nat} {row : List (Option Str × Nat)} (h : W[i]? = some row) : W.getD i [] = row := by
  rw [List.getD_eq_getElem?_getD, h]
  rfl
theorem nd_nth {bs : List Addr} (nd : bs.Nodup) {t u : Nat} {b : Addr} (h : bs[t]? = some b) (k : bs[u]? = some b) : t = u := by
  obtain ⟨h1, h2⟩ := List.getElem?_eq_some_iff.mp h
  obtain ⟨k1, k2⟩ := List.getElem?_eq_some_iff.mp k
  exact (List.getElem_inj nd).mp (h2.trans k2.symm)
theorem maxD0_nat (l : List Nat) : maxD0 (l.map fun (n : Nat) => (n : Int)) = (max0 l : Nat) := by
  have key : ∀ (l : List Nat) (a : Nat), (l.map fun (n : Nat) => (n : Int)).foldl max (a : Int) = ((l.foldl max a : Nat) : Int) := fun l => by
    induction l with
    | nil => intro a; rfl
    | cons x r ih =>
      intro a
      rw [List.map_cons, List.foldl_cons, List.foldl_cons, ← ih]
      congr 1
      omega
  cases l with
  | nil => rfl
  | cons x r =>
    show (r.map _).foldl max (x : Int) = _
    rw [key]
    unfold max0
    rw [List.foldl_cons, Nat.max_eq_right (Nat.zero_le x)]
def LfAt (H : Hp) (la : Addr) (n : Nat) (lf : Nat → Nat) : Prop := H la = some (.lst ((List.range n).map fun (p : Nat) => V.int (lf p : Nat)))
theorem range_set {n j : Nat} {f : Nat → Nat} {v : Nat} (h : j < n) : ((List.range n).map fun (p : Nat) => V.int (f p : Nat)).set j (.int (v : Nat)) = (List.range n).map fun (p : Nat) => V.int ((if p = j then v else f p : Nat) : Nat) := by
  refine List.ext_getElem? fun k => ?_
  rw [List.getElem?_set, List.getElem?_map, List.getElem?_map]
  by_cases hk : k < n
  · rw [List.getElem?_range hk]
    by_cases z : j = k
    · subst z
      simp [hk]
    · rw [if_neg z]
      simp only [Option.map_some]
      rw [if_neg (fun y => z y.symm)]
  · rw [List.getElem?_eq_none (by rw [List.length_range]; omega)]
    by_cases z : j = k
    · omega
    · rw [if_neg z]; rfl
def nuK (nu : Nu) : List (Key × V) := nu.map fun e => (Sum.inl (e.1 : Int), V.int (e.2 : Int))
theorem valV_nu : ∀ (nu : Nu) (p : Nat), valV (nuK nu) (Sum.inl (p : Int)) = (numAt nu p).map fun m => V.int (m : Int)
  | [], _ => rfl
  | e :: r, p => by
    have ih := valV_nu r p
    unfold nuK at ih ⊢
    rw [List.map_cons]
    by_cases h : e.1 = p
    · rw [valV_pos (by rw [h])]
      unfold numAt
      rw [List.find?_cons, decide_eq_true h]
      rfl
    · rw [valV_neg (fun z => h (by have := Sum.inl.inj z; exact Int.ofNat.inj this)), ih]
      unfold numAt
      rw [List.find?_cons, decide_eq_false h]
theorem php : ∀ {l m : List Nat}, l.Nodup → (∀ x ∈ l, x ∈ m) → l.length ≤ m.length
  | [], _, _, _ => Nat.zero_le _
  | x :: r, m, nd, h => by
    have nd2 := List.nodup_cons.mp nd
    have hx := h x (List.mem_cons_self ..)
    have := php (l := r) (m := m.erase x) nd2.2 fun y hy => (List.mem_erase_of_ne (fun (z : y = x) => nd2.1 (z ▸ hy))).mpr (h y (List.mem_cons_of_mem _ hy))
    rw [List.length_erase_of_mem hx] at this
    have : 0 < m.length := List.length_pos_of_mem hx
    rw [List.length_cons]
    omega
theorem nu_le {W : Wy} {nu : Nu} (h : NumOk W nu) : nu.length ≤ W.length := by
  have := php (m := List.range W.length) h.nd fun x hx => by
    obtain ⟨e, he, rfl⟩ := List.mem_map.mp hx
    exact List.mem_range.mpr (h.lt e he)
  rw [List.length_map, List.length_range] at this
  exact this
theorem last_of {l : List Nat} (h : l ≠ []) : ∃ m p, l = m ++ [p] := ⟨l.dropLast, l.getLast h, (List.dropLast_concat_getLast h).symm⟩
theorem yesI {σ : L2.St} {H : Hp} {te : TE} {i : Nat} {D : Addr} {Pv : Nat → List V → Addr → Hp → Prop} (q : te σ H (kEl Pv i D)) : tYes σ H fun b H3 => if b = true then te σ H3 (kEl Pv i D) else ∃ acc, Pv (i + 1) acc D H3 := q
def spLwt : Sp := fun vs H Q _ => ∃ w W, vs = [.ref w] ∧ WaysAt H w W ∧ W.length ≤ 60 ∧ (∀ r ∈ W, r.length ≤ 9 ∧ ∀ q ∈ r, q.2 < W.length) ∧
  ∀ d nu H', Same H H' → H' d = some (.dK (nuK nu)) → NumOk W nu → NumAll W nu → Q (.ref d) H'
theorem ok_lost_within_turns (T : Tx K mg) : FnOk P wo K mg base CX0 1 (He.ga K "lost_within_turns") (fdA K (He.ga K "lost_within_turns")) ["ways"] (spLwt) := by
  refine okD (F_lost_within_turns T) sc_lost_within_turns (fun vs H Q E h => ?_) (fun cdv A outer s H vs Q E hr h => ?_)
  · obtain ⟨w, W, rfl, _⟩ := h
    rfl
  · obtain ⟨w, W, rfl, hw, l60, wok, q⟩ := h
    obtain ⟨as, ew, pw⟩ := id hw
    have al : as.length = W.length := Paired.length pw
    refine ⟨_, (pss_cons (ps_set (i := 1) sc_lost_within_turns.nd rfl (Or.inr rfl) (pe_lc (own := [("found", 2)]) rfl sc_lost_within_turns.nd (pi_list (pv 0)) (blkOk_by (N := ["ways", "left", "found", "ahead", "place", "move", "to", "numbers", "queue", "one"]) (sc := defScope s_lost_within_turns) (by decide +kernel)) (fun _ _ _ _ _ => (pg_name (i := 2) sc_lost_within_turns.nd rfl (Or.inl rfl))) (fun _ _ _ _ _ => pts_nil) (fun _ _ _ _ _ => (pe_callB (call_len_seqK (K := K)) (by rfl) (z_len T) (by decide +kernel) (pa_cons (pv 2) pa_nil)))))
 (pss_cons (ps_setLc (i := 3) (own := [("found", 2)]) rfl sc_lost_within_turns.nd rfl rfl (sw_true rfl rfl rfl (by decide +kernel)) (pi_list (pv 0)) (blkOk_by (N := ["ways", "left", "found", "ahead", "place", "move", "to", "numbers", "queue", "one"]) (sc := defScope s_lost_within_turns) (by decide +kernel)) (fun _ _ _ _ _ => (pg_name (i := 2) sc_lost_within_turns.nd rfl (Or.inl rfl))) (fun _ _ _ _ _ => pts_nil) (fun _ _ _ _ _ => (pe_lst pa_nil)))
 (pss_cons (ps_for PassesOwn.never rfl (pi_range1 rfl (z_range T) (pa_cons (pe_callB (call_len_seqK (K := K)) (by rfl) (z_len T) (by decide +kernel) (pa_cons (pv 0) pa_nil)) pa_nil)) (pg_name (i := 4) sc_lost_within_turns.nd rfl (Or.inl rfl)) (pss_one (ps_for PassesOwn.never rfl (pi_list (pe_ix (ix_listK (K := K)) (pv 0) (pv 4) (fun _ _ => rfl))) (pg_tupK (K := K) (n := 2) rfl (pgs_cons (pg_name (i := 5) sc_lost_within_turns.nd rfl (Or.inl rfl)) (pgs_cons (pg_name (i := 6) sc_lost_within_turns.nd rfl (Or.inl rfl)) pgs_nil))) (pss_one (ps_expr (pe_bm PySem.F.plainAttrs_list PySem.F.slot_list_append PySem.F.type_list_append mt_append (pe_ix (ix_listK (K := K)) (pv 3) (pv 6) (fun _ _ => rfl)) (pa_cons (pv 4) pa_nil)))))))
 (pss_cons (ps_set (i := 7) sc_lost_within_turns.nd rfl (Or.inr rfl) pe_dnewK)
 (pss_cons (ps_setLc (i := 8) (own := [("place", 4)]) rfl sc_lost_within_turns.nd rfl rfl (sw_true rfl rfl rfl (by decide +kernel)) (pi_range1 rfl (z_range T) (pa_cons (pe_callB (call_len_seqK (K := K)) (by rfl) (z_len T) (by decide +kernel) (pa_cons (pv 0) pa_nil)) pa_nil)) (blkOk_by (N := ["ways", "left", "found", "ahead", "place", "move", "to", "numbers", "queue", "one"]) (sc := defScope s_lost_within_turns) (by decide +kernel)) (fun _ _ _ _ _ => (pg_name (i := 4) sc_lost_within_turns.nd rfl (Or.inl rfl))) (fun _ _ _ _ _ => (pts_one (pt_cmpR op_eq (pe_ix (ix_listK (K := K)) (pv 1) (pv 4) (fun _ _ => rfl)) pe_int (nomark _)))) (fun _ _ _ _ _ => (pv 4)))
 (pss_cons (ps_while PassesOwn.never (pt_cmpR (op_neNil hr.units) (pv 8) (pe_lst pa_nil) (nomark _)) (pss_cons (ps_set (i := 4) sc_lost_within_turns.nd rfl (Or.inl rfl) (pe_bm0 PySem.F.plainAttrs_list PySem.F.slot_list_pop PySem.F.type_list_pop mt_pop (pv 8)))
 (pss_cons (ps_dput (hu_of hr) (pv 7) (pv 4) (pe_op op_add pe_int (pe_callBK (cr_maxD rfl hr.units) (by rfl) (z_max T) (by decide +kernel) (pa_cons (pe_lc (own := [("move", 5), ("to", 6)]) rfl sc_lost_within_turns.nd (pi_list (pe_ix (ix_listK (K := K)) (pv 0) (pv 4) (fun _ _ => rfl))) (blkOk_by (N := ["ways", "left", "found", "ahead", "place", "move", "to", "numbers", "queue", "one"]) (sc := defScope s_lost_within_turns) (by decide +kernel)) (fun _ _ _ _ _ => (pg_tupK (K := K) (n := 2) rfl (pgs_cons (pg_name (i := 5) sc_lost_within_turns.nd rfl (Or.inl rfl)) (pgs_cons (pg_name (i := 6) sc_lost_within_turns.nd rfl (Or.inl rfl)) pgs_nil)))) (fun _ _ _ _ _ => pts_nil) (fun _ _ _ _ _ => (pe_dget (hu_of hr) (pv 7) (pv 6) (fun _ _ => rfl)))) pa_nil) (pk_cons pe_int pk_nil))) rfl)
 (pss_one (ps_for PassesOwn.never rfl (pi_list (pe_ix (ix_listK (K := K)) (pv 3) (pv 4) (fun _ _ => rfl))) (pg_name (i := 9) sc_lost_within_turns.nd rfl (Or.inl rfl)) (pss_cons (ps_augS (pv 1) (pv 9) get_list pe_int ip_sub set_list)
 (pss_one (ps_if (pt_cmpR op_eq (pe_ix (ix_listK (K := K)) (pv 1) (pv 9) (fun _ _ => rfl)) pe_int (nomark _)) (pss_one (ps_expr (pe_bm PySem.F.plainAttrs_list PySem.F.slot_list_append PySem.F.type_list_append mt_append (pv 8) (pa_cons (pv 9) pa_nil)))) pss_nil))))))))
 (pss_one (ps_ret (pv 7))))))))), ?_⟩
    try dsimp only [cxK, cxP, cxW]
    walk_at "rds"
    refine k_iL (SqL.of ew) ?_
    refine k_lcI (itx_l K w (as.map V.ref)) (fun i acc D H' => H D = none ∧ Same H H' ∧ H' D = some (.lst acc) ∧ acc = (W.take i).map fun r => V.int (r.length : Nat)) (fun D hD => ⟨hD, same_new hD, upd_same, by simp⟩) (fun i acc D H' p => SqL.of (p.2.1 _ _ ew)) (fun i x acc D H' hx p => ?_) (fun acc la H1 p => ?_)
    · obtain ⟨hD, sm, eD, ea⟩ := p
      obtain ⟨a, ha, rfl, hi⟩ := nth_ref hx
      obtain ⟨row, hr, ts, et, pt⟩ := Paired.getL pw i a ha
      refine el_nameI rfl ?_
      walk_at "rds"
      refine x_lenL (SqL.of (sm _ _ et)) ?_
      have hal : acc.length ≤ 60 := by
        rw [ea, List.length_map, List.length_take]
        omega
      refine k_el eD (sz8 (by omega)) ⟨hD, fun b o hb => ?_, upd_same, ?_⟩
      · rw [upd_ne (ne_of_none hb hD)]
        exact sm _ _ hb
      · rw [List.take_add_one, hr, List.map_append, ea, List.length_map, Paired.length pt]
        rfl
    · obtain ⟨f1, sm1, e1, rfl⟩ := p
      rw [List.length_map, al, List.take_length] at e1
      walk_at "rds"
      refine k_iL (SqL.of (sm1 _ _ ew)) ?_
      refine k_lcI (itx_l K w (as.map V.ref)) (fun i acc D H' => H1 D = none ∧ Same H1 H' ∧ ∃ bs : List Addr, acc = bs.map V.ref ∧ H' D = some (.lst acc) ∧ bs.length = i ∧ i ≤ 60 ∧ bs.Nodup ∧ ∀ b ∈ bs, H1 b = none ∧ b ≠ D ∧ H' b = some (.lst [])) (fun D hD => ⟨hD, same_new hD, [], rfl, upd_same, rfl, by omega, .nil, (fun b hb => nomatch hb)⟩) (fun i acc D H' p => SqL.of (p.2.1 _ _ (sm1 _ _ ew))) (fun i x acc D H' hx p => ?_) (fun acc aa H2 p => ?_)
      · obtain ⟨hD, sm, bs, rfl, eD, bl, bi, bn, bb⟩ := p
        obtain ⟨a, ha, rfl, hi⟩ := nth_ref hx
        refine el_nameI rfl ?_
        walk_at "rds"
        intro r fr
        have nDr : D ≠ r := ne_of_none eD fr
        refine k_el (acc := bs.map V.ref) ((upd_ne nDr).trans eD) (by rw [List.length_map]; exact sz8 (by omega)) ⟨hD, fun b o hb => ?_, bs ++ [r], by rw [List.map_append]; rfl, upd_same, by rw [List.length_append, bl]; rfl, by omega, ?_, fun b hb => ?_⟩
        · rw [upd_ne (ne_of_none hb hD), upd_ne (ne_of_none (sm _ _ hb) fr)]
          exact sm _ _ hb
        · refine List.nodup_append.mpr ⟨bn, by simp, fun a ha c hc z => ?_⟩
          obtain rfl : c = r := by simpa using hc
          have := (bb a ha).2.2
          rw [z, fr] at this
          cases this
        · rcases List.mem_append.mp hb with z | z
          · obtain ⟨z1, z2, z3⟩ := bb b z
            exact ⟨z1, z2, (upd_ne z2).trans ((upd_ne (ne_of_none z3 fr)).trans z3)⟩
          · obtain rfl := List.mem_singleton.mp z
            refine ⟨?_, nDr.symm, (upd_ne nDr.symm).trans upd_same⟩
            cases y : H1 b with
            | none => rfl
            | some o => rw [sm _ _ y] at fr; cases fr
      · obtain ⟨f2, sm2, bs, rfl, e2, bl, _, bn, bb⟩ := p
        rw [List.length_map] at bl
        have sm02 : Same H H2 := sm1.trans sm2
        have ew2 := sm02 _ _ ew
        walk_at "rds"
        refine x_lenL (SqL.of ew2) ?_
        walk_at "rds"
        rw [List.length_map]
        refine k_iR (by omega) (by omega) ?_
        rw [Int.toNat_natCast, al]
        rw [al] at bl
        have la2 := sm2 _ _ e1
        have nla : ∀ b ∈ bs, la ≠ b := fun b hb z => by
          have := (bb b hb).1
          rw [← z, e1] at this
          cases this
        have naa : ∀ b ∈ bs, aa ≠ b := fun b hb z => (bb b hb).2.1 z.symm
        have nold : ∀ {b o}, H b = some o → b ∉ bs := fun {b o} hb hm => by
          have := (bb b hm).1
          rw [sm1 _ _ hb] at this
          cases this
        refine k_for (itx_r 0 W.length) (fun i σ' H' => (∃ o2 o4 o5 o6 o7 o8 o9, σ' = [some (.ref w), some (.ref la), o2, some (.ref aa), o4, o5, o6, o7, o8, o9]) ∧ (∀ b o, H2 b = some o → b ∉ bs → H' b = some o) ∧
          ∃ A : Nat → List Nat, AhAt H' bs A ∧ (∀ t, ∀ p ∈ A t, p < W.length) ∧ (∀ t p, (A t).count p = if p < i then ecnt W p t else 0) ∧ ∀ t, (A t).length ≤ 9 * i) ?_ (fun _ _ _ _ _ => trivial) (fun i x σ' H' hx h => ?_) (fun σ' H3 h => ?_)
        · refine ⟨⟨_, _, _, _, _, _, _, rfl⟩, fun b o hb _ => hb, fun _ => [], fun t b hb => ?_, (fun t p hp => nomatch hp), fun t p => ?_, fun t => Nat.zero_le _⟩
          · exact (bb b (List.mem_of_getElem? hb)).2.2
          · rw [if_neg (Nat.not_lt_zero p)]
            rfl
        · obtain ⟨⟨o2, o4, o5, o6, o7, o8, o9, rfl⟩, kp, A, hA, Alt, Ac, Al⟩ := h
          obtain ⟨hi, rfl⟩ := nth_rng hx
          have hiw : W[i]? = some W[i] := List.getElem?_eq_getElem hi
          obtain ⟨a, ha, ts, et, pt⟩ := Paired.getR pw i _ hiw
          obtain ⟨r9, rlt⟩ := wok _ (List.getElem_mem hi)
          generalize W[i] = row at hiw pt r9 rlt
          have tl : ts.length = row.length := Paired.length pt
          have ew3 := kp _ _ ew2 (nold ew)
          have et3 := kp _ _ (sm02 _ _ et) (nold et)
          walk_at "rds"
          refine x_ixL (SqL.of ew3) (atI_N (by rw [List.getElem?_map, ha]; rfl)) ?_
          refine k_iL (SqL.of et3) ?_
          refine k_for (itx_l K a (ts.map V.ref)) (fun j σ' H' => (∃ o2 o5 o6 o7 o8 o9, σ' = [some (.ref w), some (.ref la), o2, some (.ref aa), some (.int (i : Nat)), o5, o6, o7, o8, o9]) ∧ (∀ b o, H2 b = some o → b ∉ bs → H' b = some o) ∧
            ∃ A : Nat → List Nat, AhAt H' bs A ∧ (∀ t, ∀ p ∈ A t, p < W.length) ∧ (∀ t p, (A t).count p = if p < i then ecnt W p t else if p = i then ((row.take j).filter fun q => decide (q.2 = t)).length else 0) ∧ ∀ t, (A t).length ≤ 9 * i + j) ?_ (fun j σ' H' _ h => ?_) (fun j x σ' H4 hx h => ?_) (fun σ' H4 h => ?_)
          · refine ⟨⟨_, _, _, _, _, _, rfl⟩, kp, A, hA, Alt, fun t p => ?_, fun t => by have := Al t; omega⟩
            rw [Ac t p]
            by_cases h1 : p < i
            · rw [if_pos h1, if_pos h1]
            · rw [if_neg h1, if_neg h1]
              simp
          · exact SqL.of (h.2.1 _ _ (sm02 _ _ et) (nold et))
          · obtain ⟨⟨o2, o5, o6, o7, o8, o9, rfl⟩, kp, A, hA, Alt, Ac, Al⟩ := h
            obtain ⟨e, he, rfl, hj⟩ := nth_ref hx
            obtain ⟨q0, hq, ee⟩ := Paired.getL pt j e he
            have ee2 := kp _ _ (sm02 _ _ ee) (nold ee)
            have hto := rlt q0 (List.mem_of_getElem? hq)
            obtain ⟨b, hb⟩ : ∃ b, bs[q0.2]? = some b := ⟨_, List.getElem?_eq_getElem (by omega)⟩
            have hbm := List.mem_of_getElem? hb
            have eaa := kp _ _ e2 (fun z => naa _ z rfl)
            have eb := hA _ _ hb
            walk_at "rds"
            refine x_ixL (SqL.of eaa) (atI_N (by rw [List.getElem?_map, hb]; rfl)) ?_
            refine k_bmL eb ?_
            walk_at "rds"
            have lb := Al q0.2
            refine k_append (xs := _) eb (by rw [List.length_map]; exact Nat.lt_of_le_of_lt (show _ ≤ 1000 by omega) (by decide)) ?_
            walk_at "rds"
            refine ⟨⟨_, _, _, _, _, _, rfl⟩, fun c o hc hcb => (upd_ne (fun (z : c = b) => hcb (z ▸ hbm))).trans (kp _ _ hc hcb), addA A q0.2 i, fun t c hc => ?_, fun t p hp => ?_, fun t p => ?_, fun t => ?_⟩
            · by_cases z : t = q0.2
              · subst z
                rw [hb] at hc
                obtain rfl := Option.some.inj hc
                rw [upd_same, addA_same]
                simp
              · have : c ≠ b := fun y => z (nd_nth bn (y ▸ hc) hb)
                rw [upd_ne this, addA_ne z]
                exact hA _ _ hc
            · by_cases z : t = q0.2
              · subst z
                rw [addA_same] at hp
                rcases List.mem_append.mp hp with y | y
                · exact Alt _ p y
                · rw [List.mem_singleton.mp y]; exact hi
              · rw [addA_ne z] at hp
                exact Alt t p hp
            · have hAc := Ac t p
              rw [List.take_add_one, hq, List.filter_append, List.length_append]
              simp only [Option.toList_some, List.filter_cons, List.filter_nil]
              by_cases z : t = q0.2
              · subst z
                rw [addA_same, List.count_append, hAc]
                by_cases h1 : p < i
                · rw [if_pos h1, if_pos h1, List.count_eq_zero_of_not_mem (by simp; omega)]
                  rfl
                · rw [if_neg h1, if_neg h1]
                  by_cases h2 : p = i
                  · rw [if_pos h2, if_pos h2, h2]
                    simp
                  · rw [if_neg h2, if_neg h2, List.count_eq_zero_of_not_mem (by simpa using h2)]
              · rw [addA_ne z, hAc, decide_eq_false (fun y => z y.symm)]
                simp
            · have := Al t
              by_cases z : t = q0.2
              · subst z
                rw [addA_same, List.length_append, List.length_singleton]
                omega
              · rw [addA_ne z]
                omega
          · obtain ⟨⟨o2, o5, o6, o7, o8, o9, rfl⟩, kp, A, hA, Alt, Ac, Al⟩ := h
            rw [List.length_map, tl] at Ac Al
            refine ⟨⟨_, _, _, _, _, _, _, rfl⟩, kp, A, hA, Alt, fun t p => ?_, fun t => by have := Al t; omega⟩
            rw [Ac t p, List.take_length]
            by_cases h1 : p < i
            · rw [if_pos h1, if_pos (by omega)]
            · rw [if_neg h1]
              by_cases h2 : p = i
              · rw [if_pos h2, if_pos (by omega)]
                unfold ecnt
                rw [h2, getD_nth hiw]
              · rw [if_neg h2, if_neg (by omega)]
        · obtain ⟨⟨o2, o4, o5, o6, o7, o8, o9, rfl⟩, kp3, A, hA, Alt, Ac, Al⟩ := h
          have e3 : ((List.range W.length).map fun (i : Nat) => V.int (0 + (i : Int))).length = W.length := by rw [List.length_map, List.length_range]
          rw [e3] at Ac Al
          walk_at "rds"
          intro da fda
          walk_at "rds"
          -- what stands, before the queue
          have sm03 : Same H H3 := fun b o hb => kp3 _ _ (sm02 _ _ hb) (nold hb)
          have la3 := kp3 _ _ la2 (fun z => nla _ z rfl)
          have aa3 := kp3 _ _ e2 (fun z => naa _ z rfl)
          have nlaa : la ≠ aa := ne_of_none e1 f2
          have ndla : la ≠ da := ne_of_none la3 fda
          have ndaa : aa ≠ da := ne_of_none aa3 fda
          have ndb : ∀ t b, bs[t]? = some b → b ≠ da := fun t b hb => ne_of_none (hA t b hb) fda
          have hLf : LfAt H3 la W.length fun p => (W.getD p []).length := by
            unfold LfAt
            rw [la3]
            congr 2
            refine List.ext_getElem? fun k => ?_
            rw [List.getElem?_map, List.getElem?_map]
            by_cases hk : k < W.length
            · rw [List.getElem?_range hk, List.getElem?_eq_getElem hk]
              simp only [Option.map_some]
              rw [getD_nth (List.getElem?_eq_getElem hk)]
            · rw [List.getElem?_eq_none (by omega), List.getElem?_eq_none (by rw [List.length_range]; omega)]
              rfl
          have sm4 : Same H3 (upd H3 da (.dK [])) := same_new fda
          have fdH : H da = none := Same.free sm03 fda
          refine x_lenL (SqL.of (sm4 _ _ (sm03 _ _ ew))) ?_
          walk_at "rds"
          rw [List.length_map, al]
          refine k_iR (by omega) (by omega) ?_
          rw [Int.toNat_natCast]
          refine k_lcP (itx_r 0 W.length) (fun v => match v with
            | .int k => if (W.getD k.toNat []).length = 0 then some (.int k) else none
            | _ => none) (fun _ _ => trivial) (by rw [List.length_map, List.length_range]; exact sz8 (by omega)) (fun v H' N' hv k hN => ?_) (fun qa H4 fqa k eqa => ?_)
          · obtain ⟨i0, hi0, rfl⟩ := List.mem_map.mp hv
            have hi1 := List.mem_range.mp hi0
            simp only [Int.zero_add, Int.toNat_natCast] at hN ⊢
            refine el_nameT rfl ?_
            walk_at "rds"
            refine x_ixL (SqL.of (k _ _ (sm4 _ _ hLf))) (atI_N (by rw [List.getElem?_map, List.getElem?_range hi1]; rfl)) ?_
            walk_at "rds"
            refine k_elT (fun hc => ?_) (fun hc => ?_)
            · have : ((W.getD i0 []).length : Int) = 0 := of_decide_eq_true hc
              walk_at "rds"
              rw [if_pos (by omega)] at hN
              exact hN _ (Same.refl _)
            · have : ¬ ((W.getD i0 []).length : Int) = 0 := of_decide_eq_false hc
              rw [if_neg (by omega)] at hN
              exact hN _ (Same.refl _)
          · have eqa' : H4 qa = some (.lst (((List.range W.length).filter fun p => decide ((W.getD p []).length = 0)).map fun (p : Nat) => V.int (p : Nat))) := by
              rw [eqa]
              congr 2
              rw [List.filterMap_map]
              clear eqa
              induction List.range W.length with
              | nil => rfl
              | cons p r ih =>
                rw [List.filterMap_cons, List.filter_cons]
                simp only [Function.comp, Int.zero_add, Int.toNat_natCast]
                by_cases z : (W.getD p []).length = 0
                · rw [if_pos z, decide_eq_true z]
                  simp only [if_true, List.map_cons]
                  rw [← ih]
                  simp only [Function.comp, Int.zero_add, Int.toNat_natCast]
                · rw [if_neg z, decide_eq_false z]
                  simp only [Bool.false_eq_true, if_false]
                  rw [← ih]
                  simp only [Function.comp, Int.zero_add, Int.toNat_natCast]
            have sm34 : Same H3 H4 := sm4.trans k
            have fqa3 := (upd_none fqa).2
            have nqd : qa ≠ da := (upd_none fqa).1
            have nql : la ≠ qa := ne_of_none la3 fqa3
            have nqaa : aa ≠ qa := ne_of_none aa3 fqa3
            have nqb : ∀ t b, bs[t]? = some b → b ≠ qa := fun t b hb => ne_of_none (hA t b hb) fqa3
            have fqH : H qa = none := Same.free sm03 fqa3
            have flH : H la = none := f1
            have nb4 : ∀ t b, bs[t]? = some b → b ≠ la ∧ b ≠ da ∧ b ≠ qa := fun t b hb => ⟨fun z => nla b (List.mem_of_getElem? hb) z.symm, ndb t b hb, nqb t b hb⟩
            have hA4 : AhAt H4 bs A := fun t b hb => sm34 _ _ (hA t b hb)
            have aa4 := sm34 _ _ aa3
            have da4 : H4 da = some (.dK []) := k _ _ upd_same
            have la4 : LfAt H4 la W.length fun p => (W.getD p []).length := sm34 _ _ hLf
            walk_at "rds"
            refine r_while (fun m σ' H' => (∃ o2 o4 o5 o6 o9, σ' = [some (.ref w), some (.ref la), o2, some (.ref aa), o4, o5, o6, some (.ref da), some (.ref qa), o9]) ∧ (∀ b o, H4 b = some o → b ≠ la → b ≠ da → b ≠ qa → H' b = some o) ∧
              ∃ nu Qs lf, H' da = some (.dK (nuK nu)) ∧ H' qa = some (.lst (Qs.map fun (p : Nat) => V.int (p : Nat))) ∧ LfAt H' la W.length lf ∧ NumOk W nu ∧ Qs.Nodup ∧ (∀ p ∈ Qs, p < W.length ∧ p ∉ nu.map (·.1)) ∧ (∀ p, p < W.length → lf p = openW W nu p) ∧ (∀ p, p < W.length → (lf p = 0 ↔ p ∈ nu.map (·.1) ∨ p ∈ Qs)) ∧ m = W.length - nu.length)
              W.length ⟨⟨_, _, _, _, _, rfl⟩, fun b o hb _ _ _ => hb, [], _, _, da4, eqa', la4, NumOk.nil W, (List.nodup_range.sublist List.filter_sublist), fun p hp => ⟨List.mem_range.mp (List.mem_filter.mp hp).1, by simp⟩, fun p hp => ?_, fun p hp => ?_, by simp⟩ (fun m σ' H5 h => ?_)
            · unfold openW
              rw [List.filter_eq_self.mpr fun q _ => by simp]
            · simp only [List.map_nil, List.not_mem_nil, false_or, List.mem_filter, List.mem_range, decide_eq_true_eq]
              exact ⟨fun z => ⟨hp, z⟩, fun z => z.2⟩
            obtain ⟨⟨o2, o4, o5, o6, o9, rfl⟩, kp5, nu, Qs, lf, eda, eqs, elf, nok, qnd, qlt, lop, lz, rfl⟩ := h
            walk_at "rds"
            intro nl fnl
            have nqn : qa ≠ nl := ne_of_none eqs fnl
            refine ⟨qa, nl, _, rfl, rfl, SqL.of ((upd_ne nqn).trans eqs), SqL.of upd_same, ?_⟩
            walk_at "rds"
            have kp6 : ∀ b o, H4 b = some o → b ≠ la → b ≠ da → b ≠ qa → (upd H5 nl (.lst [])) b = some o := fun b o hb y1 y2 y3 => same_new fnl _ _ (kp5 b o hb y1 y2 y3)
            have eda6 := same_new (o := .lst []) fnl _ _ eda
            have eqs6 := same_new (o := .lst []) fnl _ _ eqs
            have elf6 : LfAt (upd H5 nl (.lst [])) la W.length lf := same_new fnl _ _ elf
            clear kp5 eda eqs elf
            generalize upd H5 nl (.lst []) = H6 at *
            have nqla : qa ≠ la := nql.symm
            have oldH : ∀ {b o}, H b = some o → b ≠ la ∧ b ≠ da ∧ b ≠ qa := fun {b o} hb => ⟨ne_of_none hb flH, ne_of_none hb fdH, ne_of_none hb fqH⟩
            have sm04 : Same H H4 := sm03.trans sm34
            have smH6 : ∀ b o, H b = some o → H6 b = some o := fun b o hb => kp6 b o (sm04 _ _ hb) (oldH hb).1 (oldH hb).2.1 (oldH hb).2.2
            refine k_wh (fun hc => ?_) (fun hc => ?_)
            · have hne : Qs ≠ [] := fun z => by rw [z] at hc; cases hc
              obtain ⟨Q0, p, rfl⟩ := last_of hne
              obtain ⟨plt, pnu⟩ := qlt p (List.mem_append.mpr (.inr (List.mem_singleton.mpr rfl)))
              have pz : openW W nu p = 0 := by rw [← lop p plt]; exact (lz p plt).mpr (.inr (List.mem_append.mpr (.inr (List.mem_singleton.mpr rfl))))
              have pall := openW_zero.mp pz
              have nndQ := List.nodup_append.mp qnd
              have pnQ : p ∉ Q0 := fun z => nndQ.2.2 p z p (List.mem_singleton.mpr rfl) rfl
              walk_at "rds"
              refine k_bm0L eqs6 ?_
              refine x_pop (y := .int (p : Nat)) eqs6 (by rw [List.map_append, List.length_append]; simp) ?_
              have edrop : ((Q0 ++ [p]).map fun (p : Nat) => V.int (p : Nat)).dropLast = Q0.map fun (p : Nat) => V.int (p : Nat) := by rw [List.map_append]; simp
              rw [edrop]
              walk_at "rds"
              have eqs7 : (upd H6 qa (.lst (Q0.map fun (p : Nat) => V.int (p : Nat)))) qa = _ := upd_same
              have eda7 := (upd_ne (o := .lst (Q0.map fun (p : Nat) => V.int (p : Nat))) nqd.symm).trans eda6
              have elf7 : LfAt (upd H6 qa (.lst (Q0.map fun (p : Nat) => V.int (p : Nat)))) la W.length lf := (upd_ne nql).trans elf6
              have kp7 : ∀ b o, H4 b = some o → b ≠ la → b ≠ da → b ≠ qa → (upd H6 qa (.lst (Q0.map fun (p : Nat) => V.int (p : Nat)))) b = some o := fun b o hb y1 y2 y3 => (upd_ne y3).trans (kp6 b o hb y1 y2 y3)
              clear kp6 eda6 eqs6 elf6 smH6
              generalize upd H6 qa (.lst (Q0.map fun (p : Nat) => V.int (p : Nat))) = H7 at *
              have smH7 : ∀ b o, H b = some o → H7 b = some o := fun b o hb => kp7 b o (sm04 _ _ hb) (oldH hb).1 (oldH hb).2.1 (oldH hb).2.2
              have hiw : W[p]? = some (W.getD p []) := by
                rw [List.getElem?_eq_getElem plt, getD_nth (List.getElem?_eq_getElem plt)]
              obtain ⟨a, ha, ts, et, pt⟩ := Paired.getR pw p _ hiw
              have rok := wok (W.getD p []) (List.mem_of_getElem? hiw)
              have tl : ts.length = (W.getD p []).length := Paired.length pt
              refine x_ixL (SqL.of (smH7 _ _ ew)) (atI_N (by rw [List.getElem?_map, ha]; rfl)) ?_
              refine k_iL (SqL.of (smH7 _ _ et)) ?_
              refine k_lcI (itx_l K a (ts.map V.ref)) (fun i acc D H' => H7 D = none ∧ Same H7 H' ∧ H' D = some (.lst acc) ∧ acc = ((W.getD p []).take i).map fun q => V.int (((numAt nu q.2).getD 0 : Nat) : Int)) (fun D hD => ⟨hD, same_new hD, upd_same, by simp⟩) (fun i acc D H' p => SqL.of (p.2.1 _ _ (smH7 _ _ et))) (fun i x acc D H' hx pp => ?_) (fun acc D H8 pp => ?_)
              · obtain ⟨hD, sm, eD, ea⟩ := pp
                obtain ⟨e, he, rfl, hi⟩ := nth_ref hx
                obtain ⟨q0, hq, ee⟩ := Paired.getL pt i e he
                have ee2 : H' e = some (.tup [movV q0.1, .int (q0.2 : Nat)]) := sm _ _ (smH7 _ _ ee)
                obtain ⟨m, hm⟩ := Option.isSome_iff_exists.mp (pall q0 (List.mem_of_getElem? hq))
                walk_at "rds"
                refine ⟨rfl, yesI ?_⟩
                walk_at "rds"
                refine k_dg2i (.inl (sm _ _ eda7)) (by rw [valV_nu, hm]; rfl) ?_
                have hal : acc.length ≤ 9 := by
                  rw [ea, List.length_map, List.length_take]
                  have := rok.1
                  omega
                refine k_el eD (sz8 (by omega)) ⟨hD, fun b o hb => ?_, upd_same, ?_⟩
                · rw [upd_ne (ne_of_none hb hD)]
                  exact sm _ _ hb
                · rw [List.take_add_one, hq, List.map_append, ea]
                  simp [hm]
              · obtain ⟨fD, sm8, eD, rfl⟩ := pp
                rw [List.length_map, tl, List.take_length] at eD
                walk_at "rds"
                refine ⟨D, (((W.getD p []).map fun q => (numAt nu q.2).getD 0).map fun (n : Nat) => (n : Int)), rfl, rfl, SqL.of (by rw [eD, List.map_map, List.map_map]; rfl), ?_⟩
                rw [maxD0_nat]
                walk_at "rds"
                have l60' := nu_le nok
                refine k_dp3i (sm8 _ _ eda7) (by unfold nuK; rw [List.length_map]; exact sz8 (by omega)) ?_
                have hput : putK (nuK nu) (Sum.inl (p : Int)) (.int (1 + ((max0 ((W.getD p []).map fun q => (numAt nu q.2).getD 0) : Nat) : Int))) = nuK (nu ++ [(p, 1 + max0 ((W.getD p []).map fun q => (numAt nu q.2).getD 0))]) := by
                  rw [putK_new _ (by rw [valV_nu, numAt_none.mpr pnu]; rfl)]
                  unfold nuK
                  rw [List.map_append]
                  simp
                rw [hput]
                have nok' := nok.snoc plt pnu pall
                have hop := fun x => openW_snoc (W := W) (nu := nu) (p := x) (v := 1 + max0 ((W.getD p []).map fun q => (numAt nu q.2).getD 0)) pnu
                generalize 1 + max0 ((W.getD p []).map fun q => (numAt nu q.2).getD 0) = val at *
                have hkeys : ∀ x, x ∈ (nu ++ [(p, val)]).map (·.1) ↔ x ∈ nu.map (·.1) ∨ x = p := fun x => by rw [List.map_append]; simp
                have sm78 := sm8
                have kp9 : ∀ b o, H4 b = some o → b ≠ la → b ≠ da → b ≠ qa → (upd H8 da (.dK (nuK (nu ++ [(p, val)])))) b = some o := fun b o hb y1 y2 y3 => (upd_ne y2).trans (sm8 _ _ (kp7 b o hb y1 y2 y3))
                have eda9 : (upd H8 da (.dK (nuK (nu ++ [(p, val)])))) da = _ := upd_same
                have eqs9 := (upd_ne (o := .dK (nuK (nu ++ [(p, val)]))) nqd).trans (sm8 _ _ eqs7)
                have elf9 : LfAt (upd H8 da (.dK (nuK (nu ++ [(p, val)])))) la W.length lf := (upd_ne ndla).trans (sm8 _ _ elf7)
                clear kp7 eda7 eqs7 elf7 smH7 sm8 eD sm78
                generalize upd H8 da (.dK (nuK (nu ++ [(p, val)]))) = H9 at *
                obtain ⟨b, hb⟩ : ∃ b, bs[p]? = some b := ⟨_, List.getElem?_eq_getElem (by omega)⟩
                have eb4 := hA4 p b hb
                obtain ⟨nb1, nb2, nb3⟩ := nb4 p b hb
                have eb9 := kp9 _ _ eb4 nb1 nb2 nb3
                have naq : aa ≠ qa := nqaa
                walk_at "rds"
                refine x_ixL (SqL.of (kp9 _ _ aa4 nlaa.symm ndaa naq)) (atI_N (by rw [List.getElem?_map, hb]; rfl)) ?_
                refine k_iL (SqL.of eb9) ?_
                have cnt0 : ∀ x, x < W.length → lf x = openW W (nu ++ [(p, val)]) x + ((A p).drop 0).count x := fun x hx => by
                  rw [List.drop_zero, Ac p x, if_pos hx, lop x hx, hop x]
                  rfl
                have nuN : ∀ x, x ∈ nu.map (·.1) ∨ x ∈ Q0 ++ [p] ↔ x ∈ (nu ++ [(p, val)]).map (·.1) ∨ x ∈ Q0 := fun x => by
                  rw [hkeys x]
                  simp only [List.mem_append, List.mem_singleton]
                  constructor
                  · rintro (z | z | z)
                    · exact .inl (.inl z)
                    · exact .inr z
                    · exact .inl (.inr z)
                  · rintro ((z | z) | z)
                    · exact .inl z
                    · exact .inr (.inr z)
                    · exact .inr (.inl z)
                refine k_for (itx_l K b ((A p).map fun (x : Nat) => V.int (x : Nat))) (fun j σ' H' => (∃ o2 o4 o5 o6 o9, σ' = [some (.ref w), some (.ref la), o2, some (.ref aa), o4, o5, o6, some (.ref da), some (.ref qa), o9]) ∧ (∀ b o, H4 b = some o → b ≠ la → b ≠ da → b ≠ qa → H' b = some o) ∧
                  H' da = some (.dK (nuK (nu ++ [(p, val)]))) ∧ ∃ Qs lf, H' qa = some (.lst (Qs.map fun (p : Nat) => V.int (p : Nat))) ∧ LfAt H' la W.length lf ∧ Qs.Nodup ∧ (∀ x ∈ Qs, x < W.length ∧ x ∉ (nu ++ [(p, val)]).map (·.1)) ∧
                  (∀ x, x < W.length → lf x = openW W (nu ++ [(p, val)]) x + ((A p).drop j).count x) ∧ (∀ x, x < W.length → (lf x = 0 ↔ x ∈ (nu ++ [(p, val)]).map (·.1) ∨ x ∈ Qs)))
                  ⟨⟨_, _, _, _, _, rfl⟩, kp9, eda9, Q0, lf, eqs9, elf9, nndQ.1, fun x hx => ⟨(qlt x (List.mem_append.mpr (.inl hx))).1, fun z => ?_⟩, cnt0, fun x hx => (lz x hx).trans (nuN x)⟩ (fun j σ' H' _ h => SqL.of (h.2.1 _ _ eb4 nb1 nb2 nb3)) (fun j x σ' Ha hx h => ?_) (fun σ' Ha h => ?_)
                · rcases (hkeys x).mp z with y | y
                  · exact (qlt x (List.mem_append.mpr (.inl hx))).2 y
                  · exact pnQ (y ▸ hx)
                · obtain ⟨⟨o2, o4, o5, o6, o9, rfl⟩, kpa, edaa, Qs, lf, eqsa, elfa, qnd', qlt', lop', lz'⟩ := h
                  obtain ⟨one, hone, rfl⟩ : ∃ one, (A p)[j]? = some one ∧ x = .int (one : Nat) := by
                    rw [List.getElem?_map] at hx
                    cases hy : (A p)[j]? with
                    | none => rw [hy] at hx; cases hx
                    | some z => rw [hy] at hx; exact ⟨z, rfl, (Option.some.inj hx).symm⟩
                  have olt := Alt p one (List.mem_of_getElem? hone)
                  have hdrop : (A p).drop j = one :: (A p).drop (j + 1) := by
                    obtain ⟨hj, ej⟩ := List.getElem?_eq_some_iff.mp hone
                    rw [List.drop_eq_getElem_cons hj, ej]
                  have lone := lop' one olt
                  rw [hdrop, List.count_cons_self] at lone
                  have lnz : ¬ lf one = 0 := by omega
                  have onot : ¬ (one ∈ (nu ++ [(p, val)]).map (·.1) ∨ one ∈ Qs) := fun z => lnz ((lz' one olt).mpr z)
                  have lat : ((List.range W.length).map fun (p : Nat) => V.int (lf p : Nat))[one]? = some (.int (lf one : Nat)) := by
                    rw [List.getElem?_map, List.getElem?_range olt]
                    rfl
                  walk_at "rds"
                  refine k_as2 (SqL.of elfa) (atI_N lat) ?_
                  walk_at "rds"
                  refine k_as3 elfa (show ixN _ ((one : Nat) : Int) = some one by
                    unfold ixN
                    rw [if_pos (Int.natCast_nonneg one), List.length_map, List.length_range, if_pos (by omega)]
                    rfl) ?_
                  rw [show ((lf one : Nat) : Int) - 1 = ((lf one - 1 : Nat) : Int) by omega, range_set olt]
                  have elfb : LfAt (upd Ha la (.lst ((List.range W.length).map fun (p : Nat) => V.int ((if p = one then lf one - 1 else lf p : Nat) : Nat)))) la W.length (fun p => if p = one then lf one - 1 else lf p) := upd_same
                  have kpb : ∀ b o, H4 b = some o → b ≠ la → b ≠ da → b ≠ qa → (upd Ha la (.lst ((List.range W.length).map fun (p : Nat) => V.int ((if p = one then lf one - 1 else lf p : Nat) : Nat)))) b = some o := fun b o hb y1 y2 y3 => (upd_ne y1).trans (kpa b o hb y1 y2 y3)
                  have edab := (upd_ne (o := .lst ((List.range W.length).map fun (p : Nat) => V.int ((if p = one then lf one - 1 else lf p : Nat) : Nat))) ndla.symm).trans edaa
                  have eqsb := (upd_ne (o := .lst ((List.range W.length).map fun (p : Nat) => V.int ((if p = one then lf one - 1 else lf p : Nat) : Nat))) nqla).trans eqsa
                  clear kpa edaa eqsa elfa
                  generalize upd Ha la (.lst ((List.range W.length).map fun (p : Nat) => V.int ((if p = one then lf one - 1 else lf p : Nat) : Nat))) = Hb at *
                  have lat2 : ((List.range W.length).map fun (p : Nat) => V.int (((fun p => if p = one then lf one - 1 else lf p) p : Nat) : Nat))[one]? = some (.int ((lf one - 1 : Nat) : Nat)) := by
                    rw [List.getElem?_map, List.getElem?_range olt]
                    simp
                  have lopN : ∀ x, x < W.length → (if x = one then lf one - 1 else lf x) = openW W (nu ++ [(p, val)]) x + ((A p).drop (j + 1)).count x := fun x hx => by
                    by_cases z : x = one
                    · rw [if_pos z, z]
                      omega
                    · rw [if_neg z, lop' x hx, hdrop, List.count_cons_of_ne (fun y => z y.symm)]
                  walk_at "rds"
                  refine x_ixL (SqL.of elfb) (atI_N lat2) ?_
                  walk_at "rds"
                  refine k_if (fun hc => ?_) (fun hc => ?_)
                  · have h0 : ((lf one - 1 : Nat) : Int) = 0 := of_decide_eq_true hc
                    walk_at "rds"
                    refine k_bmL eqsb ?_
                    walk_at "rds"
                    have lQ : Qs.length ≤ W.length := by
                      have := php (m := List.range W.length) qnd' fun x hx => List.mem_range.mpr (qlt' x hx).1
                      rw [List.length_range] at this
                      exact this
                    refine k_append (xs := _) eqsb (by rw [List.length_map]; exact sz8 (by omega)) ?_
                    walk_at "rds"
                    refine ⟨⟨_, _, _, _, _, rfl⟩, fun b o hb y1 y2 y3 => (upd_ne y3).trans (kpb b o hb y1 y2 y3), (upd_ne nqd.symm).trans edab, Qs ++ [one], _, ?_, (upd_ne nql).trans elfb, ?_, fun x hx => ?_, lopN, fun x hx => ?_⟩
                    · rw [upd_same, List.map_append]
                      rfl
                    · refine List.nodup_append.mpr ⟨qnd', by simp, fun a ha c hc z => ?_⟩
                      obtain rfl : c = one := by simpa using hc
                      exact onot (.inr (z ▸ ha))
                    · rcases List.mem_append.mp hx with z | z
                      · exact qlt' x z
                      · rw [List.mem_singleton.mp z]
                        exact ⟨olt, fun y => onot (.inl y)⟩
                    · show (if x = one then lf one - 1 else lf x) = 0 ↔ _
                      by_cases z : x = one
                      · rw [if_pos z, z]
                        exact ⟨fun _ => .inr (List.mem_append.mpr (.inr (List.mem_singleton.mpr rfl))), fun _ => by omega⟩
                      · rw [if_neg z, lz' x hx]
                        simp only [List.mem_append, List.mem_singleton, z, or_false]
                  · have h0 : ¬ ((lf one - 1 : Nat) : Int) = 0 := of_decide_eq_false hc
                    walk_at "rds"
                    refine ⟨⟨_, _, _, _, _, rfl⟩, kpb, edab, Qs, _, eqsb, elfb, qnd', qlt', lopN, fun x hx => ?_⟩
                    show (if x = one then lf one - 1 else lf x) = 0 ↔ _
                    by_cases z : x = one
                    · rw [if_pos z, z]
                      exact ⟨fun y => absurd (by omega) h0, fun y => absurd y onot⟩
                    · rw [if_neg z]
                      exact lz' x hx
                · obtain ⟨⟨o2, o4, o5, o6, o9, rfl⟩, kpa, edaa, Qs, lf, eqsa, elfa, qnd', qlt', lop', lz'⟩ := h
                  rw [List.length_map, List.drop_length] at lop'
                  have hle' := nu_le nok'
                  rw [List.length_append, List.length_singleton] at hle'
                  refine ⟨W.length - (nu.length + 1), by omega, ⟨_, _, _, _, _, rfl⟩, kpa, _, Qs, lf, edaa, eqsa, elfa, nok', qnd', qlt', fun x hx => ?_, lz', by rw [List.length_append]; rfl⟩
                  rw [lop' x hx]
                  rfl
            · have hnil : Qs = [] := by
                cases Qs with
                | nil => rfl
                | cons x r => cases hc
              subst hnil
              walk_at "rds"
              refine q da nu H6 smH6 eda6 nok fun p hp hall => ?_
              have h0 := (openW_zero (W := W) (nu := nu) (p := p)).mpr hall
              rw [← lop p hp] at h0
              exact numAt_isSome.mpr ((lz p hp).mp h0 |>.elim id (fun z => nomatch z))
end
end Wh

/-! ## S7d -/
set_option Elab.async false
set_option linter.all false
set_option maxRecDepth 100000
set_option maxHeartbeats 4000000


namespace Wh
open PySem PySem.Spec PyProof.Rows L2
section
variable {P : Program} {wo : World} {K : PySem.W.Frag} {mg : Str → Option Value} {base : Heap}
/-! ### the game, opened -/
def EdgeOk (ss : List AS) (e : Option Str × Nat) (q : Option Str × AS) : Prop := e.1 = q.1 ∧ ss[e.2]? = some q.2
structure GmOk (su : AS → List (Option Str × AS)) (s0 : AS) (ss : List AS) (W : Wy) : Prop where
  nd : ss.Nodup
  s0 : ss[0]? = some s0
  len : W.length = ss.length
  l60 : ss.length ≤ 60
  row : ∀ (i : Nat) (s : AS) (r : List (Option Str × Nat)), ss[i]? = some s → W[i]? = some r → Paired (EdgeOk ss) r (su s)
/-- a store of this game in state s stands at p -/
def HasSt (K : PySem.W.Frag) (D : Sta) (hold pres : List Int) (N : Nat) (X : List Addr) (H : Hp) (p : Addr) (s : AS) : Prop :=
  ∃ G S, StO K G H p S N ∧ (∀ x ∈ X, ¬ G x ∧ ¬ own S x ∧ x ≠ p) ∧ S.hold = hold ∧ S.pres = pres ∧ S.ds = [] ∧ 0 ≤ S.mo ∧ Rp D (S.bl.map (·.t)) ∧ (∀ t ∈ S.bl.map (·.t), NameOk t.nm) ∧ stL (S.bl.map (·.t)) = s
theorem HasSt.same {K : PySem.W.Frag} {D : Sta} {hold pres : List Int} {N : Nat} {X : List Addr} {H H' : Hp} {p : Addr} {s : AS} (h : HasSt K D hold pres N X H p s) (k : Same H H') : HasSt K D hold pres N X H' p s := by
  obtain ⟨G, S, st, r⟩ := h
  exact ⟨G, S, st.same k, r⟩
theorem HasSt.put {K : PySem.W.Frag} {D : Sta} {hold pres : List Int} {N : Nat} {X : List Addr} {H : Hp} {p x : Addr} {s : AS} {o o' : HO} (h : HasSt K D hold pres N X H p s) (hx : x ∈ X) (e : H x = some o) (nt : NoTup o) : HasSt K D hold pres N X (upd H x o') p s := by
  obtain ⟨G, S, st, xs, r⟩ := h
  obtain ⟨g, no, np⟩ := xs x hx
  obtain ⟨dx, ei⟩ := st.ins
  exact ⟨G, S, ⟨⟨dx, (upd_ne np.symm).trans ei⟩, st.g, st.o, st.sc.frame (Kp.put g e nt) fun a o => upd_ne (fun z => no (z ▸ o))⟩, xs, r⟩
theorem HasSt.more {K : PySem.W.Frag} {D : Sta} {hold pres : List Int} {N : Nat} {X : List Addr} {H : Hp} {p y : Addr} {s : AS} (h : HasSt K D hold pres N X H p s) (hy : H y = none) : HasSt K D hold pres N (y :: X) H p s := by
  obtain ⟨G, S, st, xs, r⟩ := h
  refine ⟨G, S, st, fun x hx => ?_, r⟩
  rcases List.mem_cons.mp hx with z | z
  · subst z
    obtain ⟨dx, ei⟩ := st.ins
    exact ⟨st.sc.dm.fresh hy, fun o => st.sc.there o hy, (ne_of_none ei hy).symm⟩
  · exact xs x z
theorem HasSt.less {K : PySem.W.Frag} {D : Sta} {hold pres : List Int} {N : Nat} {X : List Addr} {H : Hp} {p y : Addr} {s : AS} (h : HasSt K D hold pres N (y :: X) H p s) : HasSt K D hold pres N X H p s := by
  obtain ⟨G, S, st, xs, r⟩ := h
  exact ⟨G, S, st, fun x hx => xs x (List.mem_cons_of_mem _ hx), r⟩
def RowX (X : List Addr) (H : Hp) (a : Addr) (r : List (Option Str × Nat)) : Prop := RowAt H a r ∧ a ∉ X
theorem RowX.same {X : List Addr} {H H' : Hp} {a : Addr} {r : List (Option Str × Nat)} (h : RowX X H a r) (k : Same H H') : RowX X H' a r := ⟨h.1.same k, h.2⟩
theorem RowX.put {X : List Addr} {H : Hp} {a x : Addr} {o o' : HO} {r : List (Option Str × Nat)} (h : RowX X H a r) (hx : x ∈ X) (e : H x = some o) (nt : NoTup o) : RowX X (upd H x o') a r := by
  obtain ⟨⟨ts, et, p⟩, na⟩ := h
  refine ⟨⟨ts, (upd_ne (fun (z : a = x) => na (z ▸ hx))).trans et, Paired.mapP p fun b e2 z => ?_⟩, na⟩
  refine (upd_ne (fun (y : b = x) => ?_)).trans z
  subst y
  have z2 : H b = _ := z
  rw [e] at z2
  cases z2
  exact nt
theorem RowX.more {X : List Addr} {H : Hp} {a y : Addr} {r : List (Option Str × Nat)} (h : RowX X H a r) (hy : H y = none) : RowX (y :: X) H a r := by
  refine ⟨h.1, fun z => ?_⟩
  rcases List.mem_cons.mp z with z | z
  · obtain ⟨ts, et, _⟩ := h.1
    exact ne_of_none et hy z
  · exact h.2 z
theorem EdgeOk.snoc {ss : List AS} {s : AS} {e : Option Str × Nat} {q : Option Str × AS} (h : EdgeOk ss e q) : EdgeOk (ss ++ [s]) e q := by
  refine ⟨h.1, ?_⟩
  rw [List.getElem?_append_left (List.getElem?_eq_some_iff.mp h.2).1]
  exact h.2
structure Kn (P : Program) (w : World) (H : Hp) (ka : Addr) (ss : List AS) : Prop where
  ex : ∃ xs, H ka = some (nkD P w ka xs) ∧ NKeys H xs ∧ xs.map (·.1) = ss ∧ ∀ (j : Nat) e, xs[j]? = some e → e.2.2 = .int (j : Nat)
theorem valN_none {xs : List NE} {s : AS} : valN xs s = none ↔ s ∉ xs.map (·.1) := by
  unfold valN
  rw [Option.map_eq_none_iff, List.find?_eq_none]
  refine ⟨fun h z => ?_, fun h e he z => ?_⟩
  · obtain ⟨e, he, ee⟩ := List.mem_map.mp z
    exact h e he (by simp [ee])
  · exact h (List.mem_map.mpr ⟨e, he, of_decide_eq_true z⟩)
theorem valN_some {xs : List NE} {s : AS} (h : s ∈ xs.map (·.1)) (hj : ∀ (j : Nat) e, xs[j]? = some e → e.2.2 = .int (j : Nat)) : ∃ j, valN xs s = some (.int (j : Nat)) ∧ (xs.map (·.1))[j]? = some s := by
  unfold valN
  cases e : xs.find? fun e => decide (e.1 = s) with
  | none =>
    obtain ⟨x, hx, ex⟩ := List.mem_map.mp h
    have := List.find?_eq_none.mp e x hx
    simp [ex] at this
  | some x =>
    have h1 := List.find?_some e
    obtain ⟨j, hj1, hj2⟩ := List.getElem_of_mem (List.mem_of_find?_eq_some e)
    refine ⟨j, ?_, ?_⟩
    · simp only [Option.map_some]
      rw [hj j x (by rw [List.getElem?_eq_getElem hj1, hj2])]
    · rw [List.getElem?_map, List.getElem?_eq_getElem hj1, hj2]
      simp only [Option.map_some]
      rw [of_decide_eq_true h1]
theorem Kn.same {P : Program} {w : World} {H H' : Hp} {ka : Addr} {ss : List AS} (h : Kn P w H ka ss) (k : Same H H') : Kn P w H' ka ss := by
  obtain ⟨xs, e, nk, r⟩ := h.ex
  exact ⟨xs, k _ _ e, nk.mono fun a xs z => k _ _ z, r⟩
theorem Kn.put {P : Program} {w : World} {H : Hp} {ka x : Addr} {ss : List AS} {o o' : HO} (h : Kn P w H ka ss) (hx : ka ≠ x) (e : H x = some o) (nt : NoTup o) : Kn P w (upd H x o') ka ss := by
  obtain ⟨xs, ek, nk, r⟩ := h.ex
  refine ⟨xs, (upd_ne hx).trans ek, nk.mono fun a xs z => (upd_ne fun y => ?_).trans z, r⟩
  subst y
  rw [e] at z
  cases z
  exact nt
theorem inV_str_eq (h : Str) (hs : List Str) : inV (.str h) (hs.map V.str) = decide (h ∈ hs) := by
  by_cases m : h ∈ hs
  · rw [inV_str m, decide_eq_true m]
  · rw [decide_eq_false m]
    unfold inV
    rw [List.any_map]
    refine List.any_eq_false.mpr fun x hx => ?_
    show ¬ eqV (.str x) (.str h) = true
    simp only [eqV, beq_iff_eq]
    exact fun z => m (z ▸ hx)
theorem all_in {ns : List Str} {L : List T} : ((ns.map fun n => inV (.str n) ((sortS (L.map (·.nm))).map V.str)).all id) = allIn ns L := by
  unfold allIn
  rw [List.all_map]
  congr 1
  funext n
  show inV _ _ = _
  rw [inV_str_eq]
  exact decide_eq_decide.mpr sortS_mem
theorem php2 {α : Type} [DecidableEq α] : ∀ {l m : List α}, l.Nodup → (∀ x ∈ l, x ∈ m) → l.length ≤ m.length
  | [], _, _, _ => Nat.zero_le _
  | x :: r, m, nd, h => by
    have nd2 := List.nodup_cons.mp nd
    have hx := h x (List.mem_cons_self ..)
    have := php2 (l := r) (m := m.erase x) nd2.2 fun y hy => (List.mem_erase_of_ne (fun (z : y = x) => nd2.1 (z ▸ hy))).mpr (h y (List.mem_cons_of_mem _ hy))
    rw [List.length_erase_of_mem hx] at this
    have : 0 < m.length := List.length_pos_of_mem hx
    rw [List.length_cons]
    omega
theorem keys_paired {H : Hp} : ∀ {xs : List NE}, NKeys H xs → Paired (StAt H) (xs.map (·.2.1)) (xs.map (·.1))
  | [], _ => .nil
  | e :: r, h => .cons (h e (List.mem_cons_self ..)) (keys_paired fun x hx => h x (List.mem_cons_of_mem _ hx))
theorem fm_all (f : V → Bool) : ∀ ns : List Str, ((ns.map V.str).filterMap fun v => some (V.bl (f v))) = (ns.map fun n => f (.str n)).map V.bl
  | [] => rfl
  | n :: r => by
    have ih := fm_all f r
    rw [List.map_cons, List.filterMap_cons, ih]
    rfl
def spOpened (P : Program) (wo : World) (K : PySem.W.Frag) : Sp := fun vs H Q _ => ∃ G p S N l, ∃ ns : List Str, ∃ (D : Sta) (C : List AS), vs = [.ref p, .ref l, .int 120] ∧ StO K G H p S N ∧ N ≤ 1000 ∧ S.ds = [] ∧ 0 ≤ S.mo ∧ H l = some (.lst (ns.map V.str)) ∧ ns.length ≤ 8 ∧ Rp D (S.bl.map (·.t)) ∧ (∀ t ∈ S.bl.map (·.t), NameOk t.nm) ∧
  stL (S.bl.map (·.t)) ∈ C ∧ C.length ≤ 60 ∧ (∀ s ∈ C, ∀ q ∈ succS D S.hold S.pres ns s, q.2 ∈ C) ∧
  ∀ (r sl wl : Addr) (as : List Addr) (ss : List AS) (W : Wy) H', Same H H' → H' r = some (.tup [.ref sl, .ref wl]) → H' sl = some (.lst (as.map V.ref)) → Paired (StAt H') as ss → WaysAt H' wl W → GmOk (succS D S.hold S.pres ns) (stL (S.bl.map (·.t))) ss W → (∀ s ∈ ss, s ∈ C) → Q (.ref r) H'
theorem ok_opened (T : Tx K mg) : FnOk P wo K mg base CX0 9 (He.ga K "opened") (fdA K (He.ga K "opened")) ["store", "names", "most"] (spOpened P wo K) := by
  refine okD (F_opened T) sc_opened (fun vs H Q E h => ?_) (fun cdv A outer s H vs Q E hr h => ?_)
  · obtain ⟨G, p, S, N, l, ns, D, C, rfl, _⟩ := h
    rfl
  · obtain ⟨G, p, S, N, l, ns, D, C, rfl, st, nb, hds, m0, el, l8, rp, nok, sC, c60, clos, q⟩ := h
    refine ⟨_, (pss_cons (ps_set (i := 3) sc_opened.nd rfl (Or.inl rfl) (pe_lst (pa_cons (pe_meth0 (pv 0) (c_Store (K := K) T) (m_Store_copied (K := K) T) (ok_Store_copied (P := P) (wo := wo) (K := K) T) (hr.mono (by decide)) (b_Store_copied T) .nil pass0) pa_nil)))
 (pss_cons (ps_set (i := 4) sc_opened.nd rfl (Or.inl rfl) (pe_ndisp1 hr.units (pe_meth0 (pv 0) (c_Store (K := K) T) (m_Store_state (K := K) T) (ok_Store_state (P := P) (wo := wo) (K := K) T) (hr.mono (by decide)) (b_Store_state T) .nil pass0) pe_int))
 (pss_cons (ps_set (i := 5) sc_opened.nd rfl (Or.inl rfl) (pe_lst pa_nil))
 (pss_cons (ps_while PassesOwn.never (pt_cmpR op_lt (pe_callB (call_len_seqK (K := K)) (by rfl) (z_len T) (by decide +kernel) (pa_cons (pv 5) pa_nil)) (pe_callB (call_len_seqK (K := K)) (by rfl) (z_len T) (by decide +kernel) (pa_cons (pv 3) pa_nil)) (nomark _)) (pss_cons (ps_set (i := 6) sc_opened.nd rfl (Or.inl rfl) (pe_ix (ix_listK (K := K)) (pv 3) (pe_callB (call_len_seqK (K := K)) (by rfl) (z_len T) (by decide +kernel) (pa_cons (pv 5) pa_nil)) (fun _ _ => rfl)))
 (pss_cons (ps_set (i := 7) sc_opened.nd rfl (Or.inl rfl) (pe_lst pa_nil))
 (pss_cons (ps_for PassesOwn.never rfl (pi_list (pe_call (ok_moves_of (P := P) (wo := wo) (K := K) T) (hr.mono (by decide)) rfl (g_moves_of T) (F_moves_of T).kp (b_moves_of T) .nil pass0 (pa_cons (pv 6) pa_nil))) (pg_name (i := 8) sc_opened.nd rfl (Or.inl rfl)) (pss_cons (ps_set (i := 9) sc_opened.nd rfl (Or.inl rfl) (pe_call (ok_moved (P := P) (wo := wo) (K := K) T) (hr.mono (by decide)) rfl (g_moved T) (F_moved T).kp (b_moved T) .nil pass0 (pa_cons (pv 6) (pa_cons (pv 8) pa_nil))))
 (pss_cons (ps_set (i := 10) sc_opened.nd rfl (Or.inr rfl) (pe_meth0 (pv 9) (c_Store (K := K) T) (m_Store_there (K := K) T) (ok_Store_there (P := P) (wo := wo) (K := K) T) (hr.mono (by decide)) (b_Store_there T) .nil pass0))
 (pss_one (ps_if (pt_val (pe_callB (cr_allK (K := K) rfl) (by rfl) (z_all T) (by decide +kernel) (pa_cons (pe_lc (own := [("name", 11)]) rfl sc_opened.nd (pi_list (pv 1)) (blkOk_by (N := ["store", "names", "most", "stores", "known", "ways", "here", "found", "move", "later", "there", "name", "state"]) (sc := defScope s_opened) (by decide +kernel)) (fun _ _ _ _ _ => (pg_name (i := 11) sc_opened.nd rfl (Or.inl rfl))) (fun _ _ _ _ _ => pts_nil) (fun _ _ _ _ _ => (pe_cmpR (op_inK (K := K)) (pv 11) (pv 10) (by rfl)))) pa_nil))) (pss_cons (ps_set (i := 12) sc_opened.nd rfl (Or.inl rfl) (pe_meth0 (pv 9) (c_Store (K := K) T) (m_Store_state (K := K) T) (ok_Store_state (P := P) (wo := wo) (K := K) T) (hr.mono (by decide)) (b_Store_state T) .nil pass0))
 (C8.pss_cut (ps_if (pt_cmpR (op_nnotinK (P := P) (w := wo) hr.units) (pv 12) (pv 4) (by rfl)) (pss_cons (ps_if (pt_cmpR op_eq (pe_callB (call_len_seqK (K := K)) (by rfl) (z_len T) (by decide +kernel) (pa_cons (pv 3) pa_nil)) (pv 2) (nomark _)) (pss_one ps_never) pss_nil)
 (pss_cons (ps_asg (pe_callB (call_len_seqK (K := K)) (by rfl) (z_len T) (by decide +kernel) (pa_cons (pv 3) pa_nil)) (pg_sub (pv 4) (pv 12) (set_nk hr.units)))
 (pss_one (ps_expr (pe_bm PySem.F.plainAttrs_list PySem.F.slot_list_append PySem.F.type_list_append mt_append (pv 3) (pa_cons (pv 9) pa_nil)))))) pss_nil)
 (pss_one (ps_expr (pe_bm PySem.F.plainAttrs_list PySem.F.slot_list_append PySem.F.type_list_append mt_append (pv 7) (pa_cons (pe_tup (pa_cons (pv 8) (pa_cons (pe_ix (ix_nkK (P := P) (w := wo) hr.units) (pv 4) (pv 12) (fun _ _ => rfl)) pa_nil))) pa_nil)))))) pss_nil)))))
 (pss_one (ps_expr (pe_bm PySem.F.plainAttrs_list PySem.F.slot_list_append PySem.F.type_list_append mt_append (pv 5) (pa_cons (pv 7) pa_nil))))))))
 (pss_one (ps_ret (pe_tup (pa_cons (pe_callTy (call_list_nk rfl) (by rfl) (z_list T) (by decide +kernel) (pa_cons (pv 4) pa_nil)) (pa_cons (pv 5) pa_nil))))))))), ?_⟩
    try dsimp only [cxK, cxP, cxW]
    obtain ⟨sdx, es⟩ := st.ins
    walk_at "rds"
    refine ⟨G, p, S, N, rfl, st, fun p1 S1 H1 sm1 st1 fr1 fp1 lk => ?_⟩
    have hs1 : HasSt K D S.hold S.pres N [] H1 p1 (stL (S.bl.map (·.t))) := ⟨_, S1, st1, (fun x hx => nomatch hx), lk.hold, lk.pres, lk.ds.trans hds, by rw [lk.mo]; exact m0, by rw [lk.ts]; exact rp, by rw [lk.ts]; exact nok, by rw [lk.ts]⟩
    walk_at "rds"
    intro sa fsa
    have hs2 := (hs1.more fsa).same (same_new (o := .lst [V.ref p1]) fsa)
    have sm2 := sm1.trans (same_new (o := .lst [V.ref p1]) fsa)
    have esa2 : (upd H1 sa (.lst [V.ref p1])) sa = _ := upd_same
    generalize upd H1 sa (.lst [V.ref p1]) = H2 at *
    walk_at "rds"
    intro ka fka
    have hs3 := (hs2.more fka).same (same_new (o := nkD P wo ka []) fka)
    have sm3 := sm2.trans (same_new (o := nkD P wo ka []) fka)
    have esa3 := same_new (o := nkD P wo ka []) fka _ _ esa2
    have eka3 : (upd H2 ka (nkD P wo ka [])) ka = _ := upd_same
    have nsk : sa ≠ ka := ne_of_none esa2 fka
    generalize upd H2 ka (nkD P wo ka []) = H3 at *
    have st3 := st.same sm3
    obtain ⟨sdx3, es3⟩ := st3.ins
    walk_at "rds"
    refine ⟨G, p, S, N, rfl, st3, fun s0 H4 sm4 es0 => ?_⟩
    have eka4 := sm4 _ _ eka3
    refine ⟨s0, _, rfl, es0, eka4, ?_⟩
    have hs5 := (hs3.same sm4).put (x := ka) (List.mem_cons_self ..) eka4 (o' := nkD P wo ka [(stL (S.bl.map (·.t)), s0, V.int 0)]) trivial
    have es05 : StAt (upd H4 ka (nkD P wo ka [(stL (S.bl.map (·.t)), s0, V.int 0)])) s0 (stL (S.bl.map (·.t))) := es0.mono fun a xs z => (upd_ne (fun (y : a = ka) => by rw [y, eka4] at z; cases z)).trans z
    have esa5 := (upd_ne (o := nkD P wo ka [(stL (S.bl.map (·.t)), s0, V.int 0)]) nsk).trans (sm4 _ _ esa3)
    have eka5 : (upd H4 ka (nkD P wo ka [(stL (S.bl.map (·.t)), s0, V.int 0)])) ka = _ := upd_same
    have fkaH : H ka = none := Same.free sm2 fka
    have fsaH : H sa = none := Same.free sm1 fsa
    have sm5 : Same H (upd H4 ka (nkD P wo ka [(stL (S.bl.map (·.t)), s0, V.int 0)])) := fun b o hb => (upd_ne (ne_of_none hb fkaH)).trans ((sm3.trans sm4) _ _ hb)
    clear hs1 hs2 hs3 esa2 esa3 eka3 eka4 es3
    generalize upd H4 ka (nkD P wo ka [(stL (S.bl.map (·.t)), s0, V.int 0)]) = H5 at *
    walk_at "rds"
    intro wa fwa
    have fwaH : H wa = none := Same.free sm5 fwa
    have hs6 := (hs5.more fwa).same (same_new (o := .lst []) fwa)
    have sm6 := sm5.trans (same_new (o := .lst []) fwa)
    have esa6 := same_new (o := .lst []) fwa _ _ esa5
    have kn6 : Kn P wo (upd H5 wa (.lst [])) ka [stL (S.bl.map (·.t))] := ⟨_, same_new fwa _ _ eka5, fun e he => by
      obtain rfl := List.mem_singleton.mp he
      exact es05.mono fun a xs z => same_new fwa _ _ z, rfl, fun j e he => by
      cases j with
      | zero =>
        obtain rfl := Option.some.inj (show some _ = some e from he)
        rfl
      | succ j => cases he⟩
    have ewa6 : (upd H5 wa (.lst [])) wa = _ := upd_same
    have nsw : sa ≠ wa := ne_of_none esa5 fwa
    have nkw : ka ≠ wa := ne_of_none eka5 fwa
    clear hs5 esa5 eka5 es05
    generalize upd H5 wa (.lst []) = H6 at *
    have oldn : ∀ {b o}, H b = some o → b ≠ sa ∧ b ≠ ka ∧ b ≠ wa := fun {b o} hb => ⟨ne_of_none hb fsaH, ne_of_none hb fkaH, ne_of_none hb fwaH⟩
    walk_at "rds"
    refine r_while (fun m σ' H' => (∃ o6 o7 o8 o9 o10 o11 o12, σ' = [some (.ref p), some (.ref l), some (.int 120), some (.ref sa), some (.ref ka), some (.ref wa), o6, o7, o8, o9, o10, o11, o12]) ∧ Same H H' ∧
      ∃ ps ss ws W, H' sa = some (.lst (ps.map V.ref)) ∧ Kn P wo H' ka ss ∧ H' wa = some (.lst (ws.map V.ref)) ∧ Paired (HasSt K D S.hold S.pres N [wa, ka, sa] H') ps ss ∧ Paired (RowX [wa, ka, sa] H') ws W ∧ ss.Nodup ∧ (∀ s ∈ ss, s ∈ C) ∧ ss[0]? = some (stL (S.bl.map (·.t))) ∧ W.length ≤ ss.length ∧
        (∀ (i : Nat) (s : AS) (r : List (Option Str × Nat)), ss[i]? = some s → W[i]? = some r → Paired (EdgeOk ss) r (succS D S.hold S.pres ns s)) ∧ m = 60 - W.length) 60
      ⟨⟨_, _, _, _, _, _, _, rfl⟩, sm6, [p1], [stL (S.bl.map (·.t))], [], [], esa6, kn6, ewa6, .cons hs6 .nil, .nil, by simp, fun s hs => by rw [List.mem_singleton.mp hs]; exact sC, rfl, Nat.zero_le _, (fun i s r _ hr => by cases hr), rfl⟩ (fun m σ' H' h => ?_)
    clear hs6 esa6 kn6 ewa6 sm6 sm5
    obtain ⟨⟨o6, o7, o8, o9, o10, o11, o12, rfl⟩, sm, ps, ss, ws, W, esa, kn, ewa, hps, hws, ssn, ssC, ss0, Wl, rows, rfl⟩ := h
    have pl : ps.length = ss.length := Paired.length hps
    have wl : ws.length = W.length := Paired.length hws
    walk_at "rds"
    refine x_lenL (SqL.of ewa) ?_
    walk_at "rds"
    refine x_lenL (SqL.of esa) ?_
    walk_at "rds"
    rw [List.length_map, List.length_map, wl, pl]
    refine k_wh (fun hc => ?_) (fun hc => ?_)
    · have hlt : W.length < ss.length := by have := of_decide_eq_true hc; omega
      have ss60 : ss.length ≤ 60 := Nat.le_trans (php2 ssn ssC) c60
      have hsk : ss[W.length]? = some ss[W.length] := List.getElem?_eq_getElem hlt
      have hskC := ssC _ (List.getElem_mem hlt)
      generalize ss[W.length] = sk at hsk hskC
      obtain ⟨pk, hpk, hst⟩ := Paired.getR hps _ _ hsk
      walk_at "rds"
      refine x_lenL (SqL.of ewa) ?_
      walk_at "rds"
      rw [List.length_map, wl]
      refine x_ixL (SqL.of esa) (atI_N (by rw [List.getElem?_map, hpk]; rfl)) ?_
      walk_at "rds"
      intro fa ffa
      have ffaH : H fa = none := Same.free sm ffa
      have smf := same_new (o := .lst []) ffa
      have esa1 := smf _ _ esa
      have ewa1 := smf _ _ ewa
      have kn1 := kn.same smf
      have hps1 := Paired.mapP hps fun a s z => (HasSt.more z ffa).same smf
      have hws1 := Paired.mapP hws fun a s z => (RowX.more z ffa).same smf
      have hst1 := (hst.more ffa).same smf
      have sm1' := sm.trans smf
      have efa1 : (upd H' fa (.lst [])) fa = _ := upd_same
      have nfs : sa ≠ fa := ne_of_none esa ffa
      have nfw : wa ≠ fa := ne_of_none ewa ffa
      have nfk : ka ≠ fa := by
        obtain ⟨xs, ex, _⟩ := kn.ex
        exact ne_of_none ex ffa
      clear esa ewa kn hps hws hst sm smf
      generalize upd H' fa (.lst []) = H7 at *
      obtain ⟨Gk, Sk, stk, xk, hk1, hk2, hk3, hk4, rpk, nokk, hsk2⟩ := hst1
      have nmk : NamesOk Sk := fun b hb => nokk b.t (List.mem_map.mpr ⟨b, hb, rfl⟩)
      walk_at "rds"
      refine ⟨Gk, pk, Sk, N, rfl, stk, nmk, fun ml H8 fml sm8 eml => ?_⟩
      have mls : sa ≠ ml := ne_of_none esa1 fml
      have mlw : wa ≠ ml := ne_of_none ewa1 fml
      have mlf : fa ≠ ml := ne_of_none efa1 fml
      refine k_iL (SqL.of eml) ?_
      have sm08 := sm1'.trans sm8
      have fm : ∀ q ∈ succS D S.hold S.pres ns sk, q.2 ∈ C := clos sk hskC
      have hsu : succS D S.hold S.pres ns sk = ways S.hold S.pres ns (Sk.bl.map (·.t)) := by rw [ways_succ rpk, hsk2]
      refine k_for (itx_l K ml ((movL (Sk.bl.map (·.t))).map movV)) (fun i σ' H' => (∃ o8 o9 o10 o11 o12, σ' = [some (.ref p), some (.ref l), some (.int 120), some (.ref sa), some (.ref ka), some (.ref wa), some (.ref pk), some (.ref fa), o8, o9, o10, o11, o12]) ∧ Same H H' ∧ H' ml = some (.lst ((movL (Sk.bl.map (·.t))).map movV)) ∧ StO K Gk H' pk Sk N ∧
        ∃ ps ss fs row, H' sa = some (.lst (ps.map V.ref)) ∧ Kn P wo H' ka ss ∧ H' wa = some (.lst (ws.map V.ref)) ∧ H' fa = some (.lst (fs.map V.ref)) ∧ Paired (EdgeAt H') fs row ∧ Paired (HasSt K D S.hold S.pres N [fa, wa, ka, sa] H') ps ss ∧ Paired (RowX [fa, wa, ka, sa] H') ws W ∧ ss.Nodup ∧ (∀ s ∈ ss, s ∈ C) ∧ ss[0]? = some (stL (S.bl.map (·.t))) ∧ W.length < ss.length ∧ ss[W.length]? = some sk ∧
          (∀ (i : Nat) (s : AS) (r : List (Option Str × Nat)), ss[i]? = some s → W[i]? = some r → Paired (EdgeOk ss) r (succS D S.hold S.pres ns s)) ∧
          fs.length ≤ i ∧ Paired (EdgeOk ss) row (((movL (Sk.bl.map (·.t))).take i).filterMap fun mv => if allIn ns (stepL S.hold S.pres mv (Sk.bl.map (·.t))) then some (mv, stL (stepL S.hold S.pres mv (Sk.bl.map (·.t)))) else none)) ?_ (fun i σ' H' _ h => SqL.of h.2.2.1) (fun i x σ' H9 hx h => ?_) (fun σ' H9 h => ?_)
      · exact ⟨⟨_, _, _, _, _, rfl⟩, sm08, eml, stk.same sm8, ps, ss, [], [], sm8 _ _ esa1, kn1.same sm8, sm8 _ _ ewa1, sm8 _ _ efa1, .nil, Paired.mapP hps1 fun a s z => z.same sm8, Paired.mapP hws1 fun a s z => z.same sm8, ssn, ssC, ss0, hlt, hsk, rows, Nat.zero_le _, .nil⟩
      · obtain ⟨⟨o8, o9, o10, o11, o12, rfl⟩, sm9, eml9, stk9, ps', ss', fs, row, esa9, kn9, ewa9, efa9, hfs, hps9, hws9, ssn', ssC', ss0', hlt', hsk', rows', fl, hrow⟩ := h
        obtain ⟨mv, hmv, rfl⟩ : ∃ mv, (movL (Sk.bl.map (·.t)))[i]? = some mv ∧ x = movV mv := by
          rw [List.getElem?_map] at hx
          cases hy : (movL (Sk.bl.map (·.t)))[i]? with
          | none => rw [hy] at hx; cases hx
          | some z => rw [hy] at hx; exact ⟨z, rfl, (Option.some.inj hx).symm⟩
        have hmvm := List.mem_of_getElem? hmv
        have takeS : ∀ (f : Option Str → Option (Option Str × AS)), ((movL (Sk.bl.map (·.t))).take (i + 1)).filterMap f = ((movL (Sk.bl.map (·.t))).take i).filterMap f ++ (match f mv with | some q => [q] | none => []) := fun f => by
          rw [List.take_add_one, hmv, List.filterMap_append]
          congr 1
          simp only [Option.toList_some, List.filterMap_cons, List.filterMap_nil]
          cases f mv <;> rfl
        walk_at "rds"
        refine ⟨Gk, pk, Sk, N, mv, rfl, stk9, nb, hk3, hk4, fun n hn => ?_, fun p' S' H10 sm10 st10 fr10 fp10 e1 e2 e3 e4 e5 => ?_⟩
        · subst hn
          obtain ⟨t, ht, rfl⟩ := List.mem_map.mp (mov_in hmvm)
          exact nokk t ht
        rw [hk1, hk2] at e5
        have hX : ∀ x ∈ [fa, wa, ka, sa], H9 x ≠ none := fun x hx => by
          simp only [List.mem_cons, List.not_mem_nil, or_false] at hx
          rcases hx with z | z | z | z
          · rw [z, efa9]; simp
          · rw [z, ewa9]; simp
          · obtain ⟨xs, ex, _⟩ := kn9.ex
            rw [z, ex]; simp
          · rw [z, esa9]; simp
        have hnew : HasSt K D S.hold S.pres N [fa, wa, ka, sa] H10 p' (stL (stepL S.hold S.pres mv (Sk.bl.map (·.t)))) := ⟨_, S', st10, fun x hx => ⟨fun g => g.elim (xk x hx).1 fun g => hX x hx g.1, fun o => hX x hx (fr10 x o), fun z => hX x hx (z ▸ fp10)⟩, e1.trans hk1, e2.trans hk2, e3, e4, by rw [e5]; exact step_rp rpk, fun t ht => by
          rw [e5] at ht
          obtain ⟨u, hu, eu⟩ := List.mem_map.mp ((step_sub S.hold S.pres mv (Sk.bl.map (·.t))).subset (List.mem_map.mpr ⟨t, ht, rfl⟩))
          rw [← eu]
          exact nokk u hu, by rw [e5]⟩
        obtain ⟨pdx, ep⟩ := st10.ins
        have el9 := sm10 _ _ (sm9 _ _ el)
        walk_at "rds"
        refine ⟨_, p', S', N, rfl, st10, fun tl H11 ftl sm11 etl => ?_⟩
        have sm911 := sm10.trans sm11
        have el11 := sm11 _ _ el9
        walk_at "rds"
        refine k_iL (SqL.of el11) ?_
        refine k_lcP (itx_l K l (ns.map V.str)) (fun v => some (.bl (inV v ((sortS (S'.bl.map (·.t.nm))).map V.str)))) (fun H' k => SqL.of (k _ _ el11)) (by rw [List.length_map]; exact sz8 (by omega)) (fun v H' N' hv k hN => ?_) (fun Dl H12 fD k eD => ?_)
        · obtain ⟨nm, hnm, rfl⟩ := List.mem_map.mp hv
          refine el_name rfl ?_
          walk_at "rds"
          exact ⟨tl, _, rfl, .inl (SqL.of (k _ _ etl)), rfl, flat_str _, hN _ (Same.refl _)⟩
        rw [fm_all] at eD
        have sm912 := sm911.trans k
        have st12 := (st10.same sm11).same k
        have hnew12 := (hnew.same sm11).same k
        obtain ⟨pdx12, ep12⟩ := st12.ins
        have eall : ((ns.map fun n => inV (.str n) ((sortS (S'.bl.map (·.t.nm))).map V.str)).all id) = allIn ns (stepL S.hold S.pres mv (Sk.bl.map (·.t))) := by
          rw [← e5, ← all_in, List.map_map]
          rfl
        walk_at "rds"
        refine ⟨Dl, _, rfl, SqL.of eD, ?_⟩
        rw [eall]
        walk_at "rds"
        refine k_if (fun hc => ?_) (fun hc => ?_)
        · walk_at "rds"
          refine ⟨_, p', S', N, rfl, st12, fun sta H13 sm13 esta => ?_⟩
          rw [e5] at esta
          have sm913 := sm912.trans sm13
          walk_at "rds"
          generalize hs' : stL (stepL S.hold S.pres mv (Sk.bl.map (·.t))) = s' at *
          have hs'C : s' ∈ C := by
            refine fm (mv, s') ?_
            rw [hsu]
            unfold ways
            refine List.mem_filterMap.mpr ⟨mv, hmvm, ?_⟩
            rw [if_pos hc, hs']
          refine ⟨fun σ' Hc => (∃ o10 o11, σ' = [some (.ref p), some (.ref l), some (.int 120), some (.ref sa), some (.ref ka), some (.ref wa), some (.ref pk), some (.ref fa), some (movV mv), some (.ref p'), o10, o11, some (.ref sta)]) ∧ Same H Hc ∧ Hc ml = some (.lst ((movL (Sk.bl.map (·.t))).map movV)) ∧ StO K Gk Hc pk Sk N ∧ StAt Hc sta s' ∧
            ∃ ps ss, Hc sa = some (.lst (ps.map V.ref)) ∧ Kn P wo Hc ka ss ∧ Hc wa = some (.lst (ws.map V.ref)) ∧ Hc fa = some (.lst (fs.map V.ref)) ∧ Paired (EdgeAt Hc) fs row ∧ Paired (HasSt K D S.hold S.pres N [fa, wa, ka, sa] Hc) ps ss ∧ Paired (RowX [fa, wa, ka, sa] Hc) ws W ∧ ss.Nodup ∧ (∀ s ∈ ss, s ∈ C) ∧ ss[0]? = some (stL (S.bl.map (·.t))) ∧ W.length < ss.length ∧ ss[W.length]? = some sk ∧
              (∀ (i : Nat) (s : AS) (r : List (Option Str × Nat)), ss[i]? = some s → W[i]? = some r → Paired (EdgeOk ss) r (succS D S.hold S.pres ns s)) ∧ s' ∈ ss ∧
              Paired (EdgeOk ss) row (((movL (Sk.bl.map (·.t))).take i).filterMap fun mv => if allIn ns (stepL S.hold S.pres mv (Sk.bl.map (·.t))) then some (mv, stL (stepL S.hold S.pres mv (Sk.bl.map (·.t)))) else none), ?_, ?_⟩
          · have kn13 := kn9.same sm913
            obtain ⟨xs, ex, nk, xm, xj⟩ := kn13.ex
            have hnew13 := hnew12.same sm13
            have esa13 := sm913 _ _ esa9
            have pl' : ps'.length = ss'.length := Paired.length hps9
            have ss60' : ss'.length ≤ 60 := Nat.le_trans (php2 ssn' ssC') c60
            walk_at "rds"
            refine ⟨sta, ka, s', xs, rfl, rfl, esta, .inl ex, nk, ?_⟩
            by_cases hin : s' ∈ ss'
            · obtain ⟨j, hj, _⟩ := valN_some (xs := xs) (s := s') (by rw [xm]; exact hin) xj
              rw [hj]
              refine x_bF (by rfl) ?_
              walk_at "rds"
              exact ⟨⟨_, _, rfl⟩, sm9.trans sm913, sm913 _ _ eml9, stk9.same sm913, esta, ps', ss', esa13, kn13, sm913 _ _ ewa9, sm913 _ _ efa9, Paired.mapP hfs fun b e z => sm913 _ _ z, Paired.mapP hps9 fun a s z => z.same sm913, Paired.mapP hws9 fun a r z => z.same sm913, ssn', ssC', ss0', hlt', hsk', rows', hin, hrow⟩
            · have hvn : valN xs s' = none := valN_none.mpr (by rw [xm]; exact hin)
              rw [hvn]
              refine x_bT (by rfl) ?_
              walk_at "rds"
              refine x_lenL (SqL.of esa13) ?_
              walk_at "rds"
              refine k_if (fun hz => absurd (of_decide_eq_true hz) (by rw [List.length_map]; omega)) (fun _ => ?_)
              walk_at "rds"
              refine x_lenL (SqL.of esa13) ?_
              walk_at "rds"
              have xl : xs.length = ss'.length := by rw [← xm, List.length_map]
              refine k_subN esta ex nk hvn (sz8 (by omega)) ?_
              have knx : Kn P wo (upd H13 ka (nkD P wo ka (xs ++ [(s', sta, .int (((ps'.map V.ref).length : Nat) : Int))]))) ka (ss' ++ [s']) := by
                have kpt : ∀ a xs0, H13 a = some (.tup xs0) → (upd H13 ka (nkD P wo ka (xs ++ [(s', sta, .int (((ps'.map V.ref).length : Nat) : Int))]))) a = some (.tup xs0) := fun a xs0 z => (upd_ne (fun (y : a = ka) => by rw [y, ex] at z; cases z)).trans z
                refine ⟨_, upd_same, fun e he => ?_, by rw [List.map_append, xm]; rfl, fun j e he => ?_⟩
                · rcases List.mem_append.mp he with z | z
                  · exact (nk e z).mono kpt
                  · obtain rfl := List.mem_singleton.mp z
                    exact esta.mono kpt
                · by_cases hj : j < xs.length
                  · rw [List.getElem?_append_left hj] at he
                    exact xj j e he
                  · have hl := (List.getElem?_eq_some_iff.mp he).1
                    rw [List.length_append, List.length_singleton] at hl
                    have hj2 : j = xs.length := by omega
                    subst hj2
                    rw [List.getElem?_append_right (Nat.le_refl _), Nat.sub_self] at he
                    obtain rfl := Option.some.inj (show some _ = some e from he)
                    show V.int _ = V.int _
                    rw [List.length_map, pl', xl]
              have putk : ∀ {a s}, HasSt K D S.hold S.pres N [fa, wa, ka, sa] H13 a s → HasSt K D S.hold S.pres N [fa, wa, ka, sa] (upd H13 ka (nkD P wo ka (xs ++ [(s', sta, .int (((ps'.map V.ref).length : Nat) : Int))]))) a s := fun z => z.put (x := ka) (by simp) ex trivial
              have hps13 := Paired.mapP hps9 fun a s z => putk (z.same sm913)
              have hws13 := Paired.mapP hws9 fun a r z => (z.same sm913).put (x := ka) (by simp) ex (o' := nkD P wo ka (xs ++ [(s', sta, .int (((ps'.map V.ref).length : Nat) : Int))])) trivial
              have hnewk := putk hnew13
              have esak := (upd_ne (o := nkD P wo ka (xs ++ [(s', sta, .int (((ps'.map V.ref).length : Nat) : Int))])) nsk).trans esa13
              have kpt2 : ∀ {a : Addr} {o : HO}, H13 a = some o → a ≠ ka → (upd H13 ka (nkD P wo ka (xs ++ [(s', sta, .int (((ps'.map V.ref).length : Nat) : Int))]))) a = some o := fun z y => (upd_ne y).trans z
              have tupk : ∀ a xs0, H13 a = some (.tup xs0) → (upd H13 ka (nkD P wo ka (xs ++ [(s', sta, .int (((ps'.map V.ref).length : Nat) : Int))]))) a = some (.tup xs0) := fun a xs0 z => (upd_ne (fun (y : a = ka) => by rw [y, ex] at z; cases z)).trans z
              have esta2 := esta.mono tupk
              have ewak := kpt2 (sm913 _ _ ewa9) nkw.symm
              have efak := kpt2 (sm913 _ _ efa9) nfk.symm
              have hfsk := Paired.mapP hfs fun b e z => tupk b _ (sm913 _ _ z)
              have mlk : ml ≠ ka := fun y => by
                have := sm913 _ _ eml9
                rw [y, ex] at this
                cases this
              have emlk := kpt2 (sm913 _ _ eml9) mlk
              have smk : ∀ b o, H b = some o → (upd H13 ka (nkD P wo ka (xs ++ [(s', sta, .int (((ps'.map V.ref).length : Nat) : Int))]))) b = some o := fun b o hb => kpt2 ((sm9.trans sm913) _ _ hb) (oldn hb).2.1
              have stkk : StO K Gk (upd H13 ka (nkD P wo ka (xs ++ [(s', sta, .int (((ps'.map V.ref).length : Nat) : Int))]))) pk Sk N := by
                have z := stk9.same sm913
                obtain ⟨dxk, eik⟩ := z.ins
                obtain ⟨g1, g2, g3⟩ := xk ka (by simp)
                exact ⟨⟨dxk, (upd_ne g3.symm).trans eik⟩, z.g, z.o, z.sc.frame (Kp.put g1 ex trivial) fun a o => upd_ne (fun y => g2 (y ▸ o))⟩
              clear hps9 hws9 kn13 hnew13 esa13 nk
              generalize upd H13 ka (nkD P wo ka (xs ++ [(s', sta, .int (((ps'.map V.ref).length : Nat) : Int))])) = H14 at *
              walk_at "rds"
              refine k_bmL esak ?_
              walk_at "rds"
              refine k_append (xs := ps'.map V.ref) esak (by rw [List.length_map]; exact sz8 (by omega)) ?_
              walk_at "rds"
              have tups : ∀ a xs0, H14 a = some (.tup xs0) → (upd H14 sa (.lst (ps'.map V.ref ++ [.ref p']))) a = some (.tup xs0) := fun a xs0 z => (upd_ne (fun (y : a = sa) => by rw [y, esak] at z; cases z)).trans z
              have ltl : ss'.length < (ss' ++ [s']).length := by rw [List.length_append]; simp
              refine ⟨⟨_, _, rfl⟩, fun b o hb => (upd_ne (oldn hb).1).trans (smk b o hb), (upd_ne mls.symm).trans emlk, ?_, esta2.mono tups, ps' ++ [p'], ss' ++ [s'], by rw [upd_same, List.map_append]; rfl, knx.put nsk.symm esak trivial, (upd_ne nsw.symm).trans ewak, (upd_ne nfs.symm).trans efak, Paired.mapP hfsk fun b e z => tups b _ z,
                Paired.snoc (Paired.mapP hps13 fun a s z => z.put (x := sa) (by simp) esak trivial) (hnewk.put (x := sa) (by simp) esak trivial), Paired.mapP hws13 fun a r z => z.put (x := sa) (by simp) esak trivial, ?_, fun s hs => ?_, ?_, by omega, ?_, fun i s r hi hr => ?_, List.mem_append.mpr (.inr (List.mem_singleton.mpr rfl)), Paired.mapP hrow fun e q z => z.snoc⟩
              · obtain ⟨dxk, eik⟩ := stkk.ins
                obtain ⟨g1, g2, g3⟩ := xk sa (by simp)
                exact ⟨⟨dxk, (upd_ne g3.symm).trans eik⟩, stkk.g, stkk.o, stkk.sc.frame (Kp.put g1 esak trivial) fun a o => upd_ne (fun y => g2 (y ▸ o))⟩
              · refine List.nodup_append.mpr ⟨ssn', by simp, fun a ha c hc z => ?_⟩
                obtain rfl : c = s' := by simpa using hc
                exact hin (z ▸ ha)
              · rcases List.mem_append.mp hs with z | z
                · exact ssC' s z
                · rw [List.mem_singleton.mp z]; exact hs'C
              · rw [List.getElem?_append_left (by omega)]
                exact ss0'
              · rw [List.getElem?_append_left (by omega)]
                exact hsk'
              · have hil : i < W.length := (List.getElem?_eq_some_iff.mp hr).1
                rw [List.getElem?_append_left (by omega)] at hi
                exact Paired.mapP (rows' i s r hi hr) fun e q z => z.snoc
          · rintro σ' Hc ⟨⟨oA, oB, rfl⟩, smc, emlc, stc, estc, psc, ssc, esac, knc, ewac, efac, hfsc, hpsc, hwsc, sscn, sscC, ssc0, ltc, hskc, rowsc, hinc, hrowc⟩
            obtain ⟨xs, ex, nk, xm, xj⟩ := knc.ex
            obtain ⟨j, hj, hjs⟩ := valN_some (xs := xs) (s := s') (by rw [xm]; exact hinc) xj
            rw [xm] at hjs
            walk_at "rds"
            refine k_bmL efac ?_
            walk_at "rds"
            refine ⟨sta, ka, s', xs, .int (j : Nat), rfl, rfl, estc, .inl ex, nk, hj, ?_⟩
            walk_at "rds"
            intro r fr
            have smr := same_new (o := .tup [movV mv, .int (j : Nat)]) fr
            have efr := smr _ _ efac
            have i60 : i ≤ 9 := by
              have h1 := (List.getElem?_eq_some_iff.mp hmv).1
              have h2 : (movL (Sk.bl.map (·.t))).length ≤ 9 := by
                unfold movL
                rw [List.length_cons, List.length_map]
                have h3 := List.length_filter_le (fun n => ((look (Sk.bl.map (·.t)) n).bind waneT).isSome) (sortS ((Sk.bl.map (·.t)).map (·.nm)))
                rw [sortS_length, List.length_map, List.length_map] at h3
                have := stk9.sc.ok.l8
                omega
              omega
            walk_at "rds"
            refine k_append (xs := fs.map V.ref) efr (by rw [List.length_map]; exact sz8 (by omega)) ?_
            walk_at "rds"
            have tupf : ∀ a xs0, (upd Hc r (.tup [movV mv, .int (j : Nat)])) a = some (.tup xs0) → (upd (upd Hc r (.tup [movV mv, .int (j : Nat)])) fa (.lst (fs.map V.ref ++ [.ref r]))) a = some (.tup xs0) := fun a xs0 z => (upd_ne (fun (y : a = fa) => by rw [y, efr] at z; cases z)).trans z
            refine ⟨⟨_, _, _, _, _, rfl⟩, fun b o hb => (upd_ne (ne_of_none hb ffaH)).trans (smr _ _ (smc _ _ hb)), (upd_ne mlf.symm).trans (smr _ _ emlc), ?_, psc, ssc, fs ++ [r], row ++ [(mv, j)], (upd_ne nfs).trans (smr _ _ esac), (knc.same smr).put nfk efr trivial, (upd_ne nfw).trans (smr _ _ ewac), by rw [upd_same, List.map_append]; rfl,
              Paired.snoc (Paired.mapP hfsc fun b e z => tupf b _ (smr _ _ z)) (tupf r _ upd_same), Paired.mapP hpsc fun a s z => (z.same smr).put (x := fa) (by simp) efr trivial, Paired.mapP hwsc fun a r z => (z.same smr).put (x := fa) (by simp) efr trivial, sscn, sscC, ssc0, ltc, hskc, rowsc, by rw [List.length_append, List.length_singleton]; omega, ?_⟩
            · obtain ⟨dxk, eik⟩ := (stc.same smr).ins
              obtain ⟨g1, g2, g3⟩ := xk fa (by simp)
              exact ⟨⟨dxk, (upd_ne g3.symm).trans eik⟩, stc.g, stc.o, (stc.same smr).sc.frame (Kp.put g1 efr trivial) fun a o => upd_ne (fun y => g2 (y ▸ o))⟩
            · rw [takeS, if_pos hc, hs']
              exact Paired.snoc hrowc ⟨rfl, hjs⟩
        · walk_at "rds"
          refine ⟨⟨_, _, _, _, _, rfl⟩, sm9.trans sm912, sm912 _ _ eml9, stk9.same sm912, ps', ss', fs, row, sm912 _ _ esa9, kn9.same sm912, sm912 _ _ ewa9, sm912 _ _ efa9, Paired.mapP hfs fun b e z => sm912 _ _ z, Paired.mapP hps9 fun a s z => z.same sm912, Paired.mapP hws9 fun a r z => z.same sm912, ssn', ssC', ss0', hlt', hsk', rows', by omega, ?_⟩
          rw [takeS, if_neg (by rw [hc]; simp)]
          simpa using hrow
      · obtain ⟨⟨o8, o9, o10, o11, o12, rfl⟩, sm9, _, _, ps', ss', fs, row, esa9, kn9, ewa9, efa9, hfs, hps9, hws9, ssn', ssC', ss0', hlt', hsk', rows', fl, hrow⟩ := h
        rw [List.length_map, List.take_length] at hrow
        have hrow' : Paired (EdgeOk ss') row (succS D S.hold S.pres ns sk) := by rw [hsu]; exact hrow
        have ss60' : ss'.length ≤ 60 := Nat.le_trans (php2 ssn' ssC') c60
        walk_at "rds"
        refine k_bmL ewa9 ?_
        walk_at "rds"
        have nwk : wa ≠ ka := nkw.symm
        have nws : wa ≠ sa := nsw.symm
        refine k_append (xs := ws.map V.ref) ewa9 (by rw [List.length_map]; exact sz8 (by omega)) ?_
        walk_at "rds"
        have hwp : ∀ {a r}, RowX [fa, wa, ka, sa] H9 a r → RowX [wa, ka, sa] (upd H9 wa (.lst (ws.map V.ref ++ [.ref fa]))) a r := fun {a r} z => by
          have := z.put (x := wa) (by simp) ewa9 (o' := .lst (ws.map V.ref ++ [.ref fa])) trivial
          exact ⟨this.1, fun y => this.2 (List.mem_cons_of_mem _ y)⟩
        refine ⟨60 - (W.length + 1), by omega, ⟨_, _, _, _, _, _, _, rfl⟩, fun b o hb => (upd_ne (oldn hb).2.2).trans (sm9 _ _ hb), ps', ss', ws ++ [fa], W ++ [row], (upd_ne nws.symm).trans esa9, kn9.put nkw ewa9 trivial, by rw [upd_same, List.map_append]; rfl, Paired.mapP hps9 fun a s z => (z.put (x := wa) (by simp) ewa9 trivial).less, Paired.snoc (Paired.mapP hws9 fun a r z => hwp z) ⟨⟨fs, (upd_ne nfw.symm).trans efa9, Paired.mapP hfs fun b e z => ?_⟩, ?_⟩, ssn', ssC', ss0', by rw [List.length_append]; exact hlt', fun i s r hi hr => ?_, by rw [List.length_append]; rfl⟩
        · refine (upd_ne (fun (y : b = wa) => ?_)).trans z
          have z2 : H9 b = _ := z
          rw [y, ewa9] at z2
          cases z2
        · simp only [List.mem_cons, List.not_mem_nil, or_false, not_or]
          exact ⟨nfw.symm, nfk.symm, nfs.symm⟩
        · by_cases hiW : i < W.length
          · rw [List.getElem?_append_left hiW] at hr
            exact rows' i s r hi hr
          · have : i = W.length := by
              have := (List.getElem?_eq_some_iff.mp hr).1
              rw [List.length_append, List.length_singleton] at this
              omega
            subst this
            rw [List.getElem?_append_right (Nat.le_refl _), Nat.sub_self] at hr
            obtain rfl := Option.some.inj (show some row = some r from hr)
            rw [hsk'] at hi
            obtain rfl := Option.some.inj hi
            exact hrow'
    · have hge : ¬ (W.length : Int) < ss.length := of_decide_eq_false hc
      obtain ⟨xs, ex, nk, xm, xj⟩ := kn.ex
      walk_at "rds"
      refine ⟨ka, xs, rfl, .inl ex, fun sl fsl => ?_⟩
      walk_at "rds"
      intro r fr
      obtain ⟨nr, fr2⟩ := upd_none fr
      have nwsl : wa ≠ sl := ne_of_none ewa fsl
      have nwr : wa ≠ r := ne_of_none ewa fr2
      have smE := (same_new (o := .lst (xs.map fun e => V.ref e.2.1)) fsl).trans (same_new (o := .tup [.ref sl, .ref wa]) fr)
      have hq := q r sl wa (xs.map (·.2.1)) ss W _ (sm.trans smE) upd_same ((upd_ne nr.symm).trans (by rw [upd_same, List.map_map]; rfl)) (by
        rw [← xm]
        exact keys_paired (nk.mono fun a xs z => smE _ _ z)) ⟨ws, smE _ _ ewa, Paired.mapP hws fun a r z => z.1.same smE⟩ ⟨ssn, ss0, by omega, Nat.le_trans (php2 ssn ssC) c60, rows⟩ ssC
      exact hq
end
end Wh

/-! ## S7e -/
set_option Elab.async false
set_option linter.all false
set_option maxRecDepth 100000
set_option maxHeartbeats 4000000


namespace Wh
open PySem PySem.Spec PyProof.Rows L2
section
variable {P : Program} {wo : World} {K : PySem.W.Frag} {mg : Str → Option Value} {base : Heap}
/-! ### the game kept -/
theorem num_rk {su : AS → List (Option Str × AS)} {s0 : AS} {ss : List AS} {W : Wy} {nu : Nu} (g : GmOk su s0 ss W) (ok : NumOk W nu) : ∀ (n p : Nat) (s : AS), (p, n) ∈ nu → ss[p]? = some s → Rk su s n := by
  intro n
  induction n using Nat.strongRecOn with
  | ind n ih =>
    intro p s hp hs
    have hpl : p < W.length := ok.lt _ hp
    have hrow := g.row p s _ hs (List.getElem?_eq_getElem hpl)
    rw [← getD_nth (List.getElem?_eq_getElem hpl)] at hrow
    have hok := ok.ok _ hp
    have heq := ok.eq _ hp
    simp only at hok heq
    have mem : ∀ {x : Nat} {m : Nat}, numAt nu x = some m → (x, m) ∈ nu := fun {x m} h => by
      unfold numAt at h
      cases e : nu.find? fun e => decide (e.1 = x) with
      | none => rw [e] at h; cases h
      | some y =>
        rw [e] at h
        have h1 : y.1 = x := by have := List.find?_some e; simpa using this
        have h2 := List.mem_of_find?_eq_some e
        have h3 : y.2 = m := Option.some.inj h
        rw [← h3, ← h1]
        exact h2
    have edge : ∀ {e q}, e ∈ W.getD p [] → EdgeOk ss e q → Rk su q.2 ((numAt nu e.2).getD 0) := fun {e q} he hq => by
      obtain ⟨a, b⟩ := hok e he
      obtain ⟨m, hm⟩ := Option.isSome_iff_exists.mp a
      rw [hm] at b ⊢
      simp only [Option.getD_some] at b ⊢
      exact ih m (by omega) e.2 q.2 (mem hm) hq.2
    let f : AS → Nat := fun t => open Classical in if h : ∃ k, Rk su t k then h.choose else 0
    have hf : ∀ {t k}, Rk su t k → f t = k := fun {t k} h => by
      have hx : ∃ k, Rk su t k := ⟨k, h⟩
      show (open Classical in if h : ∃ k, Rk su t k then h.choose else 0) = k
      rw [dif_pos hx]
      exact hx.choose_spec.uniq h
    have hmap : ∀ {r : List (Option Str × Nat)} {l : List (Option Str × AS)}, Paired (EdgeOk ss) r l → (∀ e ∈ r, e ∈ W.getD p []) → (l.map fun q => f q.2) = (r.map fun e => (numAt nu e.2).getD 0) ∧ ∀ q ∈ l, ∃ k, Rk su q.2 k := fun {r l} h => by
      induction h with
      | nil => exact fun _ => ⟨rfl, (fun _ h => nomatch h)⟩
      | @cons e q r l h0 h ih2 =>
        intro hm
        obtain ⟨i1, i2⟩ := ih2 fun e he => hm e (List.mem_cons_of_mem _ he)
        have hr := edge (hm e (List.mem_cons_self ..)) h0
        refine ⟨by rw [List.map_cons, List.map_cons, i1, hf hr], fun x hx => ?_⟩
        rcases List.mem_cons.mp hx with z | z
        · rw [z]; exact ⟨_, hr⟩
        · exact i2 x z
    obtain ⟨h1, h2⟩ := hmap hrow fun e he => he
    have := Rk.mk (su := su) s f fun q hq => by
      obtain ⟨k, hk⟩ := h2 q hq
      rw [hf hk]
      exact hk
    rw [h1, ← heq] at this
    exact this
theorem rk_num {su : AS → List (Option Str × AS)} {s0 : AS} {ss : List AS} {W : Wy} {nu : Nu} (g : GmOk su s0 ss W) (al : NumAll W nu) {s : AS} {n : Nat} (h : Rk su s n) : ∀ p, ss[p]? = some s → (numAt nu p).isSome := by
  induction h with
  | mk s f h ih =>
    intro p hp
    have hpl : p < W.length := by rw [g.len]; exact (List.getElem?_eq_some_iff.mp hp).1
    have hrow := g.row p s _ hp (List.getElem?_eq_getElem hpl)
    rw [← getD_nth (List.getElem?_eq_getElem hpl)] at hrow
    refine al p hpl fun e he => ?_
    obtain ⟨q, hq, eo⟩ := Paired.memL hrow e he
    exact ih q hq e.2 eo.2
def PapAt (H : Hp) (r : Addr) (q : AS × Nat) : Prop := ∃ a, H r = some (.tup [.ref a, .str "lost", .int (q.2 : Nat)]) ∧ StAt H a q.1
theorem PapAt.same {H H' : Hp} {r : Addr} {q : AS × Nat} (h : PapAt H r q) (k : Same H H') : PapAt H' r q := by
  obtain ⟨a, e, s⟩ := h
  exact ⟨a, k _ _ e, s.mono fun a xs z => k _ _ z⟩
def spPaper : Sp := fun vs H Q _ => ∃ (sl d e : Addr) (as : List Addr) (ss : List AS) (nu : Nu), vs = [.ref sl, .ref d, .ref e] ∧ H sl = some (.lst (as.map V.ref)) ∧ Paired (StAt H) as ss ∧ as.length ≤ 60 ∧ H d = some (.dK (nuK nu)) ∧ (∀ j, j < as.length → (numAt nu j).isSome) ∧
  ∀ rl rs qs H', Same H H' → H' rl = some (.lst (rs.map V.ref)) → Paired (PapAt H') rs qs → qs.map (·.1) = ss → (∀ (j : Nat) (q : AS × Nat), qs[j]? = some q → numAt nu j = some q.2) → Q (.ref rl) H'
theorem ok_paper_of (T : Tx K mg) : FnOk P wo K mg base CX0 1 (He.ga K "paper_of") (fdA K (He.ga K "paper_of")) ["states", "lost", "numbers"] (spPaper) := by
  refine okD (F_paper_of T) sc_paper_of (fun vs H Q E h => ?_) (fun cdv A outer s H vs Q E hr h => ?_)
  · obtain ⟨sl, d, e, as, ss, nu, rfl, _⟩ := h
    rfl
  · obtain ⟨sl, d, e, as, ss, nu, rfl, esl, pss, a60, ed, hall, q⟩ := h
    refine ⟨_, (pss_cons (ps_set (i := 3) sc_paper_of.nd rfl (Or.inl rfl) (pe_lst pa_nil))
 (pss_cons (ps_for PassesOwn.never rfl (pi_enum (by rfl) (z_enumerate T) (pa_cons (pv 0) pa_nil)) (pg_tupK (K := K) (n := 2) rfl (pgs_cons (pg_name (i := 4) sc_paper_of.nd rfl (Or.inl rfl)) (pgs_cons (pg_name (i := 5) sc_paper_of.nd rfl (Or.inl rfl)) pgs_nil))) (pss_one (ps_if (pt_cmp (pc_din (hu_of hr) (pv 4) (pv 1))) (pss_one (ps_expr (pe_bm PySem.F.plainAttrs_list PySem.F.slot_list_append PySem.F.type_list_append mt_append (pv 3) (pa_cons (pe_tup (pa_cons (pv 5) (pa_cons pe_str (pa_cons (pe_dget (hu_of hr) (pv 1) (pv 4) (fun _ _ => rfl)) pa_nil)))) pa_nil)))) (pss_one (ps_expr (pe_bm PySem.F.plainAttrs_list PySem.F.slot_list_append PySem.F.type_list_append mt_append (pv 3) (pa_cons (pe_tup (pa_cons (pv 5) (pa_cons pe_str (pa_cons (pe_dget (hu_of hr) (pv 2) (pv 4) (fun _ _ => rfl)) pa_nil)))) pa_nil)))))))
 (pss_one (ps_ret (pv 3))))), ?_⟩
    try dsimp only [cxK, cxP, cxW]
    walk_at "rds"
    intro rl frl
    have esl1 := same_new (o := .lst []) frl _ _ esl
    walk_at "rds"
    refine k_iE (xs := as.map V.ref) (SqL.of esl1) ?_
    have al : as.length = ss.length := Paired.length pss
    refine k_forE (fun i σ' H' => (∃ o4 o5, σ' = [some (.ref sl), some (.ref d), some (.ref e), some (.ref rl), o4, o5]) ∧ Same H H' ∧ ∃ rs qs, H' rl = some (.lst (rs.map V.ref)) ∧ Paired (PapAt H') rs qs ∧ qs.map (·.1) = ss.take i ∧ rs.length = i ∧ (∀ (j : Nat) (q : AS × Nat), qs[j]? = some q → numAt nu j = some q.2)) ?_ (fun i σ' H' _ h => SqL.of (h.2.1 _ _ esl)) (fun i x p σ' H' hx h fp => ?_) (fun σ' H' h => ?_)
    · exact ⟨⟨_, _, rfl⟩, same_new frl, [], [], upd_same, .nil, by simp, rfl, (fun j q h => by cases h)⟩
    · obtain ⟨⟨o4, o5, rfl⟩, sm, rs, qs, erl, pq, qm, rl', hnu⟩ := h
      obtain ⟨a, ha, rfl, hi⟩ := nth_ref hx
      obtain ⟨s, hs, sta⟩ := Paired.getL pss i a ha
      obtain ⟨n, hn⟩ := Option.isSome_iff_exists.mp (hall i hi)
      have smp := same_new (o := .tup [.int (i : Nat), .ref a]) fp
      have ed2 := smp _ _ (sm _ _ ed)
      have erl2 := smp _ _ erl
      have ep2 : (upd H' p (.tup [.int (i : Nat), .ref a])) p = _ := upd_same
      walk_at "rds"
      refine k_di2i (.inl ed2) ?_
      rw [valV_nu, hn]
      walk_at "rds"
      refine k_ifT ?_
      walk_at "rds"
      refine k_bmL erl2 ?_
      walk_at "rds"
      refine k_dg2i (.inl ed2) (by rw [valV_nu, hn]; rfl) ?_
      walk_at "rds"
      intro r fr
      have nr : rl ≠ r := ne_of_none erl2 fr
      walk_at "rds"
      refine k_append (xs := rs.map V.ref) ((upd_ne nr).trans erl2) (by rw [List.length_map]; exact sz8 (by omega)) ?_
      walk_at "rds"
      have smr := smp.trans (same_new (o := .tup [.ref a, .str "lost", .int (n : Nat)]) fr)
      have erl3 := smr _ _ erl
      have smA : ∀ b o, H b = some o → (upd (upd (upd H' p (.tup [.int (i : Nat), .ref a])) r (.tup [.ref a, .str "lost", .int (n : Nat)])) rl (.lst (rs.map V.ref ++ [.ref r]))) b = some o := fun b o hb => (upd_ne (ne_of_none hb frl)).trans (smr _ _ (sm _ _ hb))
      have tupA : ∀ b xs, (upd (upd H' p (.tup [.int (i : Nat), .ref a])) r (.tup [.ref a, .str "lost", .int (n : Nat)])) b = some (.tup xs) → (upd (upd (upd H' p (.tup [.int (i : Nat), .ref a])) r (.tup [.ref a, .str "lost", .int (n : Nat)])) rl (.lst (rs.map V.ref ++ [.ref r]))) b = some (.tup xs) := fun b xs z => (upd_ne (fun (y : b = rl) => by rw [y, erl3] at z; cases z)).trans z
      have qr : qs.length = rs.length := (Paired.length pq).symm
      refine ⟨⟨_, _, rfl⟩, smA, rs ++ [r], qs ++ [(s, n)], by rw [upd_same, List.map_append]; rfl, Paired.snoc (Paired.mapP pq fun b q z => ?_) ⟨a, tupA r _ upd_same, sta.mono fun b xs z => smA _ _ z⟩, by rw [List.map_append, qm, List.take_add_one, hs]; rfl, by rw [List.length_append, rl']; rfl, fun j q hq => ?_⟩
      · obtain ⟨c, ec, sc⟩ := z
        exact ⟨c, tupA b _ (smr _ _ ec), sc.mono fun b xs z => tupA b _ (smr _ _ z)⟩
      · by_cases hj : j < qs.length
        · rw [List.getElem?_append_left hj] at hq
          exact hnu j q hq
        · have hl := (List.getElem?_eq_some_iff.mp hq).1
          rw [List.length_append, List.length_singleton] at hl
          have hj2 : j = qs.length := by omega
          subst hj2
          rw [List.getElem?_append_right (Nat.le_refl _), Nat.sub_self] at hq
          obtain rfl := Option.some.inj (show some (s, n) = some q from hq)
          rw [qr, rl']
          exact hn
    · obtain ⟨⟨o4, o5, rfl⟩, sm, rs, qs, erl, pq, qm, rl', hnu⟩ := h
      walk_at "rds"
      rw [List.length_map, al, List.take_length] at qm
      exact q rl rs qs H' sm erl pq qm hnu
end
end Wh

/-! ## S7f -/
set_option Elab.async false
set_option linter.all false
set_option maxRecDepth 100000
set_option maxHeartbeats 4000000


namespace Wh
open PySem PySem.Spec PyProof.Rows L2
section
variable {P : Program} {wo : World} {K : PySem.W.Frag} {mg : Str → Option Value} {base : Heap}
/-! ### keep -/
def spKeep (K : PySem.W.Frag) : Sp := fun vs H Q _ => ∃ G p S N l, ∃ ns : List Str, ∃ (D : Sta) (C : List AS), vs = [.ref p, .ref l, .int 120] ∧ StO K G H p S N ∧ N ≤ 1000 ∧ S.ds = [] ∧ 0 ≤ S.mo ∧ H l = some (.lst (ns.map V.str)) ∧ ns.length ≤ 8 ∧ (∀ x ∈ ns, NameOk x) ∧ (∀ x ∈ ns, x ∈ S.bl.map (·.t.nm)) ∧ Rp D (S.bl.map (·.t)) ∧ (∀ t ∈ S.bl.map (·.t), NameOk t.nm) ∧
  stL (S.bl.map (·.t)) ∈ C ∧ C.length ≤ 60 ∧ (∀ s ∈ C, ∀ q ∈ succS D S.hold S.pres ns s, q.2 ∈ C) ∧ (∀ s ∈ C, ∃ n, Rk (succS D S.hold S.pres ns) s n) ∧ (∀ s ∈ C, s.length ≤ 8) ∧
  ∀ (r rl : Addr) (rs : List Addr) (qs : List (AS × Nat)) H', Same H H' → H' r = some (.tup [.str "lost", .ref rl]) → H' rl = some (.lst (rs.map V.ref)) → Paired (PapAt H') rs qs → (qs.map (·.1)).Nodup → stL (S.bl.map (·.t)) ∈ qs.map (·.1) → (∀ q ∈ qs, Rk (succS D S.hold S.pres ns) q.1 q.2) → Q (.ref r) H'
theorem ways_len {D : Sta} {rooms stirs : List Int} {ns : List Str} {s : AS} : (succS D rooms stirs ns s).length ≤ s.length + 1 := by
  unfold succS ways
  refine Nat.le_trans (List.length_filterMap_le _ _) ?_
  unfold movL
  rw [List.length_cons, List.length_map]
  have h3 := List.length_filter_le (fun n => ((look (s.map (mkD D)) n).bind waneT).isSome) (sortS ((s.map (mkD D)).map (·.nm)))
  rw [sortS_length, List.length_map, List.length_map] at h3
  omega
theorem ok_keep (T : Tx K mg) : FnOk P wo K mg base CX0 10 (He.ga K "keep") (fdA K (He.ga K "keep")) ["store", "names", "most"] (spKeep K) := by
  refine okD (F_keep T) sc_keep (fun vs H Q E h => ?_) (fun cdv A outer s H vs Q E hr h => ?_)
  · obtain ⟨G, p, S, N, l, ns, D, C, rfl, _⟩ := h
    rfl
  · obtain ⟨G, p, S, N, l, ns, D, C, rfl, st, nb, hds, m0, el, l8, nok, nin, rp, tok, sC, c60, clos, rkC, c8, q⟩ := h
    refine ⟨_, (pss_cons (ps_expr (pe_call (ok_need_asked (P := P) (wo := wo) (K := K) T) (hr.mono (by decide)) rfl (g_need_asked T) (F_need_asked T).kp (b_need_asked T) .nil pass0 (pa_cons (pv 0) (pa_cons (pv 1) (pa_cons (pv 2) pa_nil)))))
 (pss_cons (ps_expr (pe_call (ok_need_game (P := P) (wo := wo) (K := K) T) (hr.mono (by decide)) rfl (g_need_game T) (F_need_game T).kp (b_need_game T) .nil pass0 (pa_cons (pv 0) (pa_cons (pv 1) pa_nil))))
 (pss_cons (ps_asg (pe_call (ok_opened (P := P) (wo := wo) (K := K) T) (hr.mono (by decide)) rfl (g_opened T) (F_opened T).kp (b_opened T) .nil pass0 (pa_cons (pv 0) (pa_cons (pv 1) (pa_cons (pv 2) pa_nil)))) (pg_tupK (K := K) (n := 2) rfl (pgs_cons (pg_name (i := 3) sc_keep.nd rfl (Or.inl rfl)) (pgs_cons (pg_name (i := 4) sc_keep.nd rfl (Or.inl rfl)) pgs_nil))))
 (pss_cons (ps_set (i := 5) sc_keep.nd rfl (Or.inr rfl) (pe_call (ok_lost_within_turns (P := P) (wo := wo) (K := K) T) (hr.mono (by decide)) rfl (g_lost_within_turns T) (F_lost_within_turns T).kp (b_lost_within_turns T) .nil pass0 (pa_cons (pv 4) pa_nil)))
 (pss_cons (ps_if (pt_cmp (pc_din (hu_of hr) pe_int (pv 5))) (pss_one (ps_ret (pe_tup (pa_cons pe_str (pa_cons (pe_call (ok_paper_of (P := P) (wo := wo) (K := K) T) (hr.mono (by decide)) rfl (g_paper_of T) (F_paper_of T).kp (b_paper_of T) .nil pass0 (pa_cons (pv 3) (pa_cons (pv 5) (pa_cons pe_dnewK pa_nil)))) pa_nil))))) pss_nil)
 pss_never))))), ?_⟩
    try dsimp only [cxK, cxP, cxW]
    walk_at "rds"
    refine ⟨G, p, S, N, l, ns, rfl, st, el, l8, nok, fun H1 sm1 => ?_⟩
    have st1 := st.same sm1
    have el1 := sm1 _ _ el
    walk_at "rds"
    refine ⟨G, p, S, N, l, ns, rfl, st1, hds, el1, nin, fun H2 sm2 => ?_⟩
    have st2 := st1.same sm2
    have el2 := sm2 _ _ el1
    walk_at "rds"
    refine ⟨G, p, S, N, l, ns, D, C, rfl, st2, nb, hds, m0, el2, l8, rp, tok, sC, c60, clos, fun r sl wl as ss W H3 sm3 er esl pss hw g ssC => ?_⟩
    walk_at "rds"
    have al : as.length = ss.length := Paired.length pss
    have rowl : ∀ r ∈ W, r.length ≤ 9 ∧ ∀ e ∈ r, e.2 < W.length := fun r hr => by
      obtain ⟨i, hi, rfl⟩ := List.getElem_of_mem hr
      have hs : ss[i]? = some (ss[i]'(by rw [← g.len]; exact hi)) := List.getElem?_eq_getElem _
      have hrow := g.row i _ _ hs (List.getElem?_eq_getElem hi)
      refine ⟨?_, fun e he => ?_⟩
      · rw [Paired.length hrow]
        refine Nat.le_trans ways_len ?_
        have := c8 _ (ssC _ (List.mem_of_getElem? hs))
        omega
      · obtain ⟨q, _, eo⟩ := Paired.memL hrow e he
        rw [g.len]
        exact (List.getElem?_eq_some_iff.mp eo.2).1
    refine ⟨wl, W, rfl, hw, by rw [g.len]; exact g.l60, rowl, fun d nu H4 sm4 ed nok' nal => ?_⟩
    have allN : ∀ j, j < as.length → (numAt nu j).isSome := fun j hj => by
      rw [al] at hj
      obtain ⟨n, hn⟩ := rkC _ (ssC _ (List.getElem_mem hj))
      exact rk_num g nal hn j (List.getElem?_eq_getElem hj)
    have h0 : 0 < as.length := by
      rw [al]
      exact (List.getElem?_eq_some_iff.mp g.s0).1
    walk_at "rds"
    refine k_di2i (.inl ed) ?_
    obtain ⟨n0, hn0⟩ := Option.isSome_iff_exists.mp (allN 0 h0)
    rw [show (0 : Int) = ((0 : Nat) : Int) from rfl, valV_nu, hn0]
    walk_at "rds"
    refine k_ifT ?_
    walk_at "rds"
    intro e fe
    have sme := same_new (o := .dK []) fe
    walk_at "rds"
    refine ⟨sl, d, e, as, ss, nu, rfl, sme _ _ (sm4 _ _ esl), Paired.mapP pss fun a s z => (z.mono fun a xs q => sm4 _ _ q).mono fun a xs q => sme _ _ q, by rw [al]; exact g.l60, sme _ _ ed, allN, fun rl rs qs H5 sm5 erl pq qm hnu => ?_⟩
    walk_at "rds"
    intro rr frr
    have smr := same_new (o := .tup [.str "lost", .ref rl]) frr
    have ql : ∀ (j : Nat) (q0 : AS × Nat), qs[j]? = some q0 → ss[j]? = some q0.1 := fun j q0 hq => by
      rw [← qm, List.getElem?_map, hq]
      rfl
    have mem : ∀ {x m : Nat}, numAt nu x = some m → (x, m) ∈ nu := fun {x m} h => by
      unfold numAt at h
      cases e : nu.find? fun e => decide (e.1 = x) with
      | none => rw [e] at h; cases h
      | some y =>
        rw [e] at h
        have h1 : y.1 = x := by have := List.find?_some e; simpa using this
        have h2 := List.mem_of_find?_eq_some e
        have h3 : y.2 = m := Option.some.inj h
        rw [← h3, ← h1]
        exact h2
    refine q rr rl rs qs _ ((((sm1.trans sm2).trans sm3).trans sm4).trans ((sme.trans sm5).trans smr)) upd_same (smr _ _ erl) (Paired.mapP pq fun a s z => z.same smr) (by rw [qm]; exact g.nd) (by rw [qm]; exact List.mem_of_getElem? g.s0) fun q0 hq => ?_
    obtain ⟨j, hj, e0⟩ := List.getElem_of_mem hq
    have hj2 : qs[j]? = some q0 := by rw [List.getElem?_eq_getElem hj, e0]
    exact num_rk g nok' q0.2 j q0.1 (mem (hnu j q0 hj2)) (ql j q0 hj2)
end
end Wh

/-! ## L1 -/
set_option Elab.async false
set_option linter.all false
set_option maxRecDepth 100000
set_option maxHeartbeats 4000000


namespace Wh
open PySem PySem.Spec PyProof.Rows L2
section
variable {P : Program} {wo : World} {K : PySem.W.Frag} {mg : Str → Option Value} {base : Heap}
/-! ### the law's bag -/
/-- the bag at b: what it holds is of no matter, but it stays a bag -/
def BagAt (H : Hp) (b c : Addr) : Prop := ∃ (x0 x1 x2 : Int) (cells : List Int), H b = some (.lst [.int x0, .int x1, .int x2, .ref c]) ∧ H c = some (.lst (cells.map V.int)) ∧ b ≠ c ∧ 0 ≤ x0 ∧ 0 ≤ x1 ∧ x1 < 2147483647 ∧ 0 ≤ x2 ∧ (∀ n ∈ cells, 0 ≤ n) ∧ cells.length ≤ 63
/-- two heaps alike but for the bag -/
def ButBag (b : Addr) (H H' : Hp) : Prop := ∀ a o, H a = some o → a ≠ b → H' a = some o
theorem ButBag.refl (b : Addr) (H : Hp) : ButBag b H H := fun _ _ h _ => h
theorem ButBag.trans {b : Addr} {H H1 H2 : Hp} (h : ButBag b H H1) (k : ButBag b H1 H2) : ButBag b H H2 := fun a o e n => k a o (h a o e n) n
theorem ButBag.same {b : Addr} {H H1 : Hp} (h : Same H H1) : ButBag b H H1 := fun a o e _ => h a o e
def spTake : Sp := fun vs H Q _ => ∃ b c many, vs = [.ref b, .int many] ∧ BagAt H b c ∧ 1 ≤ many ∧ many ≤ 1000000 ∧ ∀ v H', 0 ≤ v → v < many → BagAt H' b c → ButBag b H H' → Q (.int v) H'
theorem ok_law_take (T : Tx K mg) : FnOk P wo K mg base CX0 1 (He.ga K "_law_take") (fdA K (He.ga K "_law_take")) ["_law_bag_here", "_law_many"] (spTake) := by
  refine okD (F_law_take T) sc_law_take (fun vs H Q E h => ?_) (fun cdv A outer s H vs Q E hr h => ?_)
  · obtain ⟨b, c, many, rfl, _⟩ := h
    rfl
  · obtain ⟨b, c, many, rfl, ⟨x0, x1, x2, cells, eb, ec, bc, h0, h1, h1b, h2, hcl, hl⟩, m1, m2, q⟩ := h
    refine ⟨_, (C8.pss_cut (ps_if (pt_cmpR op_eq (pe_ix (ix_listK (K := K)) (pv 0) pe_int (fun _ _ => rfl)) pe_int (nomark _)) (pss_cons (ps_set (i := 2) sc_law_take.nd rfl (Or.inl rfl) pe_int)
 (C8.pss_cut (ps_if (pt_cmpR op_lt (pe_ix (ix_listK (K := K)) (pv 0) pe_int (fun _ _ => rfl)) (pe_callB (call_len_seqK (K := K)) (by rfl) (z_len T) (by decide +kernel) (pa_cons (pe_ix (ix_listK (K := K)) (pv 0) pe_int (fun _ _ => rfl)) pa_nil)) (nomark _)) (pss_one (ps_set (i := 2) sc_law_take.nd rfl (Or.inl rfl) (pe_ix (ix_listK (K := K)) (pe_ix (ix_listK (K := K)) (pv 0) pe_int (fun _ _ => rfl)) (pe_ix (ix_listK (K := K)) (pv 0) pe_int (fun _ _ => rfl)) (fun _ _ => rfl)))) pss_nil)
 (pss_cons (ps_augS (pv 0) pe_int get_list pe_int ip_add set_list)
 (C8.pss_cut (ps_if (pt_cmpR op_ge (pv 2) pe_int (nomark _)) (pss_one (ps_asg (pv 2) (pg_sub (pv 0) pe_int set_list))) pss_nil)
 (pss_one (ps_asg (pe_op op_mod (pe_op op_add (pe_op op_add (pe_op op_mul (pe_ix (ix_listK (K := K)) (pv 0) pe_int (fun _ _ => rfl)) pe_int) (pe_op op_mod (pv 2) pe_int)) (pe_op op_mul pe_int (pe_ix (ix_listK (K := K)) (pv 0) pe_int (fun _ _ => rfl)))) pe_int) (pg_sub (pv 0) pe_int set_list))))))) pss_nil)
 (pss_cons (ps_if (pt_cmpR op_gt (pe_ix (ix_listK (K := K)) (pv 0) pe_int (fun _ _ => rfl)) pe_int (nomark _)) (pss_cons (ps_set (i := 3) sc_law_take.nd rfl (Or.inl rfl) (pe_op op_mod (pe_ix (ix_listK (K := K)) (pv 0) pe_int (fun _ _ => rfl)) (pv 1)))
 (pss_cons (ps_asg (pe_op op_fdiv (pe_ix (ix_listK (K := K)) (pv 0) pe_int (fun _ _ => rfl)) (pv 1)) (pg_sub (pv 0) pe_int set_list))
 (pss_one (ps_ret (pv 3))))) pss_nil)
 (pss_cons (ps_set (i := 4) sc_law_take.nd rfl (Or.inl rfl) (pe_op op_mod (pe_op op_mul (pe_op op_add (pe_ix (ix_listK (K := K)) (pv 0) pe_int (fun _ _ => rfl)) pe_int) pe_int) pe_int))
 (pss_cons (ps_set (i := 5) sc_law_take.nd rfl (Or.inl rfl) (pe_op op_mod (pe_op op_mul (pe_op op_mod (pe_op op_mul (pv 4) (pv 4)) pe_int) pe_int) pe_int))
 (pss_cons (ps_if (pt_cmpR op_gt (pv 1) pe_int (nomark _)) (pss_one (ps_ret (pe_op op_mod (pe_op op_add (pe_op op_mul (pv 5) pe_int) (pv 4)) (pv 1)))) pss_nil)
 (pss_one (ps_ret (pe_op op_mod (pe_op op_fdiv (pv 5) pe_int) (pv 1))))))))), ?_⟩
    try dsimp only [cxK, cxP, cxW]
    walk_at "rds"
    refine ⟨fun σ' H' => (∃ o2 o3 o4 o5, σ' = [some (.ref b), some (.int many), o2, o3, o4, o5]) ∧ BagAt H' b c ∧ ButBag b H H', ?_, ?_⟩
    · walk_at "rds"
      refine x_ixL (SqL.of eb) (atI_nat (Int.le_refl 0) rfl) ?_
      walk_at "rds"
      refine k_if (fun hc => ?_) (fun hc => ?_)
      · walk_at "rds"
        refine ⟨fun σ' H' => (∃ cell o3 o4 o5, σ' = [some (.ref b), some (.int many), some (.int cell), o3, o4, o5] ∧ 0 ≤ cell) ∧ H' = H, ?_, ?_⟩
        · walk_at "rds"
          refine x_ixL (SqL.of eb) (atI_nat (v := .int x2) (by decide) rfl) ?_
          walk_at "rds"
          refine x_ixL (SqL.of eb) (atI_nat (v := .ref c) (by decide) rfl) ?_
          walk_at "rds"
          refine x_lenL (SqL.of ec) ?_
          walk_at "rds"
          refine k_if (fun hd => ?_) (fun hd => ?_)
          · have hlt := of_decide_eq_true hd
            rw [List.length_map] at hlt
            walk_at "rds"
            refine x_ixL (SqL.of eb) (atI_nat (v := .ref c) (by decide) rfl) ?_
            walk_at "rds"
            refine x_ixL (SqL.of eb) (atI_nat (v := .int x2) (by decide) rfl) ?_
            have hx : cells[x2.toNat]? = some (cells[x2.toNat]'(by omega)) := List.getElem?_eq_getElem (by omega)
            refine x_ixL (SqL.of ec) (atI_nat h2 (by rw [List.getElem?_map, hx]; rfl)) ?_
            walk_at "rds"
            exact ⟨⟨_, _, _, _, rfl, hcl _ (List.getElem_mem (by omega))⟩, rfl⟩
          · walk_at "rds"
            exact ⟨⟨0, _, _, _, rfl, Int.le_refl 0⟩, rfl⟩
        · rintro σ' H' ⟨⟨cell, o3, o4, o5, rfl, c0⟩, rfl⟩
          walk_at "rds"
          refine k_as2 (SqL.of eb) (atI_nat (v := .int x2) (by decide) rfl) ?_
          walk_at "rds"
          refine k_as3 eb (j := 2) rfl ?_
          have eb1 : (upd H' b (.lst (([.int x0, .int x1, .int x2, .ref c] : List V).set 2 (.int (x2 + 1))))) b = some (.lst [.int x0, .int x1, .int (x2 + 1), .ref c]) := upd_same
          have bb1 : ButBag b H' (upd H' b (.lst (([.int x0, .int x1, .int x2, .ref c] : List V).set 2 (.int (x2 + 1))))) := fun a o e n => (upd_ne n).trans e
          have ec1 := (upd_ne (o := .lst (([.int x0, .int x1, .int x2, .ref c] : List V).set 2 (.int (x2 + 1)))) bc.symm).trans ec
          generalize upd H' b (.lst (([.int x0, .int x1, .int x2, .ref c] : List V).set 2 (.int (x2 + 1)))) = H1 at *
          walk_at "rds"
          refine ⟨fun σ' H2 => σ' = [some (.ref b), some (.int many), some (.int cell), o3, o4, o5] ∧ ButBag b H1 H2 ∧ ∃ y0, 0 ≤ y0 ∧ H2 b = some (.lst [.int y0, .int x1, .int (x2 + 1), .ref c]), ?_, ?_⟩
          · walk_at "rds"
            refine k_if (fun hd => ?_) (fun hd => ?_)
            · walk_at "rds"
              refine k_sub2 eb1 (j := 0) rfl ?_
              exact ⟨rfl, fun a o e n => (upd_ne n).trans e, cell, c0, upd_same⟩
            · walk_at "rds"
              exact ⟨rfl, ButBag.refl _ _, x0, h0, eb1⟩
          · rintro σ' H2 ⟨rfl, bb2, y0, hy0, eb2⟩
            walk_at "rds"
            refine x_ixL (SqL.of eb2) (atI_nat (v := .int x1) (by decide) rfl) ?_
            walk_at "rds"
            refine x_I ?_ ?_
            · exact .inr ⟨by decide, by decide⟩
            walk_at "rds"
            refine x_I (by show (0 : Int) < 2147483647; decide) ?_
            walk_at "rds"
            refine x_ixL (SqL.of eb2) (atI_nat (v := .int (x2 + 1)) (by decide) rfl) ?_
            walk_at "rds"
            refine x_I ?_ ?_
            · exact .inl ⟨by decide, by decide⟩
            walk_at "rds"
            refine x_I (by show (0 : Int) < 2147483647; decide) ?_
            walk_at "rds"
            refine k_sub2 eb2 (j := 1) rfl ?_
            have ec2 := bb2 _ _ ec1 bc.symm
            refine ⟨⟨_, _, _, _, rfl⟩, ⟨y0, _, x2 + 1, cells, upd_same, (upd_ne bc.symm).trans ec2, bc, hy0, Int.emod_nonneg _ (by decide), Int.emod_lt_of_pos _ (by decide), by omega, hcl, hl⟩, (bb1.trans bb2).trans fun a o e n => (upd_ne n).trans e⟩
      · walk_at "rds"
        exact ⟨⟨_, _, _, _, rfl⟩, ⟨x0, x1, x2, cells, eb, ec, bc, h0, h1, h1b, h2, hcl, hl⟩, ButBag.refl _ _⟩
    · rintro σ' H' ⟨⟨o2, o3, o4, o5, rfl⟩, ⟨x0, x1, x2, cells, eb, ec, bc, h0, h1, h1b, h2, hcl, hl⟩, bb⟩
      walk_at "rds"
      refine x_ixL (SqL.of eb) (atI_nat (v := .int x0) (by decide) rfl) ?_
      walk_at "rds"
      refine k_if (fun hd => ?_) (fun hd => ?_)
      · walk_at "rds"
        refine x_ixL (SqL.of eb) (atI_nat (v := .int x0) (by decide) rfl) ?_
        walk_at "rds"
        refine x_I (by show (0 : Int) < many; omega) ?_
        walk_at "rds"
        refine x_ixL (SqL.of eb) (atI_nat (v := .int x0) (by decide) rfl) ?_
        walk_at "rds"
        refine x_I ?_ ?_
        · exact ⟨by omega, by omega⟩
        walk_at "rds"
        refine k_sub2 eb (j := 0) rfl ?_
        walk_at "rds"
        exact q _ _ (Int.emod_nonneg _ (by omega)) (Int.emod_lt_of_pos _ (by omega)) ⟨_, x1, x2, cells, upd_same, (upd_ne bc.symm).trans ec, bc, Int.ediv_nonneg h0 (by omega), h1, h1b, h2, hcl, hl⟩ (bb.trans fun a o e n => (upd_ne n).trans e)
      · walk_at "rds"
        refine x_ixL (SqL.of eb) (atI_nat (v := .int x1) (by decide) rfl) ?_
        walk_at "rds"
        refine x_I ?_ ?_
        · exact .inr ⟨by decide, by decide⟩
        walk_at "rds"
        refine x_I (by show (0 : Int) < 1000000007; decide) ?_
        walk_at "rds"
        have f0 := Int.emod_nonneg ((x1 + 1) * 39373) (show (1000000007 : Int) ≠ 0 by decide)
        have f1 := Int.emod_lt_of_pos ((x1 + 1) * 39373) (show (0 : Int) < 1000000007 by decide)
        generalize (x1 + 1) * 39373 % 1000000007 = first at *
        refine x_I ?_ ?_
        · exact .inl ⟨by omega, by omega⟩
        walk_at "rds"
        refine x_I (by show (0 : Int) < 998244353; decide) ?_
        walk_at "rds"
        refine x_I ?_ ?_
        · exact .inr ⟨by decide, by decide⟩
        walk_at "rds"
        refine x_I (by show (0 : Int) < 998244353; decide) ?_
        walk_at "rds"
        refine k_if (fun he => absurd (of_decide_eq_true he) (by omega)) (fun _ => ?_)
        walk_at "rds"
        refine x_I ?_ ?_
        · exact ⟨by decide, by decide⟩
        walk_at "rds"
        refine x_I (by show (0 : Int) < many; omega) ?_
        exact q _ _ (Int.emod_nonneg _ (by omega)) (Int.emod_lt_of_pos _ (by omega)) ⟨x0, x1, x2, cells, eb, ec, bc, h0, h1, h1b, h2, hcl, hl⟩ bb
end
end Wh

/-! ## L2t -/
set_option Elab.async false
set_option linter.all false
set_option maxRecDepth 100000
set_option maxHeartbeats 4000000


namespace Wh
open PySem PySem.Spec PyProof.Rows L2
section
variable {P : Program} {wo : World} {K : PySem.W.Frag} {mg : Str → Option Value} {base : Heap}
/-! ### the law's plans and things -/
def PlanAt (H : Hp) (a : Addr) (w : Wn) : Prop := ∃ hl tl : Addr, H a = some (.tup [.ref hl, .ref tl, .int w.cap, .int w.lift, .bl w.anew]) ∧ StepsAt H hl w.hd ∧ StepsAt H tl w.tl
theorem PlanAt.same {H H' : Hp} {a : Addr} {w : Wn} (h : PlanAt H a w) (k : Same H H') : PlanAt H' a w := by
  obtain ⟨hl, tl, e, s1, s2⟩ := h
  exact ⟨hl, tl, k _ _ e, s1.same k, s2.same k⟩
def spLPhase : Sp := fun vs H Q _ => ∃ a w si, vs = [.ref a, .int si] ∧ PlanAt H a w ∧ w.Ok ∧ 0 ≤ si ∧ Q (.int (w.phase si)) H
theorem ok_law_phase (T : Tx K mg) : FnOk P wo K mg base CX0 1 (He.ga K "_law_phase") (fdA K (He.ga K "_law_phase")) ["_law_plan_here", "_law_since"] (spLPhase) := by
  refine okD (F_law_phase T) sc_law_phase (fun vs H Q E h => ?_) (fun cdv A outer s H vs Q E hr h => ?_)
  · obtain ⟨a, w, si, rfl, _⟩ := h
    rfl
  · obtain ⟨a, w, si, rfl, ⟨hl, tl, e, ⟨ha, e1, p1⟩, ⟨ta, e2, p2⟩⟩, ok, h0, q⟩ := h
    have l1 : ha.length = w.hd.length := Paired.length p1
    have l2 : ta.length = w.tl.length := Paired.length p2
    have t0 := ok.tl0
    refine ⟨_, (pss_cons (ps_if (pt_cmpR op_lt (pv 1) (pe_op op_add (pe_callB (call_len_seqK (K := K)) (by rfl) (z_len T) (by decide +kernel) (pa_cons (pe_ix (ix_tupK (K := K)) (pv 0) pe_int (fun _ _ => rfl)) pa_nil)) (pe_callB (call_len_seqK (K := K)) (by rfl) (z_len T) (by decide +kernel) (pa_cons (pe_ix (ix_tupK (K := K)) (pv 0) pe_int (fun _ _ => rfl)) pa_nil))) (nomark _)) (pss_one (ps_ret (pv 1))) pss_nil)
 (pss_one (ps_ret (pe_op op_add (pe_callB (call_len_seqK (K := K)) (by rfl) (z_len T) (by decide +kernel) (pa_cons (pe_ix (ix_tupK (K := K)) (pv 0) pe_int (fun _ _ => rfl)) pa_nil)) (pe_op op_mod (pe_op op_sub (pv 1) (pe_callB (call_len_seqK (K := K)) (by rfl) (z_len T) (by decide +kernel) (pa_cons (pe_ix (ix_tupK (K := K)) (pv 0) pe_int (fun _ _ => rfl)) pa_nil))) (pe_callB (call_len_seqK (K := K)) (by rfl) (z_len T) (by decide +kernel) (pa_cons (pe_ix (ix_tupK (K := K)) (pv 0) pe_int (fun _ _ => rfl)) pa_nil))))))), ?_⟩
    try dsimp only [cxK, cxP, cxW]
    walk_at "rds"
    refine x_ixT (SqT.of e) (atI_nat (v := .ref hl) (by decide) rfl) ?_
    walk_at "rds"
    refine x_lenL (SqL.of e1) ?_
    walk_at "rds"
    refine x_ixT (SqT.of e) (atI_nat (v := .ref tl) (by decide) rfl) ?_
    walk_at "rds"
    refine x_lenL (SqL.of e2) ?_
    walk_at "rds"
    rw [List.length_map, l1, List.length_map, l2]
    refine k_if (fun hc => ?_) (fun hc => ?_)
    · have hlt := of_decide_eq_true hc
      walk_at "rds"
      have : w.phase si = si := by unfold Wn.phase; rw [if_pos hlt]
      rw [this] at q
      exact q
    · have hge := of_decide_eq_false hc
      walk_at "rds"
      refine x_ixT (SqT.of e) (atI_nat (v := .ref hl) (by decide) rfl) ?_
      walk_at "rds"
      refine x_lenL (SqL.of e1) ?_
      walk_at "rds"
      refine x_ixT (SqT.of e) (atI_nat (v := .ref hl) (by decide) rfl) ?_
      walk_at "rds"
      refine x_lenL (SqL.of e1) ?_
      walk_at "rds"
      refine x_ixT (SqT.of e) (atI_nat (v := .ref tl) (by decide) rfl) ?_
      walk_at "rds"
      refine x_lenL (SqL.of e2) ?_
      walk_at "rds"
      rw [List.length_map, l1, List.length_map, l2]
      refine x_I (by show (0 : Int) < _; omega) ?_
      walk_at "rds"
      have : w.phase si = w.hd.length + (si - w.hd.length) % w.tl.length := by unfold Wn.phase; rw [if_neg hge]
      rw [this] at q
      exact q
theorem coming_at {w : Wn} (ok : w.Ok) {si : Int} (h0 : 0 ≤ si) : (w.hd ++ w.tl)[(w.phase si).toNat]? = some (w.coming si) := by
  have t0 := ok.tpos
  have m0 : 0 ≤ (si - (w.hd.length : Int)) % (w.tl.length : Int) := Int.emod_nonneg _ (by omega)
  have m1 : (si - (w.hd.length : Int)) % (w.tl.length : Int) < (w.tl.length : Int) := Int.emod_lt_of_pos _ (by omega)
  unfold Wn.coming
  by_cases h : si < (w.hd.length : Int)
  · have : w.phase si = si := by unfold Wn.phase; rw [if_pos (by omega)]
    rw [if_pos h, this, List.getElem?_append_left (by omega), List.getD_eq_getElem?_getD, List.getElem?_eq_getElem (by omega)]
    rfl
  · have e : w.phase si = w.hd.length + (si - w.hd.length) % w.tl.length := by
      unfold Wn.phase
      by_cases k : si < w.hd.length + w.tl.length
      · rw [if_pos k, Int.emod_eq_of_lt (by omega) (by omega)]
        omega
      · rw [if_neg k]
    rw [if_neg h, e, List.getElem?_append_right (by omega), List.getD_eq_getElem?_getD]
    have e2 : ((w.hd.length : Int) + (si - w.hd.length) % w.tl.length).toNat - w.hd.length = ((si - (w.hd.length : Int)) % (w.tl.length : Int)).toNat := by omega
    rw [e2, List.getElem?_eq_getElem (by omega)]
    rfl
def spLWaned : Sp := fun vs H Q _ => ∃ a w fo si, vs = [.ref a, .int fo, .int si] ∧ PlanAt H a w ∧ w.Ok ∧ 0 ≤ si ∧ ∀ H', Same H H' → Q (.int (max 0 (fo / (w.coming si).1 - (w.coming si).2))) H'
theorem ok_law_waned (T : Tx K mg) : FnOk P wo K mg base CX0 2 (He.ga K "_law_waned") (fdA K (He.ga K "_law_waned")) ["_law_plan_here", "_law_strength", "_law_since"] (spLWaned) := by
  refine okD (F_law_waned T) sc_law_waned (fun vs H Q E h => ?_) (fun cdv A outer s H vs Q E hr h => ?_)
  · obtain ⟨a, w, fo, si, rfl, _⟩ := h
    rfl
  · obtain ⟨a, w, fo, si, rfl, pa, ok, h0, q⟩ := h
    obtain ⟨hl, tl, e, ⟨ha, e1, p1⟩, ⟨ta, e2, p2⟩⟩ := id pa
    have l1 : ha.length = w.hd.length := Paired.length p1
    have l2 : ta.length = w.tl.length := Paired.length p2
    have t0 := ok.tl0
    have hl24 := ok.hl
    obtain ⟨c1, c2, c3, c4⟩ := coming_ok ok h0
    refine ⟨_, (pss_cons (ps_asg (pe_ix (ix_listK (K := K)) (pe_op op_cat (pe_ix (ix_tupK (K := K)) (pv 0) pe_int (fun _ _ => rfl)) (pe_ix (ix_tupK (K := K)) (pv 0) pe_int (fun _ _ => rfl))) (pe_call (ok_law_phase (P := P) (wo := wo) (K := K) T) (hr.mono (by decide)) rfl (g_law_phase T) (F_law_phase T).kp (b_law_phase T) .nil pass0 (pa_cons (pv 0) (pa_cons (pv 2) pa_nil))) (fun _ _ => rfl)) (pg_tupK (K := K) (n := 2) rfl (pgs_cons (pg_name (i := 3) sc_law_waned.nd rfl (Or.inl rfl)) (pgs_cons (pg_name (i := 4) sc_law_waned.nd rfl (Or.inl rfl)) pgs_nil))))
 (pss_one (ps_ret (pe_callB (call_max2 rfl) (by rfl) (z_max T) (by decide +kernel) (pa_cons pe_int (pa_cons (pe_op op_sub (pe_op op_fdiv (pv 1) (pv 3)) (pv 4)) pa_nil)))))), ?_⟩
    try dsimp only [cxK, cxP, cxW]
    walk_at "rds"
    refine x_ixT (SqT.of e) (atI_nat (v := .ref hl) (by decide) rfl) ?_
    walk_at "rds"
    refine x_ixT (SqT.of e) (atI_nat (v := .ref tl) (by decide) rfl) ?_
    walk_at "rds"
    refine ⟨hl, tl, _, _, rfl, rfl, e1, e2, by rw [List.length_map, List.length_map]; exact sz16 (by omega), fun p fp => ?_⟩
    walk_at "rds"
    have sm := same_new (o := .lst (ha.map V.ref ++ ta.map V.ref)) fp
    refine ⟨a, w, si, rfl, pa.same sm, ok, h0, ?_⟩
    walk_at "rds"
    have hpair : Paired (fun b (z : Int × Int) => H b = some (.tup [.int z.1, .int z.2])) (ha ++ ta) (w.hd ++ w.tl) := by
      have key : ∀ {xs : List Addr} {ys : List (Int × Int)} {xs2 : List Addr} {ys2 : List (Int × Int)}, Paired (fun b (z : Int × Int) => H b = some (.tup [.int z.1, .int z.2])) xs ys → Paired (fun b (z : Int × Int) => H b = some (.tup [.int z.1, .int z.2])) xs2 ys2 → Paired (fun b (z : Int × Int) => H b = some (.tup [.int z.1, .int z.2])) (xs ++ xs2) (ys ++ ys2) := fun h k => by
        induction h with
        | nil => exact k
        | cons r t ih => exact .cons r ih
      exact key p1 p2
    obtain ⟨b, hb, eb⟩ := Paired.getR hpair _ _ (coming_at ok h0)
    have eb2 := sm _ _ eb
    refine x_ixL (SqL.of (xs := (ha ++ ta).map V.ref) (by rw [upd_same, List.map_append])) (atI_nat (phase_nn ok h0) (by rw [List.getElem?_map, hb]; rfl)) ?_
    walk_at "rds"
    refine x_I ?_ ?_
    · exact ⟨by omega, by omega⟩
    walk_at "rds"
    refine ⟨_, _, rfl, ?_⟩
    rw [show (if (fo / (w.coming si).1 - (w.coming si).2) > 0 then (fo / (w.coming si).1 - (w.coming si).2) else 0) = max 0 (fo / (w.coming si).1 - (w.coming si).2) from max_if]
    exact q _ sm
end
end Wh

/-! ## L3 -/
set_option Elab.async false
set_option linter.all false
set_option maxRecDepth 100000
set_option maxHeartbeats 4000000


namespace Wh
open PySem PySem.Spec PyProof.Rows L2
section
variable {P : Program} {wo : World} {K : PySem.W.Frag} {mg : Str → Option Value} {base : Heap}
def spMade (K : PySem.W.Frag) : Sp := fun vs H Q _ => ∃ a w, vs = [.ref a] ∧ PlanAt H a w ∧ w.Ok ∧ ∀ x H', Same H H' → WaneAt K (fun a => H a = none) H' x w → Q (.ref x) H'
theorem ok_law_made (T : Tx K mg) : FnOk P wo K mg base CX0 8 (He.ga K "_law_made") (fdA K (He.ga K "_law_made")) ["_law_plan_here"] (spMade K) := by
  refine okD (F_law_made T) sc_law_made (fun vs H Q E h => ?_) (fun cdv A outer s H vs Q E hr h => ?_)
  · obtain ⟨a, w, rfl, _⟩ := h
    rfl
  · obtain ⟨a, w, rfl, pa, ok, q⟩ := h
    obtain ⟨hl, tl, e, ⟨ha, e1, p1⟩, ⟨ta, e2, p2⟩⟩ := id pa
    obtain ⟨mv, kb⟩ := kb_Wane T
    refine ⟨_, (pss_one (ps_ret (pe_makeK (k_Wane (K := K) T) (ok_Wane_init (P := P) (wo := wo) (K := K) T) (hr.mono (by decide)) rfl (g_Wane (K := K) T) (kb) pass0 (pa_cons (pe_callTy call_list_of (by rfl) (z_list T) (by decide +kernel) (pa_cons (pe_ix (ix_tupK (K := K)) (pv 0) pe_int (fun _ _ => rfl)) pa_nil)) (pa_cons (pe_callTy call_list_of (by rfl) (z_list T) (by decide +kernel) (pa_cons (pe_ix (ix_tupK (K := K)) (pv 0) pe_int (fun _ _ => rfl)) pa_nil)) pa_nil)) (pk_cons (pe_ix (ix_tupK (K := K)) (pv 0) pe_int (fun _ _ => rfl)) (pk_cons (pe_ix (ix_tupK (K := K)) (pv 0) pe_int (fun _ _ => rfl)) (pk_cons (pe_ix (ix_tupK (K := K)) (pv 0) pe_int (fun _ _ => rfl)) pk_nil)))))), ?_⟩
    try dsimp only [cxK, cxP, cxW]
    walk_at "rds"
    refine x_ixT (SqT.of e) (atI_nat (v := .ref hl) (by decide) rfl) ?_
    walk_at "rds"
    refine ⟨hl, _, rfl, .inl (SqL.of e1), fun l1 f1 => ?_⟩
    have sm1 := same_new (o := .lst (ha.map V.ref)) f1
    walk_at "rds"
    refine x_ixT (SqT.of (sm1 _ _ e)) (atI_nat (v := .ref tl) (by decide) rfl) ?_
    walk_at "rds"
    refine ⟨tl, _, rfl, .inl (SqL.of (sm1 _ _ e2)), fun l2 f2 => ?_⟩
    have sm2 := sm1.trans (same_new (o := .lst (ta.map V.ref)) f2)
    have n12 : l1 ≠ l2 := ne_of_none upd_same f2
    have s1 : StepsAt (upd (upd H l1 (.lst (ha.map V.ref))) l2 (.lst (ta.map V.ref))) l1 w.hd := ⟨ha, (upd_ne n12).trans upd_same, Paired.mapP p1 fun b z y => sm2 _ _ y⟩
    have s2 : StepsAt (upd (upd H l1 (.lst (ha.map V.ref))) l2 (.lst (ta.map V.ref))) l2 w.tl := ⟨ta, upd_same, Paired.mapP p2 fun b z y => sm2 _ _ y⟩
    have e3 := sm2 _ _ e
    generalize upd (upd H l1 (.lst (ha.map V.ref))) l2 (.lst (ta.map V.ref)) = H2 at *
    walk_at "rds"
    refine x_ixT (SqT.of e3) (atI_nat (v := .int w.cap) (by decide) rfl) ?_
    walk_at "rds"
    refine x_ixT (SqT.of e3) (atI_nat (v := .int w.lift) (by decide) rfl) ?_
    walk_at "rds"
    refine x_ixT (SqT.of e3) (atI_nat (v := .bl w.anew) (by decide) rfl) ?_
    walk_at "rds"
    refine k_mkK2 rfl rfl fun x dx g1 g2 g3 => ?_
    have sm3 : Same H2 (upd (upd H2 dx (.own x)) x (.ins (He.ga K "Wane") dx [])) := fun b o hb => by
      rw [upd_ne (ne_of_none hb g1), upd_ne (ne_of_none hb g2)]
      exact hb
    refine ⟨x, dx, l1, l2, w, rfl, upd_same, s1.same sm3, s2.same sm3, ok, fun H' k' wa => ⟨rfl, ?_⟩⟩
    have s4 : Same H H' := fun b o hb => by
      have hb2 := sm2 _ _ hb
      have y1 : b ≠ x := ne_of_none hb2 g1
      exact k' b o (sm3 _ _ hb2) y1
    refine q x H' s4 (wa.mono fun c hc => ?_)
    rcases hc with rfl | hc
    · exact Same.free sm2 g1
    · exact Same.free (sm2.trans sm3) hc
/-! ### the law's things -/
structure LTh where
  t : T
  a : Addr
  pl : Addr
def thV (x : LTh) : List V := [.ref x.pl, .int x.t.sp, .int x.t.kin, .int x.t.fo, .int x.t.si]
def kvsT (ts : List LTh) : List (Key × V) := ts.map fun x => (Sum.inr x.t.nm, V.ref x.a)
structure ThAt (H : Hp) (d : Addr) (ts : List LTh) : Prop where
  d : H d = some (.dK (kvsT ts))
  th : ∀ x ∈ ts, H x.a = some (.tup (thV x)) ∧ PlanAt H x.pl x.t.wn ∧ x.t.Ok
  nn : (ts.map (·.t.nm)).Nodup
theorem ThAt.same {H H' : Hp} {d : Addr} {ts : List LTh} (h : ThAt H d ts) (k : Same H H') : ThAt H' d ts :=
  ⟨k _ _ h.d, fun x hx => ⟨k _ _ (h.th x hx).1, (h.th x hx).2.1.same k, (h.th x hx).2.2⟩, h.nn⟩
theorem valV_kvsT {ts : List LTh} (nn : (ts.map (·.t.nm)).Nodup) {x : LTh} (hx : x ∈ ts) : valV (kvsT ts) (Sum.inr x.t.nm) = some (.ref x.a) := by
  have := valV_kvsB (bl := ts.map fun x => ⟨x.t, x.a, x.pl⟩) (by rw [List.map_map]; exact nn) (b := ⟨x.t, x.a, x.pl⟩) (List.mem_map.mpr ⟨x, hx, rfl⟩)
  unfold kvsB at this
  rw [List.map_map] at this
  exact this
theorem keys_kvsT (ts : List LTh) : (kvsT ts).map (·.1) = (ts.map (·.t.nm)).map Sum.inr := by
  unfold kvsT
  rw [List.map_map, List.map_map]
  rfl
theorem look_ts {ts : List LTh} (nn : (ts.map (·.t.nm)).Nodup) {x : LTh} (hx : x ∈ ts) : look (ts.map (·.t)) x.t.nm = some x.t := by
  refine look_mem ?_ (List.mem_map.mpr ⟨x, hx, rfl⟩)
  unfold Nd
  rw [List.map_map]
  exact nn
/-- the state of the law's things -/
def spLState : Sp := fun vs H Q _ => ∃ d ts, vs = [.ref d] ∧ ThAt H d ts ∧ ts.length ≤ 8 ∧ ∀ a H', Same H H' → StAt H' a (stL (ts.map (·.t))) → Q (.ref a) H'
theorem ok_law_state (T : Tx K mg) : FnOk P wo K mg base CX0 2 (He.ga K "_law_state") (fdA K (He.ga K "_law_state")) ["_law_things"] (spLState) := by
  refine okD (F_law_state T) sc_law_state (fun vs H Q E h => ?_) (fun cdv A outer s H vs Q E hr h => ?_)
  · obtain ⟨d, ts, rfl, _⟩ := h
    rfl
  · obtain ⟨d, ts, rfl, th, l8, q⟩ := h
    refine ⟨_, (pss_cons (ps_set (i := 1) sc_law_state.nd rfl (Or.inl rfl) (pe_lst pa_nil))
 (pss_cons (ps_for PassesOwn.never rfl (pi_list (pe_callB (call_sortedD rfl) (by rfl) (z_sorted T) (by decide +kernel) (pa_cons (pv 0) pa_nil))) (pg_name (i := 2) sc_law_state.nd rfl (Or.inl rfl)) (pss_cons (ps_asg (pe_dget (hu_of hr) (pv 0) (pv 2) (fun _ _ => rfl)) (pg_tupK (K := K) (n := 5) rfl (pgs_cons (pg_name (i := 3) sc_law_state.nd rfl (Or.inl rfl)) (pgs_cons (pg_name (i := 4) sc_law_state.nd rfl (Or.inl rfl)) (pgs_cons (pg_name (i := 5) sc_law_state.nd rfl (Or.inl rfl)) (pgs_cons (pg_name (i := 6) sc_law_state.nd rfl (Or.inl rfl)) (pgs_cons (pg_name (i := 7) sc_law_state.nd rfl (Or.inl rfl)) pgs_nil)))))))
 (pss_one (ps_expr (pe_bm PySem.F.plainAttrs_list PySem.F.slot_list_append PySem.F.type_list_append mt_append (pv 1) (pa_cons (pe_tup (pa_cons (pv 2) (pa_cons (pv 4) (pa_cons (pv 6) (pa_cons (pe_call (ok_law_phase (P := P) (wo := wo) (K := K) T) (hr.mono (by decide)) rfl (g_law_phase T) (F_law_phase T).kp (b_law_phase T) .nil pass0 (pa_cons (pv 3) (pa_cons (pv 7) pa_nil))) pa_nil))))) pa_nil))))))
 (pss_one (ps_ret (pe_callTy call_tuple_of (by rfl) (z_tuple T) (by decide +kernel) (pa_cons (pv 1) pa_nil)))))), ?_⟩
    try dsimp only [cxK, cxP, cxW]
    walk_at "rds"
    intro ls f1
    have sm1 := same_new (o := .lst []) f1
    have th1 := th.same sm1
    walk_at "rds"
    refine ⟨d, kvsT ts, ts.map (·.t.nm), rfl, .inl th1.d, keys_kvsT _, by rw [List.length_map]; omega, fun ys p hperm hsort f2 => ?_⟩
    have hys := sorted_eq hperm hsort
    have hyl : ys.length = ts.length := by rw [hperm.length_eq, List.length_map]
    have sm2 := sm1.trans (same_new (o := .lst (ys.map V.str)) f2)
    obtain ⟨n3, f3⟩ := upd_none f2
    refine k_iL (SqL.of upd_same) ?_
    refine k_for (itx_l K p (ys.map V.str)) (fun i σ' H' => (∃ o2 o3 o4 o5 o6 o7, σ' = [some (.ref d), some (.ref ls), o2, o3, o4, o5, o6, o7]) ∧ Same H H' ∧ H' p = some (.lst (ys.map V.str)) ∧
      ∃ as : List Addr, H' ls = some (.lst (as.map V.ref)) ∧ as.length ≤ i ∧ Paired (fun b t => H' b = some (.tup (v4 t))) as ((ys.take i).filterMap fun n => (look (ts.map (·.t)) n).map row4)) ?_ (fun i σ' H' _ h => SqL.of h.2.2.1) (fun i x σ' H' hx h => ?_) (fun σ' H' h => ?_)
    · refine ⟨⟨_, _, _, _, _, _, rfl⟩, sm2, upd_same, [], ?_, by simp, .nil⟩
      rw [upd_ne n3.symm]
      exact upd_same
    · obtain ⟨⟨o2, o3, o4, o5, o6, o7, rfl⟩, sm, hp', as, els, al, pr⟩ := h
      obtain ⟨nm, hn, rfl, hi⟩ := nth_str hx
      obtain ⟨x0, hx0, rfl⟩ := List.mem_map.mp (hperm.mem_iff.mp (List.mem_of_getElem? hn))
      have thc := th.same sm
      obtain ⟨ex, pa, ok⟩ := thc.th x0 hx0
      unfold thV at ex
      have ed := thc.d
      walk_at "rds"
      refine k_dg2s (.inl ed) (valV_kvsT th.nn hx0) ?_
      walk_at "rds"
      refine k_bmL els ?_
      walk_at "rds"
      refine ⟨x0.pl, x0.t.wn, x0.t.si, rfl, pa, ok.w, ok.i0, ?_⟩
      walk_at "rds"
      intro r fr
      have n5 : ls ≠ r := ne_of_none els fr
      have n6 : p ≠ r := ne_of_none hp' fr
      refine k_append (xs := as.map V.ref) ((upd_ne n5).trans els) (by rw [List.length_map]; exact sz8 (by omega)) ?_
      walk_at "rds"
      refine ⟨⟨_, _, _, _, _, _, rfl⟩, fun c o hc => (upd_ne (ne_of_none hc f1)).trans ((upd_ne (ne_of_none (sm _ _ hc) fr)).trans (sm _ _ hc)), (upd_ne n3).trans ((upd_ne n6).trans hp'), as ++ [r], by rw [upd_same, List.map_append]; rfl, by rw [List.length_append, List.length_singleton]; omega, ?_⟩
      rw [List.take_add_one, hn, List.filterMap_append]
      have lk := look_ts th.nn hx0
      simp only [Option.toList_some, List.filterMap_cons, List.filterMap_nil, lk, Option.map_some]
      have keep : ∀ c v, H' c = some (.tup v) → upd (upd H' r (.tup [.str x0.t.nm, .int x0.t.sp, .int x0.t.fo, .int (x0.t.wn.phase x0.t.si)])) ls (.lst (as.map V.ref ++ [V.ref r])) c = some (.tup v) := fun c v hc => by
        have y : c ≠ ls := fun z => by rw [z, els] at hc; cases hc
        exact (upd_ne y).trans ((upd_ne (ne_of_none hc fr)).trans hc)
      exact Paired.snoc (Paired.mapP pr fun c t z => keep c _ z) ((upd_ne n5.symm).trans upd_same)
    · obtain ⟨⟨o2, o3, o4, o5, o6, o7, rfl⟩, sm, hp', as, els, al, pr⟩ := h
      walk_at "rds"
      rw [List.length_map] at al
      refine ⟨ls, _, rfl, .inl ⟨SqL.of els, fun r fr => ?_⟩⟩
      have est : stL (ts.map (·.t)) = (sortS (ts.map (·.t.nm))).filterMap fun n => (look (ts.map (·.t)) n).map row4 := by
        unfold stL
        rw [List.map_map]
        rfl
      rw [List.length_map, List.take_length, hys, ← est] at pr
      exact q r _ (sm.trans (same_new fr)) ⟨as, upd_same, Paired.mapP pr fun c t z => same_new fr _ _ z⟩
end
end Wh

/-! ## L4 -/
set_option Elab.async false
set_option linter.all false
set_option maxRecDepth 100000
set_option maxHeartbeats 4000000


namespace Wh
open PySem PySem.Spec PyProof.Rows L2
section
variable {P : Program} {wo : World} {K : PySem.W.Frag} {mg : Str → Option Value} {base : Heap}
def spLMoves : Sp := fun vs H Q _ => ∃ d ts, vs = [.ref d] ∧ ThAt H d ts ∧ ts.length ≤ 8 ∧ ∀ a H', Same H H' → H' a = some (.lst ((movL (ts.map (·.t))).map movV)) → Q (.ref a) H'
theorem el_testI {σ : L2.St} {H : Hp} {tt : TT} {te : TE} {i : Nat} {D : Addr} {Pv : Nat → List V → Addr → Hp → Prop} (q : tt σ H fun b H3 => if b = true then te σ H3 (kEl Pv i D) else ∃ acc, Pv (i + 1) acc D H3) : tt σ H fun b H3 => if b = true then te σ H3 (kEl Pv i D) else ∃ acc, Pv (i + 1) acc D H3 := q
def kTI (te : TE) (Pv : Nat → List V → Addr → Hp → Prop) (i : Nat) (D : Addr) (σ : L2.St) : Bool → Hp → Prop := fun b H3 => if b = true then te σ H3 (kEl Pv i D) else ∃ acc, Pv (i + 1) acc D H3
theorem testI {σ : L2.St} {H : Hp} {tt : TT} {te : TE} {i : Nat} {D : Addr} {Pv : Nat → List V → Addr → Hp → Prop} (q : tt σ H (kTI te Pv i D σ)) : tt σ H fun b H3 => if b = true then te σ H3 (kEl Pv i D) else ∃ acc, Pv (i + 1) acc D H3 := q
theorem k_TI {σ : L2.St} {H : Hp} {te : TE} {i : Nat} {D : Addr} {Pv : Nat → List V → Addr → Hp → Prop} {c : Bool} (h1 : c = true → te σ H (kEl Pv i D)) (h2 : c = false → ∃ acc, Pv (i + 1) acc D H) : kTI te Pv i D σ c H := by
  cases c with
  | true => exact h1 rfl
  | false => exact h2 rfl
theorem ok_law_moves (T : Tx K mg) : FnOk P wo K mg base CX0 3 (He.ga K "_law_moves") (fdA K (He.ga K "_law_moves")) ["_law_things"] (spLMoves) := by
  refine okD (F_law_moves T) sc_law_moves (fun vs H Q E h => ?_) (fun cdv A outer s H vs Q E hr h => ?_)
  · obtain ⟨d, ts, rfl, _⟩ := h
    rfl
  · obtain ⟨d, ts, rfl, th, l8, q⟩ := h
    refine ⟨_, (pss_cons (ps_setLc (i := 1) (own := [("_law_name", 2)]) rfl sc_law_moves.nd rfl rfl (sw_true rfl rfl rfl (by decide +kernel)) (pi_list (pe_callB (call_sortedD rfl) (by rfl) (z_sorted T) (by decide +kernel) (pa_cons (pv 0) pa_nil))) (blkOk_by (N := ["_law_things", "_law_rows", "_law_name", "_law_row"]) (sc := defScope s_law_moves) (by decide +kernel)) (fun _ _ _ _ _ => (pg_name (i := 2) sc_law_moves.nd rfl (Or.inl rfl))) (fun _ _ _ _ _ => pts_nil) (fun _ _ _ _ _ => (pe_tup (pa_cons (pv 2) (pa_cons (pe_dget (hu_of hr) (pv 0) (pv 2) (fun _ _ => rfl)) pa_nil)))))
 (pss_one (ps_ret (pe_op op_cat (pe_lst (pa_cons pe_non pa_nil)) (pe_lc (own := [("_law_name", 2), ("_law_row", 3)]) rfl sc_law_moves.nd (pi_list (pv 1)) (blkOk_by (N := ["_law_things", "_law_rows", "_law_name", "_law_row"]) (sc := defScope s_law_moves) (by decide +kernel)) (fun _ _ _ _ _ => (pg_tupK (K := K) (n := 2) rfl (pgs_cons (pg_name (i := 2) sc_law_moves.nd rfl (Or.inl rfl)) (pgs_cons (pg_name (i := 3) sc_law_moves.nd rfl (Or.inl rfl)) pgs_nil)))) (fun _ _ _ _ _ => (pts_one (pt_cmpR op_gt (pe_call (ok_law_waned (P := P) (wo := wo) (K := K) T) (hr.mono (by decide)) rfl (g_law_waned T) (F_law_waned T).kp (b_law_waned T) .nil pass0 (pa_cons (pe_ix (ix_tupK (K := K)) (pv 3) pe_int (fun _ _ => rfl)) (pa_cons (pe_ix (ix_tupK (K := K)) (pv 3) pe_int (fun _ _ => rfl)) (pa_cons (pe_ix (ix_tupK (K := K)) (pv 3) pe_int (fun _ _ => rfl)) pa_nil)))) pe_int (nomark _)))) (fun _ _ _ _ _ => (pv 2))))))), ?_⟩
    try dsimp only [cxK, cxP, cxW]
    walk_at "rds"
    refine ⟨d, kvsT ts, ts.map (·.t.nm), rfl, .inl th.d, keys_kvsT _, by rw [List.length_map]; omega, fun ys p hperm hsort f2 => ?_⟩
    have hys := sorted_eq hperm hsort
    have hyl : ys.length = ts.length := by rw [hperm.length_eq, List.length_map]
    have smp := same_new (o := .lst (ys.map V.str)) f2
    have thp := th.same smp
    have epp : (upd H p (.lst (ys.map V.str))) p = _ := upd_same
    generalize upd H p (.lst (ys.map V.str)) = Hp1 at *
    refine k_iL (SqL.of epp) ?_
    refine k_lcI (itx_l K p (ys.map V.str)) (fun i acc D H' => Hp1 D = none ∧ Same Hp1 H' ∧ ∃ rs : List Addr, acc = rs.map V.ref ∧ H' D = some (.lst acc) ∧ rs.length ≤ i ∧ Paired (fun r n => ∃ x ∈ ts, x.t.nm = n ∧ H' r = some (.tup [.str n, .ref x.a])) rs (ys.take i)) (fun D hD => ⟨hD, same_new hD, [], rfl, upd_same, Nat.le_refl _, .nil⟩) (fun i acc D H' p => SqL.of (p.2.1 _ _ epp)) (fun i x acc D H' hx pp => ?_) (fun acc D H1 pp => ?_)
    · obtain ⟨hD, sm, rs, rfl, eD, rl, pr⟩ := pp
      obtain ⟨nm, hn, rfl, hi⟩ := nth_str hx
      obtain ⟨x0, hx0, rfl⟩ := List.mem_map.mp (hperm.mem_iff.mp (List.mem_of_getElem? hn))
      refine el_nameI rfl ?_
      walk_at "rds"
      refine k_dg2s (.inl (sm _ _ thp.d)) (valV_kvsT th.nn hx0) ?_
      walk_at "rds"
      intro r fr
      have nDr : D ≠ r := ne_of_none eD fr
      refine k_el (acc := rs.map V.ref) ((upd_ne nDr).trans eD) (by rw [List.length_map]; exact sz8 (by omega)) ⟨hD, fun b o hb => (upd_ne (ne_of_none hb hD)).trans ((upd_ne (ne_of_none (sm _ _ hb) fr)).trans (sm _ _ hb)), rs ++ [r], by rw [List.map_append]; rfl, upd_same, by rw [List.length_append, List.length_singleton]; omega, ?_⟩
      rw [List.take_add_one, hn]
      have keep : ∀ c v, H' c = some (.tup v) → upd (upd H' r (.tup [.str x0.t.nm, .ref x0.a])) D (.lst (rs.map V.ref ++ [V.ref r])) c = some (.tup v) := fun c v hc => (upd_ne (fun (z : c = D) => by rw [z, eD] at hc; cases hc)).trans ((upd_ne (ne_of_none hc fr)).trans hc)
      exact Paired.snoc (Paired.mapP pr fun c n ⟨x, h1, h2, z⟩ => ⟨x, h1, h2, keep c _ z⟩) ⟨x0, hx0, rfl, (upd_ne nDr.symm).trans upd_same⟩
    · obtain ⟨fD, sm1, rs, rfl, eD, rl, pr⟩ := pp
      rw [List.length_map, List.take_length] at pr
      rw [List.length_map] at rl
      have rsl : rs.length = ys.length := Paired.length pr
      walk_at "rds"
      intro nl fnl
      have smn := same_new (o := .lst [V.non]) fnl
      have enl : (upd H1 nl (.lst [V.non])) nl = some (.lst [V.non]) := upd_same
      have eD2 := smn _ _ eD
      have sm2 := sm1.trans smn
      have pr2 := Paired.mapP pr fun r n (z : ∃ x ∈ ts, x.t.nm = n ∧ H1 r = some (.tup [.str n, .ref x.a])) => (⟨z.choose, z.choose_spec.1, z.choose_spec.2.1, smn _ _ z.choose_spec.2.2⟩ : ∃ x ∈ ts, x.t.nm = n ∧ (upd H1 nl (.lst [V.non])) r = some (.tup [.str n, .ref x.a]))
      clear eD pr
      generalize upd H1 nl (.lst [V.non]) = H2 at *
      walk_at "rds"
      refine k_iL (SqL.of eD2) ?_
      refine k_lcI (itx_l K D (rs.map V.ref)) (fun i acc E' H' => H2 E' = none ∧ Same H2 H' ∧ H' E' = some (.lst acc) ∧ acc = ((ys.take i).filter fun n => ((look (ts.map (·.t)) n).bind waneT).isSome).map V.str) (fun E' hE => ⟨hE, same_new hE, upd_same, by simp⟩) (fun i acc E' H' p => SqL.of (p.2.1 _ _ eD2)) (fun i x acc E' H' hx pp => ?_) (fun acc E' H3 pp => ?_)
      · obtain ⟨hE, sm, eE, ea⟩ := pp
        obtain ⟨r, hr, rfl, hi⟩ := nth_ref hx
        obtain ⟨nm, hn, x0, hx0, rfl, er⟩ := Paired.getL pr2 i r hr
        have er2 := sm _ _ er
        have thc := (thp.same sm2).same sm
        obtain ⟨ex, pa, ok⟩ := thc.th x0 hx0
        unfold thV at ex
        have lk := look_ts th.nn hx0
        have hal : acc.length ≤ 8 := by
          rw [ea, List.length_map]
          have h1 := List.length_filter_le (fun n => ((look (ts.map (·.t)) n).bind waneT).isSome) (ys.take i)
          rw [List.length_take] at h1
          omega
        walk_at "rds"
        refine ⟨rfl, testI ?_⟩
        walk_at "rds"
        refine x_ixT (SqT.of ex) (atI_nat (v := .ref x0.pl) (by decide) rfl) ?_
        walk_at "rds"
        refine x_ixT (SqT.of ex) (atI_nat (v := .int x0.t.fo) (by decide) rfl) ?_
        walk_at "rds"
        refine x_ixT (SqT.of ex) (atI_nat (v := .int x0.t.si) (by decide) rfl) ?_
        walk_at "rds"
        refine ⟨x0.pl, x0.t.wn, x0.t.fo, x0.t.si, rfl, pa, ok.w, ok.i0, fun H4 sm4 => ?_⟩
        walk_at "rds"
        refine k_TI (fun hc => ?_) (fun hc => ?_)
        · have h0 := of_decide_eq_true hc
          have hsome : ((look (ts.map (·.t)) x0.t.nm).bind waneT).isSome = true := by
            rw [lk]
            unfold waneT
            simp only [Option.bind_some]
            rw [if_neg (by omega)]
            rfl
          walk_at "rds"
          refine k_el (sm4 _ _ eE) (sz8 (by omega)) ⟨hE, fun b o hb => (upd_ne (ne_of_none hb hE)).trans (sm4 _ _ (sm _ _ hb)), upd_same, ?_⟩
          rw [List.take_add_one, hn, List.filter_append, List.map_append, ea]
          simp [hsome]
        · have h0 := of_decide_eq_false hc
          have hnone : ((look (ts.map (·.t)) x0.t.nm).bind waneT).isSome = false := by
            rw [lk]
            unfold waneT
            simp only [Option.bind_some]
            rw [if_pos (by omega)]
            rfl
          refine ⟨acc, hE, sm.trans sm4, sm4 _ _ eE, ?_⟩
          rw [List.take_add_one, hn, List.filter_append, ea]
          simp [hnone]
      · obtain ⟨fE, sm3, eE, rfl⟩ := pp
        rw [List.length_map, rsl, List.take_length] at eE
        walk_at "rds"
        refine ⟨nl, E', [.non], _, rfl, rfl, sm3 _ _ enl, eE, ?_, fun a fa => ?_⟩
        · rw [List.length_map]
          have h1 := List.length_filter_le (fun n => ((look (ts.map (·.t)) n).bind waneT).isSome) ys
          exact sz16 (by simp only [List.length_cons, List.length_nil]; omega)
        · refine q a _ (((smp.trans sm2).trans sm3).trans (same_new fa)) ?_
          rw [upd_same]
          unfold movL
          rw [List.map_cons, List.map_map, List.map_map, hys]
          rfl
end
end Wh

/-! ## L5 -/
set_option Elab.async false
set_option linter.all false
set_option maxRecDepth 100000
set_option maxHeartbeats 4000000


namespace Wh
open PySem PySem.Spec PyProof.Rows L2
section
variable {P : Program} {wo : World} {K : PySem.W.Frag} {mg : Str → Option Value} {base : Heap}
def spStays (K : PySem.W.Frag) : Sp := fun vs H Q _ => ∃ G p S N l, ∃ ns : List Str, vs = [.ref p, .ref l] ∧ StO K G H p S N ∧ H l = some (.lst (ns.map V.str)) ∧ ns.length ≤ 8 ∧ ∀ H', Same H H' → Q (.bl (allIn ns (S.bl.map (·.t)))) H'
theorem ok_law_stays (T : Tx K mg) : FnOk P wo K mg base CX0 2 (He.ga K "_law_stays") (fdA K (He.ga K "_law_stays")) ["_law_store_here", "_law_names_here"] (spStays K) := by
  refine okD (F_law_stays T) sc_law_stays (fun vs H Q E h => ?_) (fun cdv A outer s H vs Q E hr h => ?_)
  · obtain ⟨G, p, S, N, l, ns, rfl, _⟩ := h
    rfl
  · obtain ⟨G, p, S, N, l, ns, rfl, st, el, l8, q⟩ := h
    obtain ⟨sdx, es⟩ := st.ins
    refine ⟨_, (pss_cons (ps_set (i := 2) sc_law_stays.nd rfl (Or.inr rfl) (pe_meth0 (pv 0) (c_Store (K := K) T) (m_Store_there (K := K) T) (ok_Store_there (P := P) (wo := wo) (K := K) T) (hr.mono (by decide)) (b_Store_there T) .nil pass0))
 (pss_one (ps_ret (pe_callB (cr_allK (K := K) rfl) (by rfl) (z_all T) (by decide +kernel) (pa_cons (pe_lc (own := [("_law_name", 3)]) rfl sc_law_stays.nd (pi_list (pv 1)) (blkOk_by (N := ["_law_store_here", "_law_names_here", "_law_there", "_law_name"]) (sc := defScope s_law_stays) (by decide +kernel)) (fun _ _ _ _ _ => (pg_name (i := 3) sc_law_stays.nd rfl (Or.inl rfl))) (fun _ _ _ _ _ => pts_nil) (fun _ _ _ _ _ => (pe_cmpR (op_inK (K := K)) (pv 3) (pv 2) (by rfl)))) pa_nil))))), ?_⟩
    try dsimp only [cxK, cxP, cxW]
    walk_at "rds"
    refine ⟨G, p, S, N, rfl, st, fun tl H1 ftl sm1 etl => ?_⟩
    have el1 := sm1 _ _ el
    walk_at "rds"
    refine k_iL (SqL.of el1) ?_
    refine k_lcP (itx_l K l (ns.map V.str)) (fun v => some (.bl (inV v ((sortS (S.bl.map (·.t.nm))).map V.str)))) (fun H' k => SqL.of (k _ _ el1)) (by rw [List.length_map]; exact sz8 (by omega)) (fun v H' N' hv k hN => ?_) (fun Dl H2 fD k eD => ?_)
    · obtain ⟨nm, hnm, rfl⟩ := List.mem_map.mp hv
      refine el_name rfl ?_
      walk_at "rds"
      exact ⟨tl, _, rfl, .inl (SqL.of (k _ _ etl)), rfl, flat_str _, hN _ (Same.refl _)⟩
    · rw [fm_all] at eD
      walk_at "rds"
      refine ⟨Dl, _, rfl, SqL.of eD, ?_⟩
      have eall : ((ns.map fun n => inV (.str n) ((sortS (S.bl.map (·.t.nm))).map V.str)).all id) = allIn ns (S.bl.map (·.t)) := by
        rw [← all_in, List.map_map]
        rfl
      rw [eall]
      exact q _ (sm1.trans k)
def spTold (K : PySem.W.Frag) : Sp := fun vs H Q _ => ∃ G0 G p S N mv, vs = [.ref p, movV mv] ∧ StO K G0 H p S N ∧ StO K G H p S N ∧ (∀ a, G0 a → G a) ∧ (∀ a, H a ≠ none → G a ∨ own S a ∨ a = p) ∧ N ≤ 1000 ∧ S.ds = [] ∧ 0 ≤ S.mo ∧ (∀ n, mv = some n → NameOk n) ∧
  ∀ S' H', Kp G H H' → StO K G0 H' p S' N → (∀ a, own S' a → own S a ∨ H a = none) → S'.hold = S.hold → S'.pres = S.pres → S'.ds = [] → 0 ≤ S'.mo → S'.bl.map (·.t) = stepL S.hold S.pres mv (S.bl.map (·.t)) → Q .non H'
theorem ok_law_told (T : Tx K mg) : FnOk P wo K mg base CX0 8 (He.ga K "_law_told") (fdA K (He.ga K "_law_told")) ["_law_store_here", "_law_move"] (spTold K) := by
  refine okD (F_law_told T) sc_law_told (fun vs H Q E h => ?_) (fun cdv A outer s H vs Q E hr h => ?_)
  · obtain ⟨G0, G, p, S, N, mv, rfl, _⟩ := h
    rfl
  · obtain ⟨G0, G, p, S, N, mv, rfl, st0, st, gi, gall, nb, hds, m0, nok, q⟩ := h
    obtain ⟨sdx, es⟩ := st.ins
    refine ⟨_, (pss_cons (ps_set (i := 2) sc_law_told.nd rfl (Or.inl rfl) pe_non)
 (pss_cons (ps_if (pt_cmp (pc_notN (pv 1))) (pss_one (ps_set (i := 2) sc_law_told.nd rfl (Or.inl rfl) (pe_meth (pv 0) (c_Store (K := K) T) (m_Store_hire (K := K) T) (ok_Store_hire (P := P) (wo := wo) (K := K) T) (hr.mono (by decide)) (b_Store_hire T) .nil pass0 (pa_cons (pv 1) (pa_cons (pe_tup (pa_cons (pe_op op_mod (pe_op op_add (pe_meth0 (pv 0) (c_Store (K := K) T) (m_Store_now (K := K) T) (ok_Store_now (P := P) (wo := wo) (K := K) T) (hr.mono (by decide)) (b_Store_now T) .nil pass0) pe_int) pe_int) pa_nil)) pa_nil))))) pss_nil)
 (pss_cons (ps_expr (pe_meth (pv 0) (c_Store (K := K) T) (m_Store_pass_on (K := K) T) (ok_Store_pass_on (P := P) (wo := wo) (K := K) T) (hr.mono (by decide)) (b_Store_pass_on T) .nil pass0 (pa_cons pe_int pa_nil)))
 (pss_one (ps_if (pt_cmp (pc_notN (pv 2))) (pss_one (ps_expr (pe_meth (pv 0) (c_Store (K := K) T) (m_Store_dismiss (K := K) T) (ok_Store_dismiss (P := P) (wo := wo) (K := K) T) (hr.mono (by decide)) (b_Store_dismiss T) .nil pass0 (pa_cons (pv 2) pa_nil)))) pss_nil))))), ?_⟩
    try dsimp only [cxK, cxP, cxW]
    cases mv with
    | none =>
      dsimp only [movV]
      walk_at "rds"
      refine ⟨G, p, S, N, rfl, st, nb, (fun d hd => by rw [hds] at hd; cases hd), fun S2 H2 kp2 st2 stp => ?_⟩
      walk_at "rds"
      have hq : S2.hold = S.hold ∧ S2.pres = S.pres ∧ S2.ds = S.ds ∧ S2.mo = S.mo + 1 := by
        obtain ⟨bl', rfl⟩ := stp.bl
        exact ⟨rfl, rfl, rfl, rfl⟩
      have hq5 : S2.ho = S.ho ∧ S2.pr = S.pr := by
        obtain ⟨bl', rfl⟩ := stp.bl
        exact ⟨rfl, rfl⟩
      have scr := shrink3 st0.sc st2.sc (kp2.mono gi) gi hq5.1 hq5.2 (fun b hb => by
        obtain ⟨c, hc, _, e2, e3, _⟩ := stp.from_ b hb
        exact ⟨c, hc, e2, e3⟩)
      refine q S2 H2 kp2 ⟨st2.ins, st0.g, st2.o, scr⟩ (fun a o => .inl (stp.own o)) hq.1 hq.2.1 (hq.2.2.1.trans hds) (by omega) ?_
      rw [stp.ts]
      unfold turnL stepL
      rw [hds]
      rfl
    | some nm =>
      dsimp only [movV]
      walk_at "rds"
      refine ⟨G, p, S, N, rfl, st, ?_⟩
      walk_at "rds"
      refine x_I (by show (0 : Int) < 24; decide) ?_
      walk_at "rds"
      intro ht fht
      have smh := same_new (o := .tup [.int ((S.mo + 1) % 24)]) fht
      have sth := st.same smh
      have eht : (upd H ht (.tup [.int ((S.mo + 1) % 24)])) ht = _ := upd_same
      have kph : Kp G H (upd H ht (.tup [.int ((S.mo + 1) % 24)])) := Kp.same smh
      generalize upd H ht (.tup [.int ((S.mo + 1) % 24)]) = H1 at *
      obtain ⟨sdx1, es1⟩ := sth.ins
      walk_at "rds"
      have hok : HoursOk [(S.mo + 1) % 24] := by
        refine ⟨by simp, by simp, fun h hh => ?_, fun k hk => ?_⟩
        · obtain rfl := List.mem_singleton.mp hh
          have h1 := Int.emod_nonneg (S.mo + 1) (show (24 : Int) ≠ 0 by decide)
          have h2 := Int.emod_lt_of_pos (S.mo + 1) (show (0 : Int) < 24 by decide)
          omega
        · simp at hk
      refine ⟨G, p, S, N, nm, ht, [(S.mo + 1) % 24], rfl, sth, hds, nok nm rfl, .inl eht, hok, fun S2 H2 kp2 st2 hS2 => ?_⟩
      obtain ⟨sdx2, es2⟩ := st2.ins
      walk_at "rds"
      have hds2 : S2.ds = [(S.hi + 1, nm, [(S.mo + 1) % 24])] := by rw [hS2]
      have hq2 : S2.hold = S.hold ∧ S2.pres = S.pres ∧ S2.mo = S.mo ∧ S2.bl = S.bl := by rw [hS2]; exact ⟨rfl, rfl, rfl, rfl⟩
      refine ⟨G, p, S2, N, rfl, st2, nb, fun d hd => ?_, fun S3 H3 kp3 st3 stp => ?_⟩
      · rw [hds2] at hd
        obtain rfl := List.mem_singleton.mp hd
        rw [hq2.2.2.1]
        exact List.mem_singleton.mpr rfl
      obtain ⟨sdx3, es3⟩ := st3.ins
      have hq3 : S3.hold = S2.hold ∧ S3.pres = S2.pres ∧ S3.ds = S2.ds ∧ S3.mo = S2.mo + 1 := by
        obtain ⟨bl', rfl⟩ := stp.bl
        exact ⟨rfl, rfl, rfl, rfl⟩
      walk_at "rds"
      refine ⟨G, p, S3, N, _, rfl, st3, hq3.2.2.1.trans hds2, fun S4 H4 kp4 st4 hS4 f4 => ?_⟩
      walk_at "rds"
      have hq4 : S4.hold = S3.hold ∧ S4.pres = S3.pres ∧ S4.ds = [] ∧ S4.mo = S3.mo ∧ S4.bl = S3.bl := by rw [hS4]; exact ⟨rfl, rfl, rfl, rfl, rfl⟩
      have hq5 : S4.ho = S.ho ∧ S4.pr = S.pr := by
        rw [hS4]
        obtain ⟨bl', rfl⟩ := stp.bl
        rw [hS2]
        exact ⟨rfl, rfl⟩
      have ho2 : ∀ a, own S2 a → own S a := fun a o => by rw [hS2] at o; exact o
      have kpall := kph.trans (kp2.trans (kp3.trans kp4))
      have scr := shrink3 st0.sc st4.sc (kpall.mono gi) gi hq5.1 hq5.2 (fun b hb => by
        rw [hq4.2.2.2.2] at hb
        obtain ⟨c, hc, _, e2, e3, _⟩ := stp.from_ b hb
        rw [show ({ S2 with mo := S2.mo + 1 } : Sc).bl = S.bl from hq2.2.2.2] at hc
        exact ⟨c, hc, e2, e3⟩)
      refine q S4 H4 kpall ⟨st4.ins, st0.g, st4.o, scr⟩ (fun a o => ?_) (hq4.1.trans (hq3.1.trans hq2.1)) (hq4.2.1.trans (hq3.2.1.trans hq2.2.1)) hq4.2.2.1 (by omega) ?_
      · rw [hS4] at o
        have lift : own S3 a → own S a ∨ H a = none := fun o3 => .inl (ho2 a (stp.own o3))
        rcases o with z | z | z | z | z | z
        · exact lift (.inl z)
        · exact lift (.inr (.inl z))
        · exact lift (.inr (.inr (.inl z)))
        · cases y : H S4.da with
          | none => exact .inr (by rw [z]; exact y)
          | some u =>
            rcases gall S4.da (by rw [y]; simp) with g | g | g
            · have y3 := (kph.trans (kp2.trans kp3)).g _ _ g y
              rw [f4] at y3
              cases y3
            · exact .inl (by rw [z]; exact g)
            · rw [g, es3] at f4
              cases f4
        · exact lift (.inr (.inr (.inr (.inr (.inl z)))))
        · exact lift (.inr (.inr (.inr (.inr (.inr z)))))
      rw [hq4.2.2.2.2, stp.ts]
      unfold turnL stepL
      rw [hds2, hq2.1, hq2.2.1, hq2.2.2.2]
      rfl
end
end Wh

/-! ## L6 -/
set_option Elab.async false
set_option linter.all false
set_option maxRecDepth 100000
set_option maxHeartbeats 4000000


namespace Wh
open PySem PySem.Spec PyProof.Rows L2
section
variable {P : Program} {wo : World} {K : PySem.W.Frag} {mg : Str → Option Value} {base : Heap}
theorem BagAt.move {H H' : Hp} {b c : Addr} (h : BagAt H b c) (k : ∀ a, (H a ≠ none → H' a = H a)) : BagAt H' b c := by
  obtain ⟨x0, x1, x2, cells, eb, ec, r⟩ := h
  exact ⟨x0, x1, x2, cells, (k b (by rw [eb]; simp)).trans eb, (k c (by rw [ec]; simp)).trans ec, r⟩
theorem BagAt.keep {H H' : Hp} {b c : Addr} (h : BagAt H b c) (k : ∀ a o, H a = some o → (a = b ∨ a = c) → H' a = some o) : BagAt H' b c := by
  obtain ⟨x0, x1, x2, cells, eb, ec, r⟩ := h
  exact ⟨x0, x1, x2, cells, k _ _ eb (.inl rfl), k _ _ ec (.inr rfl), r⟩
theorem StO.butbag {K : PySem.W.Frag} {G : Addr → Prop} {H H' : Hp} {p b c : Addr} {S : Sc} {N : Nat} (h : StO K G H p S N) (hb : BagAt H b c) (k : ButBag b H H') (g : ¬ G b) (o : ¬ own S b) (np : p ≠ b) : StO K G H' p S N := by
  obtain ⟨dx, e⟩ := h.ins
  obtain ⟨x0, x1, x2, cells, eb, _⟩ := hb
  refine ⟨⟨dx, k _ _ e np⟩, h.g, h.o, h.sc.frame ⟨fun a u ga e => k a u e (fun z => g (z ▸ ga)), fun a xs e => k a _ e (fun z => by rw [z, eb] at e; cases e)⟩ fun a oa => ?_⟩
  cases y : H a with
  | none => exact absurd y (h.sc.there oa)
  | some u => exact k a u y (fun z => o (z ▸ oa))
theorem step_skip {rooms stirs : List Int} {L : List T} {n : Str} (nd : Nd L) (hn : n ∈ L.map (·.nm)) (h : some n ∉ movL L) : stepL rooms stirs (some n) L = stepL rooms stirs none L := by
  unfold stepL
  congr 1
  show askL stirs n (waneL L) = waneL L
  unfold askL
  rw [show look (waneL L) n = none from ?_]
  cases e : look (waneL L) n with
  | none => rfl
  | some t' =>
    exfalso
    obtain ⟨h1, h2⟩ := look_some e
    obtain ⟨t, ht, et⟩ := List.mem_filterMap.mp h1
    refine h (List.mem_cons_of_mem _ (List.mem_map.mpr ⟨n, List.mem_filter.mpr ⟨sortS_mem.mpr hn, ?_⟩, rfl⟩))
    have : t.nm = n := by rw [← waneT_nm2 et, h2]
    rw [← this, look_mem nd ht]
    simp [et]
theorem way_of {D : Sta} {rooms stirs : List Int} {ns : List Str} {L : List T} (rp : Rp D L) {mv : Option Str} (hn : ∀ n, mv = some n → n ∈ L.map (·.nm)) (ha : allIn ns (stepL rooms stirs mv L) = true) : ∃ q ∈ succS D rooms stirs ns (stL L), q.2 = stL (stepL rooms stirs mv L) := by
  rw [← ways_succ rp]
  unfold ways
  by_cases h : mv ∈ movL L
  · exact ⟨_, List.mem_filterMap.mpr ⟨mv, h, by rw [if_pos ha]⟩, rfl⟩
  · cases mv with
    | none => exact absurd (List.mem_cons_self ..) h
    | some n =>
      rw [step_skip rp.1.1 (hn n rfl) h] at ha ⊢
      exact ⟨_, List.mem_filterMap.mpr ⟨none, List.mem_cons_self .., by rw [if_pos ha]⟩, rfl⟩
def spDrawn (K : PySem.W.Frag) : Sp := fun vs H Q _ => ∃ G b c p S N td l, ∃ (ns : List Str) (r : Nat) (D : Sta), vs = [.ref b, .ref p, td, .ref l, .int (r : Nat)] ∧ BagAt H b c ∧ ¬ G b ∧ StO K G H p S N ∧ N ≤ 1000 ∧ S.ds = [] ∧ 0 ≤ S.mo ∧ H l = some (.lst (ns.map V.str)) ∧ l ≠ b ∧ ns.length ≤ 8 ∧ r ≤ 1000 ∧ Rp D (S.bl.map (·.t)) ∧ (∀ t ∈ S.bl.map (·.t), NameOk t.nm) ∧
  Rk (succS D S.hold S.pres ns) (stL (S.bl.map (·.t))) r ∧ ∀ H', BagAt H' b c → ButBag b H H' → Q (.bl true) H'
theorem ok_law_drawn (T : Tx K mg) : FnOk P wo K mg base CX0 9 (He.ga K "_law_drawn") (fdA K (He.ga K "_law_drawn")) ["_law_bag_here", "_law_store_here", "_law_things", "_law_names_here", "_law_turns"] (spDrawn K) := by
  refine okD (F_law_drawn T) sc_law_drawn (fun vs H Q E h => ?_) (fun cdv A outer s H vs Q E hr h => ?_)
  · obtain ⟨G, b, c, p, S, N, td, l, ns, r, D, rfl, _⟩ := h
    rfl
  · obtain ⟨G, b, c, p, S, N, td, l, ns, r, D, rfl, bag, gb, st, nb, hds, m0, el, lb, l8, r1k, rp, nok, rk, q⟩ := h
    obtain ⟨sdx, es⟩ := st.ins
    refine ⟨_, (pss_cons (ps_set (i := 5) sc_law_drawn.nd rfl (Or.inl rfl) (pe_meth0 (pv 1) (c_Store (K := K) T) (m_Store_copied (K := K) T) (ok_Store_copied (P := P) (wo := wo) (K := K) T) (hr.mono (by decide)) (b_Store_copied T) .nil pass0))
 (pss_cons (ps_for PassesOwn.never rfl (pi_range1 rfl (z_range T) (pa_cons (pv 4) pa_nil)) (pg_name (i := 6) sc_law_drawn.nd rfl (Or.inl rfl)) (pss_cons (ps_set (i := 7) sc_law_drawn.nd rfl (Or.inl rfl) (pe_op op_cat (pe_lst (pa_cons pe_non pa_nil)) (pe_meth0 (pv 5) (c_Store (K := K) T) (m_Store_there (K := K) T) (ok_Store_there (P := P) (wo := wo) (K := K) T) (hr.mono (by decide)) (b_Store_there T) .nil pass0)))
 (pss_cons (ps_expr (pe_call (ok_law_told (P := P) (wo := wo) (K := K) T) (hr.mono (by decide)) rfl (g_law_told T) (F_law_told T).kp (b_law_told T) .nil pass0 (pa_cons (pv 5) (pa_cons (pe_ix (ix_listK (K := K)) (pv 7) (pe_call (ok_law_take (P := P) (wo := wo) (K := K) T) (hr.mono (by decide)) rfl (g_law_take T) (F_law_take T).kp (b_law_take T) .nil pass0 (pa_cons (pv 0) (pa_cons (pe_callB (call_len_seqK (K := K)) (by rfl) (z_len T) (by decide +kernel) (pa_cons (pv 7) pa_nil)) pa_nil))) (fun _ _ => rfl)) pa_nil))))
 (pss_one (ps_if (pt_not (pt_val (pe_call (ok_law_stays (P := P) (wo := wo) (K := K) T) (hr.mono (by decide)) rfl (g_law_stays T) (F_law_stays T).kp (b_law_stays T) .nil pass0 (pa_cons (pv 5) (pa_cons (pv 3) pa_nil))))) (pss_one (ps_ret pe_bl)) pss_nil)))))
 (pss_one (ps_ret pe_bl)))), ?_⟩
    try dsimp only [cxK, cxP, cxW]
    walk_at "rds"
    refine ⟨G, p, S, N, rfl, st, fun p1 S1 H1 sm1 st1 fr1 fp1 lk => ?_⟩
    have hbn : H b ≠ none := by
      obtain ⟨x0, x1, x2, cells, eb, _⟩ := bag
      rw [eb]; simp
    have bag1 : BagAt H1 b c := bag.move fun a ha => by
      cases y : H a with
      | none => exact absurd y ha
      | some o => rw [sm1 _ _ y]
    have g1b : ¬ (G b ∨ (H b = none ∧ H1 b ≠ none ∧ ¬ own S1 b ∧ b ≠ p1)) := fun g => g.elim gb fun g => hbn g.1
    have np1 : p1 ≠ b := fun z => hbn (z ▸ fp1)
    walk_at "rds"
    refine k_iR (by omega) (by omega) ?_
    rw [Int.toNat_natCast]
    refine k_for (itx_r 0 r) (fun i σ' H' => (∃ o6 o7, σ' = [some (.ref b), some (.ref p), some td, some (.ref l), some (.int (r : Nat)), some (.ref p1), o6, o7]) ∧ BagAt H' b c ∧ (∀ a o, H a = some o → a ≠ b → H' a = some o) ∧
      ∃ S', StO K (fun a => G a ∨ (H a = none ∧ H1 a ≠ none ∧ ¬ own S1 a ∧ a ≠ p1)) H' p1 S' N ∧ (∀ a, own S' a → H a = none) ∧ S'.hold = S.hold ∧ S'.pres = S.pres ∧ S'.ds = [] ∧ 0 ≤ S'.mo ∧ Rp D (S'.bl.map (·.t)) ∧ (∀ t ∈ S'.bl.map (·.t), NameOk t.nm) ∧ ∃ k, Rk (succS D S.hold S.pres ns) (stL (S'.bl.map (·.t))) k ∧ k + i ≤ r)
      ⟨⟨_, _, rfl⟩, bag1, fun a o ha _ => sm1 _ _ ha, S1, st1, fr1, lk.hold, lk.pres, lk.ds.trans hds, by rw [lk.mo]; exact m0, by rw [lk.ts]; exact rp, by rw [lk.ts]; exact nok, r, by rw [lk.ts]; exact rk, by omega⟩ (fun _ _ _ _ _ => trivial) (fun i x σ' H2 hx h => ?_) (fun σ' H2 h => ?_)
    · obtain ⟨⟨o6, o7, rfl⟩, bag2, kp2, S2, st2, of2, e1, e2, e3, e4, rp2, nok2, k, rk2, kr⟩ := h
      obtain ⟨hi, rfl⟩ := nth_rng hx
      have no2b : ∀ {S' : Sc}, (∀ a, own S' a → H a = none) → ¬ own S' b := fun h o => hbn (h b o)
      have l82 := st2.sc.ok.l8
      walk_at "rds"
      intro nl fnl
      have smn := same_new (o := .lst [V.non]) fnl
      have st3 := st2.same smn
      obtain ⟨pdx, ep⟩ := st3.ins
      walk_at "rds"
      refine ⟨_, p1, S2, N, rfl, st3, fun tl H3 ftl sm3 etl => ?_⟩
      walk_at "rds"
      refine ⟨nl, tl, [.non], _, rfl, rfl, sm3 _ _ upd_same, etl, by rw [List.length_map, sortS_length, List.length_map]; exact sz16 (by simp only [List.length_cons, List.length_nil]; omega), fun so fso => ?_⟩
      walk_at "rds"
      have sm4 := (smn.trans sm3).trans (same_new (o := .lst ([V.non] ++ (sortS (S2.bl.map (·.t.nm))).map V.str)) fso)
      have st4 := st2.same sm4
      have bag4 : BagAt (upd H3 so (.lst ([V.non] ++ (sortS (S2.bl.map (·.t.nm))).map V.str))) b c := bag2.move fun a ha => by
        cases y : H2 a with
        | none => exact absurd y ha
        | some o => rw [sm4 _ _ y]
      have eso : (upd H3 so (.lst ([V.non] ++ (sortS (S2.bl.map (·.t.nm))).map V.str))) so = _ := upd_same
      have nsb : so ≠ b := fun z => by
        obtain ⟨x0, x1, x2, cells, eb, _⟩ := bag2
        rw [z] at fso
        rw [(smn.trans sm3) _ _ eb] at fso
        cases fso
      have kp4 : ∀ a o, H a = some o → a ≠ b → (upd H3 so (.lst ([V.non] ++ (sortS (S2.bl.map (·.t.nm))).map V.str))) a = some o := fun a o ha n => sm4 _ _ (kp2 a o ha n)
      generalize upd H3 so (.lst ([V.non] ++ (sortS (S2.bl.map (·.t.nm))).map V.str)) = H4 at *
      refine x_lenL (SqL.of eso) ?_
      walk_at "rds"
      have slen : ([V.non] ++ (sortS (S2.bl.map (·.t.nm))).map V.str).length = S2.bl.length + 1 := by
        rw [List.length_append, List.length_map, sortS_length, List.length_map]
        simp only [List.length_cons, List.length_nil]
        omega
      refine ⟨b, c, _, rfl, bag4, by rw [slen]; omega, by rw [slen]; omega, fun v H5 v0 v1 bag5 bb5 => ?_⟩
      rw [slen] at v1
      have st5 := st4.butbag bag4 bb5 g1b (no2b of2) np1
      have eso5 := bb5 _ _ eso nsb
      have kp5 : ∀ a o, H a = some o → a ≠ b → H5 a = some o := fun a o ha n => bb5 _ _ (kp4 a o ha n) n
      obtain ⟨mv, hmv, hmn⟩ : ∃ mv : Option Str, ([V.non] ++ (sortS (S2.bl.map (·.t.nm))).map V.str)[v.toNat]? = some (movV mv) ∧ ∀ n, mv = some n → n ∈ S2.bl.map (·.t.nm) := by
        by_cases z : v.toNat = 0
        · exact ⟨none, by rw [z]; rfl, fun n h => by cases h⟩
        · have hlt : v.toNat - 1 < (sortS (S2.bl.map (·.t.nm))).length := by
            rw [sortS_length, List.length_map]
            omega
          refine ⟨some ((sortS (S2.bl.map (·.t.nm)))[v.toNat - 1]), ?_, fun n h => ?_⟩
          · rw [List.getElem?_append_right (by simp only [List.length_cons, List.length_nil]; omega), List.getElem?_map]
            simp only [List.length_cons, List.length_nil, Nat.zero_add]
            rw [List.getElem?_eq_getElem hlt]
            rfl
          · rw [← Option.some.inj h]
            exact sortS_mem.mp (List.getElem_mem hlt)
      refine x_ixL (SqL.of eso5) (atI_nat v0 hmv) ?_
      walk_at "rds"
      have sall := st5.all
      refine ⟨_, _, p1, S2, N, mv, rfl, st5, sall, fun a g => ⟨st5.sc.dm a g, fun o => st5.sc.notG o g, fun z => st5.g (z ▸ g)⟩, fun a ha => ?_, nb, e3, e4, fun n hn => ?_, fun S6 H6 kp6 st6 oo6 f1 f2 f3 f4 f5 => ?_⟩
      · by_cases z1 : own S2 a
        · exact .inr (.inl z1)
        · by_cases z2 : a = p1
          · exact .inr (.inr z2)
          · exact .inl ⟨ha, z1, z2⟩
      · obtain ⟨t, ht, et⟩ := List.mem_map.mp (hmn n hn)
        rw [← et]
        exact nok2 t.t (List.mem_map.mpr ⟨t, ht, rfl⟩)
      have keepAll : ∀ a o, H5 a = some o → H a ≠ none → H6 a = some o := fun a o ha hn => by
        refine kp6.g _ _ ⟨by rw [ha]; simp, fun oo => hn (of2 a oo), fun z => hn (z ▸ fp1)⟩ ha
      have kp6' : ∀ a o, H a = some o → a ≠ b → H6 a = some o := fun a o ha n => keepAll a o (kp5 a o ha n) (by rw [ha]; simp)
      have hcn : H c ≠ none := by
        obtain ⟨x0, x1, x2, cells, eb, ec, _⟩ := bag
        rw [ec]; simp
      have bag6 : BagAt H6 b c := bag5.keep fun a o ha hab => keepAll a o ha (hab.elim (fun z => z ▸ hbn) fun z => z ▸ hcn)
      have of6 : ∀ a, own S6 a → H a = none := fun a o => (oo6 a o).elim (of2 a) fun z => by
        cases y : H a with
        | none => rfl
        | some u =>
          by_cases w : a = b
          · obtain ⟨x0, x1, x2, cells, eb, _⟩ := bag5
            rw [w, eb] at z
            cases z
          · rw [kp5 a u y w] at z
            cases z
      rw [e1, e2] at f5
      walk_at "rds"
      refine ⟨_, p1, S6, N, l, ns, rfl, st6, kp6' _ _ el lb, l8, fun H7 sm7 => ?_⟩
      have bag7 : BagAt H7 b c := bag6.move fun a ha => by
        cases y : H6 a with
        | none => exact absurd y ha
        | some o => rw [sm7 _ _ y]
      have kp7 : ∀ a o, H a = some o → a ≠ b → H7 a = some o := fun a o ha n => sm7 _ _ (kp6' a o ha n)
      walk_at "rds"
      rw [f5]
      refine k_if (fun hc => ?_) (fun hc => ?_)
      · walk_at "rds"
        exact q H7 bag7 kp7
      · have hall : allIn ns (stepL S.hold S.pres mv (S2.bl.map (·.t))) = true := by
          cases y : allIn ns (stepL S.hold S.pres mv (S2.bl.map (·.t))) with
          | true => rfl
          | false => rw [y] at hc; cases hc
        obtain ⟨w, hw, ew⟩ := way_of rp2 (fun n hn => by
          have := hmn n hn
          rw [List.map_map]
          exact this) hall
        obtain ⟨m, hm, hmk⟩ := rk2.less hw
        rw [ew] at hm
        walk_at "rds"
        refine ⟨⟨_, _, rfl⟩, bag7, kp7, S6, st6.same sm7, of6, f1.trans e1, f2.trans e2, f3, f4, by rw [f5]; exact step_rp rp2, fun t ht => ?_, m, by rw [f5]; exact hm, by omega⟩
        rw [f5] at ht
        obtain ⟨u, hu, eu⟩ := List.mem_map.mp ((step_sub S.hold S.pres mv (S2.bl.map (·.t))).subset (List.mem_map.mpr ⟨t, ht, rfl⟩))
        rw [← eu]
        exact nok2 u hu
    · obtain ⟨_, _, _, S2, _, _, _, _, _, _, _, _, k, rk2, kr⟩ := h
      have := rk2.pos
      rw [List.length_map, List.length_range] at kr
      omega
end
end Wh

/-! ## L7 -/
set_option Elab.async false
set_option linter.all false
set_option maxRecDepth 100000
set_option maxHeartbeats 4000000


namespace Wh
open PySem PySem.Spec PyProof.Rows L2
section
variable {P : Program} {wo : World} {K : PySem.W.Frag} {mg : Str → Option Value} {base : Heap}
/-- the law's bag, laid -/
def spBag (K : PySem.W.Frag) : Sp := fun vs H Q _ => ∃ (a : Addr) (cells : List Int), vs = [.ref a] ∧ SqL K H a (cells.map V.int) ∧ ∀ b c H', Same H H' → H b = none → BagAt H' b c → Q (.ref b) H'
theorem cut_to (xs : List V) (k : Nat) : cutV xs none (some (k : Int)) = xs.take k := by
  unfold cutV
  rw [HT.sIx_none, HT.sIx_nat, List.drop_zero, Nat.sub_zero]
  by_cases h : k ≤ xs.length
  · rw [Nat.min_eq_left h]
  · rw [Nat.min_eq_right (by omega), List.take_of_length_le (Nat.le_refl _), List.take_of_length_le (by omega)]
theorem abs_nn (i : Int) : 0 ≤ (if i < 0 then -i else i) := by split <;> omega
theorem ok_law_bag (T : Tx K mg) : FnOk P wo K mg base CX0 1 (He.ga K "_law_bag") (fdA K (He.ga K "_law_bag")) ["_law_script"] (spBag K) := by
  refine okD (F_law_bag T) sc_law_bag (fun vs H Q E h => ?_) (fun cdv A outer s H vs Q E hr h => ?_)
  · obtain ⟨a, cells, rfl, _⟩ := h
    rfl
  · obtain ⟨a, cells, rfl, ea, q⟩ := h
    refine ⟨_, (pss_one (ps_ret (pe_lst (pa_cons pe_int (pa_cons pe_int (pa_cons pe_int (pa_cons (pe_lc (own := [("_law_cell", 1)]) rfl sc_law_bag.nd (pi_list (pe_slice (sl_listK (K := K)) (pv 0) po_none (po_some pe_int))) (blkOk_by (N := ["_law_script", "_law_cell"]) (sc := defScope s_law_bag) (by decide +kernel)) (fun _ _ _ _ _ => (pg_name (i := 1) sc_law_bag.nd rfl (Or.inl rfl))) (fun _ _ _ _ _ => pts_nil) (fun _ _ _ _ _ => (pe_callB call_abs (by rfl) (z_abs T) (by decide +kernel) (pa_cons (pv 1) pa_nil)))) pa_nil))))))), ?_⟩
    try dsimp only [cxK, cxP, cxW]
    walk_at "rds"
    refine ⟨a, _, rfl, ea, fun p fp => ?_⟩
    have ep : (upd H p (.lst (cutV (cells.map V.int) none (some 63)))) p = some (.lst ((cells.take 63).map V.int)) := by
      rw [upd_same, show cutV (cells.map V.int) none (some 63) = (cells.map V.int).take 63 from cut_to _ 63, List.map_take]
    have smp := same_new (o := .lst (cutV (cells.map V.int) none (some 63))) fp
    generalize upd H p (.lst (cutV (cells.map V.int) none (some 63))) = H1 at *
    walk_at "rds"
    refine k_iL (SqL.of ep) ?_
    refine k_lcP (itx_l K p ((cells.take 63).map V.int)) (fun v => match v with
      | .int i => some (.int (if i < 0 then -i else i))
      | _ => none) (fun H' k => SqL.of (k _ _ ep)) (by rw [List.length_map, List.length_take]; exact sz8 (by omega)) (fun v H' N' hv k hN => ?_) (fun c H2 fc k ec => ?_)
    · obtain ⟨i, hi, rfl⟩ := List.mem_map.mp hv
      refine el_name rfl ?_
      walk_at "rds"
      exact ⟨i, rfl, hN _ (Same.refl _)⟩
    · have ec2 : H2 c = some (.lst (((cells.take 63).map fun i => if i < 0 then -i else i).map V.int)) := by
        rw [ec]
        congr 2
        rw [List.filterMap_map, List.map_map]
        clear ec ep
        induction cells.take 63 with
        | nil => rfl
        | cons i r ih =>
          rw [List.filterMap_cons, List.map_cons, ← ih]
          rfl
      walk_at "rds"
      intro b fb
      have nbc : c ≠ b := ne_of_none ec2 fb
      refine q b c _ ((smp.trans k).trans (same_new fb)) (Same.free (smp.trans k) fb) ⟨0, 1234567891, 0, _, upd_same, (upd_ne nbc).trans ec2, nbc.symm, by decide, by decide, by decide, by decide, fun n hn => ?_, by rw [List.length_map, List.length_take]; omega⟩
      obtain ⟨i, _, rfl⟩ := List.mem_map.mp hn
      exact abs_nn i
end
end Wh

/-! ## L8 -/
set_option Elab.async false
set_option linter.all false
set_option maxRecDepth 100000
set_option maxHeartbeats 4000000


namespace Wh
open PySem PySem.Spec PyProof.Rows L2
section
variable {P : Program} {wo : World} {K : PySem.W.Frag} {mg : Str → Option Value} {base : Heap}
theorem BagAt.same {H H' : Hp} {b c : Addr} (h : BagAt H b c) (k : Same H H') : BagAt H' b c := h.keep fun a o e _ => k a o e
theorem BagAt.ne {H : Hp} {b c a : Addr} (h : BagAt H b c) (n : H a = none) : a ≠ b := fun z => by
  obtain ⟨x0, x1, x2, cells, eb, _⟩ := h
  rw [z, eb] at n
  cases n
theorem BagAt.tup {H : Hp} {b c a : Addr} {xs : List V} (h : BagAt H b c) (e : H a = some (.tup xs)) : a ≠ b := fun z => by
  obtain ⟨x0, x1, x2, cells, eb, _⟩ := h
  rw [z, eb] at e
  cases e
def spSteps : Sp := fun vs H Q _ => ∃ (b c : Addr) (m : Nat), vs = [.ref b, .int (m : Nat)] ∧ BagAt H b c ∧ m ≤ 24 ∧ ∀ l ps H', H l = none → StepsAt H' l ps → ps.length = m → (∀ p ∈ ps, 1 ≤ p.1 ∧ p.1 ≤ 9 ∧ 0 ≤ p.2 ∧ p.2 ≤ 9) → BagAt H' b c → ButBag b H H' → Q (.ref l) H'
theorem ok_law_steps (T : Tx K mg) : FnOk P wo K mg base CX0 2 (He.ga K "_law_steps") (fdA K (He.ga K "_law_steps")) ["_law_bag_here", "_law_many"] (spSteps) := by
  refine okD (F_law_steps T) sc_law_steps (fun vs H Q E h => ?_) (fun cdv A outer s H vs Q E hr h => ?_)
  · obtain ⟨b, c, m, rfl, _⟩ := h
    rfl
  · obtain ⟨b, c, m, rfl, bag, m24, q⟩ := h
    refine ⟨_, (pss_cons (ps_set (i := 2) sc_law_steps.nd rfl (Or.inl rfl) (pe_lst pa_nil))
 (pss_cons (ps_for PassesOwn.never rfl (pi_range1 rfl (z_range T) (pa_cons (pv 1) pa_nil)) (pg_name (i := 3) sc_law_steps.nd rfl (Or.inl rfl)) (pss_cons (ps_set (i := 4) sc_law_steps.nd rfl (Or.inl rfl) (pe_ix (ix_listK (K := K)) (pe_lst (pa_cons pe_int (pa_cons pe_int (pa_cons (pe_op op_add pe_int (pe_call (ok_law_take (P := P) (wo := wo) (K := K) T) (hr.mono (by decide)) rfl (g_law_take T) (F_law_take T).kp (b_law_take T) .nil pass0 (pa_cons (pv 0) (pa_cons pe_int pa_nil)))) (pa_cons pe_int pa_nil))))) (pe_call (ok_law_take (P := P) (wo := wo) (K := K) T) (hr.mono (by decide)) rfl (g_law_take T) (F_law_take T).kp (b_law_take T) .nil pass0 (pa_cons (pv 0) (pa_cons pe_int pa_nil))) (fun _ _ => rfl)))
 (pss_one (ps_expr (pe_bm PySem.F.plainAttrs_list PySem.F.slot_list_append PySem.F.type_list_append mt_append (pv 2) (pa_cons (pe_tup (pa_cons (pv 4) (pa_cons (pe_call (ok_law_take (P := P) (wo := wo) (K := K) T) (hr.mono (by decide)) rfl (g_law_take T) (F_law_take T).kp (b_law_take T) .nil pass0 (pa_cons (pv 0) (pa_cons pe_int pa_nil))) pa_nil))) pa_nil))))))
 (pss_one (ps_ret (pv 2))))), ?_⟩
    try dsimp only [cxK, cxP, cxW]
    walk_at "rds"
    intro fl ffl
    have sm1 := same_new (o := .lst []) ffl
    have bag1 := bag.same sm1
    have nfb : fl ≠ b := bag.ne ffl
    walk_at "rds"
    refine k_iR (by omega) (by omega) ?_
    rw [Int.toNat_natCast]
    refine k_for (itx_r 0 m) (fun i σ' H' => (∃ o3 o4, σ' = [some (.ref b), some (.int (m : Nat)), some (.ref fl), o3, o4]) ∧ BagAt H' b c ∧ ButBag b H H' ∧ ∃ as ps, H' fl = some (.lst (as.map V.ref)) ∧ Paired (fun a (p : Int × Int) => H' a = some (.tup [.int p.1, .int p.2])) as ps ∧ ps.length = i ∧ (∀ p ∈ ps, 1 ≤ p.1 ∧ p.1 ≤ 9 ∧ 0 ≤ p.2 ∧ p.2 ≤ 9))
      ⟨⟨_, _, rfl⟩, bag1, ButBag.same sm1, [], [], upd_same, .nil, rfl, (fun p hp => nomatch hp)⟩ (fun _ _ _ _ _ => trivial) (fun i x σ' H2 hx h => ?_) (fun σ' H2 h => ?_)
    · obtain ⟨⟨o3, o4, rfl⟩, bag2, bb2, as, ps, efl, pp, pl, pok⟩ := h
      obtain ⟨hi, rfl⟩ := nth_rng hx
      have al : as.length = ps.length := Paired.length pp
      walk_at "rds"
      refine ⟨b, c, 3, rfl, bag2, by decide, by decide, fun v1 H3 a0 a1 bag3 bb3 => ?_⟩
      walk_at "rds"
      intro dl fdl
      have sm4 := same_new (o := .lst [V.int 1, V.int 1, V.int (1 + v1), V.int 9]) fdl
      have bag4 := bag3.same sm4
      have ndb : dl ≠ b := bag3.ne fdl
      have edl : (upd H3 dl (.lst [V.int 1, V.int 1, V.int (1 + v1), V.int 9])) dl = some (.lst ([1, 1, 1 + v1, 9].map V.int)) := upd_same
      have bb4 := (bb2.trans bb3).trans (ButBag.same sm4)
      have efl4 := sm4 _ _ (bb3 _ _ efl nfb)
      have pp4 := Paired.mapP pp fun a p z => sm4 _ _ (bb3 _ _ z (bag2.tup z))
      generalize upd H3 dl (.lst [V.int 1, V.int 1, V.int (1 + v1), V.int 9]) = H4 at *
      walk_at "rds"
      refine ⟨b, c, 4, rfl, bag4, by decide, by decide, fun v2 H5 c0 c1 bag5 bb5 => ?_⟩
      have edl5 := bb5 _ _ edl ndb
      have hv2 : v2.toNat < 4 := by omega
      have hix : ([1, 1, 1 + v1, 9] : List Int)[v2.toNat]? = some (([1, 1, 1 + v1, 9] : List Int)[v2.toNat]'(by simpa using hv2)) := List.getElem?_eq_getElem _
      have hby : ∀ z ∈ ([1, 1, 1 + v1, 9] : List Int), 1 ≤ z ∧ z ≤ 9 := fun z hz => by
        simp only [List.mem_cons, List.not_mem_nil, or_false] at hz
        omega
      have hb2 := hby _ (List.mem_of_getElem? hix)
      generalize ([1, 1, 1 + v1, 9] : List Int)[v2.toNat]'(by simpa using hv2) = by_ at *
      refine x_ixL (SqL.of edl5) (atI_nat c0 (by rw [List.getElem?_map, hix]; rfl)) ?_
      walk_at "rds"
      refine k_bmL (bb5 _ _ efl4 nfb) ?_
      walk_at "rds"
      refine ⟨b, c, 3, rfl, bag5, by decide, by decide, fun v3 H6 d0 d1 bag6 bb6 => ?_⟩
      walk_at "rds"
      intro r fr
      have efl6 := bb6 _ _ (bb5 _ _ efl4 nfb) nfb
      have nfr : fl ≠ r := ne_of_none efl6 fr
      refine k_append (xs := as.map V.ref) ((upd_ne nfr).trans efl6) (by rw [List.length_map]; exact sz8 (by omega)) ?_
      walk_at "rds"
      have smr := same_new (o := .tup [V.int by_, V.int v3]) fr
      have bag7 := bag6.same smr
      have tupk : ∀ a xs, (upd H6 r (.tup [V.int by_, V.int v3])) a = some (.tup xs) → (upd (upd H6 r (.tup [V.int by_, V.int v3])) fl (.lst (as.map V.ref ++ [V.ref r]))) a = some (.tup xs) := fun a xs z => (upd_ne (fun (y : a = fl) => by rw [y, smr _ _ efl6] at z; cases z)).trans z
      have cfl : c ≠ fl := fun z => by
        obtain ⟨_, _, _, _, _, ec, _⟩ := bag
        rw [z, ffl] at ec
        cases ec
      refine ⟨⟨_, _, rfl⟩, bag7.keep fun a o e hab => (upd_ne (fun (y : a = fl) => hab.elim (fun z => nfb (y ▸ z)) fun z => cfl (by rw [← z, y]))).trans e, fun a o e n => (upd_ne (ne_of_none e ffl)).trans (smr _ _ (bb6 _ _ (bb5 _ _ (bb4 _ _ e n) n) n)), as ++ [r], ps ++ [(by_, v3)], by rw [upd_same, List.map_append]; rfl, Paired.snoc (Paired.mapP pp4 fun a p z => tupk a _ (smr _ _ (bb6 _ _ (bb5 _ _ z (bag4.tup z)) (bag5.tup (bb5 _ _ z (bag4.tup z)))))) (tupk r _ upd_same), by rw [List.length_append, pl]; rfl, fun p hp => ?_⟩
      rcases List.mem_append.mp hp with z | z
      · exact pok p z
      · rw [List.mem_singleton.mp z]
        exact ⟨hb2.1, hb2.2, d0, by show v3 ≤ 9; omega⟩
    · obtain ⟨⟨o3, o4, rfl⟩, bag2, bb2, as, ps, efl, pp, pl, pok⟩ := h
      walk_at "rds"
      rw [List.length_map, List.length_range] at pl
      exact q fl ps H2 ffl ⟨as, efl, pp⟩ pl pok bag2 bb2
end
end Wh

/-! ## L9 -/
set_option Elab.async false
set_option linter.all false
set_option maxRecDepth 100000
set_option maxHeartbeats 4000000


namespace Wh
open PySem PySem.Spec PyProof.Rows L2
section
variable {P : Program} {wo : World} {K : PySem.W.Frag} {mg : Str → Option Value} {base : Heap}
theorem StepsAt.bag {H H' : Hp} {b c l : Addr} {ps : List (Int × Int)} (h : StepsAt H l ps) (nb : l ≠ b) (bag : BagAt H b c) (k : ButBag b H H') : StepsAt H' l ps := by
  obtain ⟨as, e, p⟩ := h
  exact ⟨as, k _ _ e nb, Paired.mapP p fun a z y => k _ _ y (bag.tup y)⟩
theorem rep_flat {α : Type} (x : α) : ∀ k : Nat, (List.replicate k [x]).flatten = List.replicate k x
  | 0 => rfl
  | k + 1 => by rw [List.replicate_succ, List.flatten_cons, rep_flat x k]; rfl
theorem rep_paired {H : Hp} {t : Addr} {z : Int × Int} (h : H t = some (.tup [.int z.1, .int z.2])) : ∀ k : Nat, Paired (fun a (p : Int × Int) => H a = some (.tup [.int p.1, .int p.2])) (List.replicate k t) (List.replicate k z)
  | 0 => .nil
  | k + 1 => .cons h (rep_paired h k)
theorem paired_set {α β : Type} {F : α → β → Prop} {a : α} {b : β} (f : F a b) : ∀ {xs : List α} {ys : List β} (j : Nat), Paired F xs ys → Paired F (xs.set j a) (ys.set j b)
  | _, _, _, .nil => .nil
  | _, _, 0, .cons _ t => .cons f t
  | _, _, j + 1, .cons r t => .cons r (paired_set f j t)
/-- one of some whole numbers, drawn -/
theorem pick_at {xs : List Int} {v : Int} (h0 : 0 ≤ v) (h1 : v < xs.length) : ∃ z ∈ xs, atI (xs.map V.int) v = some (.int z) := by
  have hx : xs[v.toNat]? = some (xs[v.toNat]'(by omega)) := List.getElem?_eq_getElem (by omega)
  exact ⟨_, List.getElem_mem _, atI_nat h0 (by rw [List.getElem?_map, hx]; rfl)⟩
end
end Wh

/-! ## L10 -/
set_option Elab.async false
set_option linter.all false
set_option maxRecDepth 100000
set_option maxHeartbeats 4000000


namespace Wh
open PySem PySem.Spec PyProof.Rows L2
section
variable {P : Program} {wo : World} {K : PySem.W.Frag} {mg : Str → Option Value} {base : Heap}
/-- a plan drawn -/
def spPlan : Sp := fun vs H Q _ => ∃ b c, vs = [.ref b, .int 7] ∧ BagAt H b c ∧ ∀ a w H', PlanAt H' a w → w.Ok → w.cap ≤ 7 → (∀ p ∈ w.tl, p.2 ≤ 9) → BagAt H' b c → ButBag b H H' → Q (.ref a) H'
theorem ok_law_plan (T : Tx K mg) : FnOk P wo K mg base CX0 3 (He.ga K "_law_plan") (fdA K (He.ga K "_law_plan")) ["_law_bag_here", "_law_bound"] (spPlan) := by
  refine okD (F_law_plan T) sc_law_plan (fun vs H Q E h => ?_) (fun cdv A outer s H vs Q E hr h => ?_)
  · obtain ⟨b, c, rfl, _⟩ := h
    rfl
  · obtain ⟨b, c, rfl, bag, q⟩ := h
    refine ⟨_, (pss_cons (ps_set (i := 2) sc_law_plan.nd rfl (Or.inl rfl) (pe_call (ok_law_steps (P := P) (wo := wo) (K := K) T) (hr.mono (by decide)) rfl (g_law_steps T) (F_law_steps T).kp (b_law_steps T) .nil pass0 (pa_cons (pv 0) (pa_cons (pe_ix (ix_listK (K := K)) (pe_lst (pa_cons pe_int (pa_cons pe_int (pa_cons pe_int (pa_cons pe_int pa_nil))))) (pe_call (ok_law_take (P := P) (wo := wo) (K := K) T) (hr.mono (by decide)) rfl (g_law_take T) (F_law_take T).kp (b_law_take T) .nil pass0 (pa_cons (pv 0) (pa_cons pe_int pa_nil))) (fun _ _ => rfl)) pa_nil))))
 (pss_cons (ps_set (i := 3) sc_law_plan.nd rfl (Or.inl rfl) (pe_call (ok_law_steps (P := P) (wo := wo) (K := K) T) (hr.mono (by decide)) rfl (g_law_steps T) (F_law_steps T).kp (b_law_steps T) .nil pass0 (pa_cons (pv 0) (pa_cons (pe_ix (ix_listK (K := K)) (pe_lst (pa_cons pe_int (pa_cons pe_int (pa_cons pe_int (pa_cons pe_int pa_nil))))) (pe_call (ok_law_take (P := P) (wo := wo) (K := K) T) (hr.mono (by decide)) rfl (g_law_take T) (F_law_take T).kp (b_law_take T) .nil pass0 (pa_cons (pv 0) (pa_cons pe_int pa_nil))) (fun _ _ => rfl)) pa_nil))))
 (pss_cons (ps_set (i := 4) sc_law_plan.nd rfl (Or.inl rfl) (pe_op op_add pe_int (pe_call (ok_law_take (P := P) (wo := wo) (K := K) T) (hr.mono (by decide)) rfl (g_law_take T) (F_law_take T).kp (b_law_take T) .nil pass0 (pa_cons (pv 0) (pa_cons (pv 1) pa_nil)))))
 (C8.pss_cut (ps_if (pt_cmpR op_eq (pe_call (ok_law_take (P := P) (wo := wo) (K := K) T) (hr.mono (by decide)) rfl (g_law_take T) (F_law_take T).kp (b_law_take T) .nil pass0 (pa_cons (pv 0) (pa_cons pe_int pa_nil))) pe_int (nomark _)) (pss_cons (ps_set (i := 4) sc_law_plan.nd rfl (Or.inl rfl) (pe_callB (call_min2 rfl) (by rfl) (z_min T) (by decide +kernel) (pa_cons (pv 4) (pa_cons (pe_op op_add pe_int (pe_call (ok_law_take (P := P) (wo := wo) (K := K) T) (hr.mono (by decide)) rfl (g_law_take T) (F_law_take T).kp (b_law_take T) .nil pass0 (pa_cons (pv 0) (pa_cons pe_int pa_nil)))) pa_nil))))
 (pss_cons (ps_set (i := 2) sc_law_plan.nd rfl (Or.inl rfl) (pe_op op_rep (pe_lst (pa_cons (pe_tup (pa_cons pe_int (pa_cons pe_int pa_nil))) pa_nil)) (pe_call (ok_law_take (P := P) (wo := wo) (K := K) T) (hr.mono (by decide)) rfl (g_law_take T) (F_law_take T).kp (b_law_take T) .nil pass0 (pa_cons (pv 0) (pa_cons (pe_ix (ix_listK (K := K)) (pe_lst (pa_cons pe_int (pa_cons pe_int pa_nil))) (pe_call (ok_law_take (P := P) (wo := wo) (K := K) T) (hr.mono (by decide)) rfl (g_law_take T) (F_law_take T).kp (b_law_take T) .nil pass0 (pa_cons (pv 0) (pa_cons pe_int pa_nil))) (fun _ _ => rfl)) pa_nil)))))
 (pss_cons (ps_set (i := 3) sc_law_plan.nd rfl (Or.inl rfl) (pe_op op_rep (pe_lst (pa_cons (pe_tup (pa_cons pe_int (pa_cons pe_int pa_nil))) pa_nil)) (pe_ix (ix_listK (K := K)) (pe_lst (pa_cons pe_int (pa_cons pe_int (pa_cons pe_int pa_nil)))) (pe_call (ok_law_take (P := P) (wo := wo) (K := K) T) (hr.mono (by decide)) rfl (g_law_take T) (F_law_take T).kp (b_law_take T) .nil pass0 (pa_cons (pv 0) (pa_cons pe_int pa_nil))) (fun _ _ => rfl))))
 (pss_one (ps_asg (pe_tup (pa_cons (pe_op op_add pe_int (pe_call (ok_law_take (P := P) (wo := wo) (K := K) T) (hr.mono (by decide)) rfl (g_law_take T) (F_law_take T).kp (b_law_take T) .nil pass0 (pa_cons (pv 0) (pa_cons pe_int pa_nil)))) (pa_cons (pe_call (ok_law_take (P := P) (wo := wo) (K := K) T) (hr.mono (by decide)) rfl (g_law_take T) (F_law_take T).kp (b_law_take T) .nil pass0 (pa_cons (pv 0) (pa_cons pe_int pa_nil))) pa_nil))) (pg_sub (pv 3) (pe_call (ok_law_take (P := P) (wo := wo) (K := K) T) (hr.mono (by decide)) rfl (g_law_take T) (F_law_take T).kp (b_law_take T) .nil pass0 (pa_cons (pv 0) (pa_cons (pe_callB (call_len_seqK (K := K)) (by rfl) (z_len T) (by decide +kernel) (pa_cons (pv 3) pa_nil)) pa_nil))) set_list)))))) pss_nil)
 (pss_one (ps_ret (pe_tup (pa_cons (pv 2) (pa_cons (pv 3) (pa_cons (pv 4) (pa_cons (pe_call (ok_law_take (P := P) (wo := wo) (K := K) T) (hr.mono (by decide)) rfl (g_law_take T) (F_law_take T).kp (b_law_take T) .nil pass0 (pa_cons (pv 0) (pa_cons (pe_op op_add (pv 4) pe_int) pa_nil))) (pa_cons (pe_cmpR op_eq (pe_call (ok_law_take (P := P) (wo := wo) (K := K) T) (hr.mono (by decide)) rfl (g_law_take T) (F_law_take T).kp (b_law_take T) .nil pass0 (pa_cons (pv 0) (pa_cons pe_int pa_nil))) pe_int (nomark _)) pa_nil)))))))))))), ?_⟩
    try dsimp only [cxK, cxP, cxW]
    walk_at "rds"
    intro d1 fd1
    have sm1 := same_new (o := .lst [V.int 0, V.int 0, V.int 1, V.int 3]) fd1
    have bag1 := bag.same sm1
    have n1 : d1 ≠ b := bag.ne fd1
    have bb1 := ButBag.same (b := b) sm1
    have ed1 : (upd H d1 (.lst [V.int 0, V.int 0, V.int 1, V.int 3])) d1 = some (.lst (([0, 0, 1, 3] : List Int).map V.int)) := upd_same
    generalize upd H d1 (.lst [V.int 0, V.int 0, V.int 1, V.int 3]) = H1 at *
    walk_at "rds"
    refine ⟨b, c, 4, rfl, bag1, by decide, by decide, fun v1 H2 p0 p1 bag2 bb2 => ?_⟩
    obtain ⟨z1, hz1, ez1⟩ := pick_at (xs := [0, 0, 1, 3]) p0 (by simpa using p1)
    refine x_ixL (SqL.of (bb2 _ _ ed1 n1)) ez1 ?_
    have z1b : 0 ≤ z1 ∧ z1 ≤ 3 := by
      simp only [List.mem_cons, List.not_mem_nil, or_false] at hz1
      omega
    obtain ⟨m1, rfl⟩ : ∃ m : Nat, z1 = (m : Int) := ⟨z1.toNat, by omega⟩
    walk_at "rds"
    refine ⟨b, c, m1, rfl, bag2, by omega, fun hl ps H3 fhl sps lps pok bag3 bb3 => ?_⟩
    have nhl : hl ≠ b := bag2.ne fhl
    have bb03 := (bb1.trans bb2).trans bb3
    walk_at "rds"
    intro d2 fd2
    have sm4 := same_new (o := .lst [V.int 1, V.int 1, V.int 2, V.int 3]) fd2
    have bag4 := bag3.same sm4
    have n2 : d2 ≠ b := bag3.ne fd2
    have sps4 := sps.same sm4
    have bb4 := bb03.trans (ButBag.same sm4)
    have ed2 : (upd H3 d2 (.lst [V.int 1, V.int 1, V.int 2, V.int 3])) d2 = some (.lst (([1, 1, 2, 3] : List Int).map V.int)) := upd_same
    generalize upd H3 d2 (.lst [V.int 1, V.int 1, V.int 2, V.int 3]) = H4 at *
    walk_at "rds"
    refine ⟨b, c, 4, rfl, bag4, by decide, by decide, fun v2 H5 p2 p3 bag5 bb5 => ?_⟩
    obtain ⟨z2, hz2, ez2⟩ := pick_at (xs := [1, 1, 2, 3]) p2 (by simpa using p3)
    refine x_ixL (SqL.of (bb5 _ _ ed2 n2)) ez2 ?_
    have z2b : 1 ≤ z2 ∧ z2 ≤ 3 := by
      simp only [List.mem_cons, List.not_mem_nil, or_false] at hz2
      omega
    obtain ⟨m2, rfl⟩ : ∃ m : Nat, z2 = (m : Int) := ⟨z2.toNat, by omega⟩
    have sps5 := sps4.bag nhl bag4 bb5
    walk_at "rds"
    refine ⟨b, c, m2, rfl, bag5, by omega, fun tl qs H6 ftl sqs lqs qok bag6 bb6 => ?_⟩
    have ntl : tl ≠ b := bag5.ne ftl
    have sps6 := sps5.bag nhl bag5 bb6
    walk_at "rds"
    refine ⟨b, c, 7, rfl, bag6, by decide, by decide, fun v3 H7 p4 p5 bag7 bb7 => ?_⟩
    have sps7 := sps6.bag nhl bag6 bb7
    have sqs7 := sqs.bag ntl bag6 bb7
    have bb07 := ((bb4.trans bb5).trans bb6).trans bb7
    walk_at "rds"
    refine ⟨fun σ' H' => (∃ hl' tl' top, σ' = [some (.ref b), some (.int 7), some (.ref hl'), some (.ref tl'), some (.int top)] ∧ 1 ≤ top ∧ top ≤ 7 ∧ hl' ≠ b ∧ tl' ≠ b ∧ ∃ ps qs, StepsAt H' hl' ps ∧ StepsAt H' tl' qs ∧ ps.length ≤ 24 ∧ TailLen qs.length ∧ (∀ p ∈ ps, StepOk p) ∧ ∀ p ∈ qs, StepOk p ∧ p.2 ≤ 9) ∧ BagAt H' b c ∧ ButBag b H H', ?_, ?_⟩
    · walk_at "rds"
      refine ⟨b, c, 6, rfl, bag7, by decide, by decide, fun v4 H8 p6 p7 bag8 bb8 => ?_⟩
      have sps8 := sps7.bag nhl bag7 bb8
      have sqs8 := sqs7.bag ntl bag7 bb8
      walk_at "rds"
      refine k_if (fun hc => ?_) (fun hc => ?_)
      · walk_at "rds"
        refine ⟨b, c, 3, rfl, bag8, by decide, by decide, fun v5 H9 q0 q1 bag9 bb9 => ?_⟩
        walk_at "rds"
        refine ⟨_, _, rfl, ?_⟩
        rw [min_if]
        walk_at "rds"
        intro t1 ft1
        have smt := same_new (o := .tup [V.int 1, V.int 0]) ft1
        have et1 : (upd H9 t1 (.tup [V.int 1, V.int 0])) t1 = some (.tup [V.int 1, V.int 0]) := upd_same
        have bagA := bag9.same smt
        have bbA := ((bb07.trans bb8).trans bb9).trans (ButBag.same smt)
        generalize upd H9 t1 (.tup [V.int 1, V.int 0]) = HA at *
        walk_at "rds"
        intro g1 fg1
        have smg := same_new (o := .lst [V.ref t1]) fg1
        have eg1 : (upd HA g1 (.lst [V.ref t1])) g1 = some (.lst [V.ref t1]) := upd_same
        have ng1 : g1 ≠ b := bagA.ne fg1
        have bagB := bagA.same smg
        have etB := smg _ _ et1
        have bbB := bbA.trans (ButBag.same smg)
        generalize upd HA g1 (.lst [V.ref t1]) = HB at *
        walk_at "rds"
        intro g2 fg2
        have smh := same_new (o := .lst [V.int 2, V.int 25]) fg2
        have eg2 : (upd HB g2 (.lst [V.int 2, V.int 25])) g2 = some (.lst (([2, 25] : List Int).map V.int)) := upd_same
        have ng2 : g2 ≠ b := bagB.ne fg2
        have bagC := bagB.same smh
        have etC := smh _ _ etB
        have egC := smh _ _ eg1
        have bbC := bbB.trans (ButBag.same smh)
        generalize upd HB g2 (.lst [V.int 2, V.int 25]) = HC at *
        walk_at "rds"
        refine ⟨b, c, 2, rfl, bagC, by decide, by decide, fun v6 HD r0 r1 bagD bbD => ?_⟩
        obtain ⟨z6, hz6, ez6⟩ := pick_at (xs := [2, 25]) r0 (by simpa using r1)
        refine x_ixL (SqL.of (bbD _ _ eg2 ng2)) ez6 ?_
        have z6b : 2 ≤ z6 ∧ z6 ≤ 25 := by
          simp only [List.mem_cons, List.not_mem_nil, or_false] at hz6
          omega
        walk_at "rds"
        refine ⟨b, c, z6, rfl, bagD, by omega, by omega, fun v7 HE u0 u1 bagE bbE => ?_⟩
        have etE := bbE _ _ (bbD _ _ etC (bagC.tup etC)) (bagD.tup (bbD _ _ etC (bagC.tup etC)))
        have egE := bbE _ _ (bbD _ _ egC ng1) ng1
        walk_at "rds"
        refine ⟨g1, v7, [.ref t1], rfl, rfl, egE, by omega, by omega, sz16 (by simp only [List.length_cons, List.length_nil]; omega), fun hl2 fh2 => ?_⟩
        rw [rep_flat]
        have smF := same_new (o := .lst (List.replicate v7.toNat (V.ref t1))) fh2
        have nh2 : hl2 ≠ b := bagE.ne fh2
        have bagF := bagE.same smF
        have etF := smF _ _ etE
        have ehF : (upd HE hl2 (.lst (List.replicate v7.toNat (V.ref t1)))) hl2 = some (.lst ((List.replicate v7.toNat t1).map V.ref)) := by rw [upd_same, List.map_replicate]
        have bbF := ((bbC.trans bbD).trans bbE).trans (ButBag.same smF)
        generalize upd HE hl2 (.lst (List.replicate v7.toNat (V.ref t1))) = HF at *
        have sF : StepsAt HF hl2 (List.replicate v7.toNat (1, 0)) := ⟨_, ehF, rep_paired etF _⟩
        walk_at "rds"
        intro t2 ft2
        have smG := same_new (o := .tup [V.int 1, V.int 0]) ft2
        have etG : (upd HF t2 (.tup [V.int 1, V.int 0])) t2 = some (.tup [V.int 1, V.int 0]) := upd_same
        have bagG := bagF.same smG
        have sG := sF.same smG
        have bbG := bbF.trans (ButBag.same smG)
        generalize upd HF t2 (.tup [V.int 1, V.int 0]) = HG at *
        walk_at "rds"
        intro g3 fg3
        have smI := same_new (o := .lst [V.ref t2]) fg3
        have egI : (upd HG g3 (.lst [V.ref t2])) g3 = some (.lst [V.ref t2]) := upd_same
        have ng3 : g3 ≠ b := bagG.ne fg3
        have bagI := bagG.same smI
        have etI := smI _ _ etG
        have sI := sG.same smI
        have bbI := bbG.trans (ButBag.same smI)
        generalize upd HG g3 (.lst [V.ref t2]) = HI at *
        walk_at "rds"
        intro g4 fg4
        have smJ := same_new (o := .lst [V.int 8, V.int 12, V.int 24]) fg4
        have egJ : (upd HI g4 (.lst [V.int 8, V.int 12, V.int 24])) g4 = some (.lst (([8, 12, 24] : List Int).map V.int)) := upd_same
        have ng4 : g4 ≠ b := bagI.ne fg4
        have bagJ := bagI.same smJ
        have etJ := smJ _ _ etI
        have egJ3 := smJ _ _ egI
        have sJ := sI.same smJ
        have bbJ := bbI.trans (ButBag.same smJ)
        generalize upd HI g4 (.lst [V.int 8, V.int 12, V.int 24]) = HJ at *
        walk_at "rds"
        refine ⟨b, c, 3, rfl, bagJ, by decide, by decide, fun v8 HK w0 w1 bagK bbK => ?_⟩
        obtain ⟨z8, hz8, ez8⟩ := pick_at (xs := [8, 12, 24]) w0 (by simpa using w1)
        refine x_ixL (SqL.of (bbK _ _ egJ ng4)) ez8 ?_
        have z8b : z8 = 8 ∨ z8 = 12 ∨ z8 = 24 := by
          simpa using hz8
        have etK := bbK _ _ etJ (bagJ.tup etJ)
        have egK := bbK _ _ egJ3 ng3
        have sK := sJ.bag nh2 bagJ bbK
        walk_at "rds"
        refine ⟨g3, z8, [.ref t2], rfl, rfl, egK, by omega, by omega, sz16 (by simp only [List.length_cons, List.length_nil]; omega), fun tl2 ftl2 => ?_⟩
        rw [rep_flat]
        have smL := same_new (o := .lst (List.replicate z8.toNat (V.ref t2))) ftl2
        have ntl2 : tl2 ≠ b := bagK.ne ftl2
        have bagL := bagK.same smL
        have etL := smL _ _ etK
        have sL := sK.same smL
        have ehL : (upd HK tl2 (.lst (List.replicate z8.toNat (V.ref t2)))) tl2 = some (.lst ((List.replicate z8.toNat t2).map V.ref)) := by rw [upd_same, List.map_replicate]
        have bbL := (bbJ.trans bbK).trans (ButBag.same smL)
        have nhtl : hl2 ≠ tl2 := by
          obtain ⟨as, e, _⟩ := sK
          exact ne_of_none e ftl2
        generalize upd HK tl2 (.lst (List.replicate z8.toNat (V.ref t2))) = HL at *
        walk_at "rds"
        refine ⟨b, c, 2, rfl, bagL, by decide, by decide, fun v9 HM x0 x1 bagM bbM => ?_⟩
        walk_at "rds"
        refine ⟨b, c, 3, rfl, bagM, by decide, by decide, fun v10 HN y0 y1 bagN bbN => ?_⟩
        have etN := bbN _ _ (bbM _ _ etL (bagL.tup etL)) (bagM.tup (bbM _ _ etL (bagL.tup etL)))
        have ehN := bbN _ _ (bbM _ _ ehL ntl2) ntl2
        have sN := (sL.bag nh2 bagL bbM).bag nh2 bagM bbN
        walk_at "rds"
        intro t3 ft3
        have smP := same_new (o := .tup [V.int (1 + v9), V.int v10]) ft3
        have etP : (upd HN t3 (.tup [V.int (1 + v9), V.int v10])) t3 = some (.tup [V.int (1 + v9), V.int v10]) := upd_same
        have bagP := bagN.same smP
        have et2P := smP _ _ etN
        have ehP := smP _ _ ehN
        have sP := sN.same smP
        have bbP := ((bbL.trans bbM).trans bbN).trans (ButBag.same smP)
        generalize upd HN t3 (.tup [V.int (1 + v9), V.int v10]) = HP at *
        walk_at "rds"
        refine x_lenL (SqL.of ehP) ?_
        walk_at "rds"
        rw [List.length_map, List.length_replicate]
        refine ⟨b, c, _, rfl, bagP, by omega, by omega, fun v11 HR a0 a1 bagR bbR => ?_⟩
        have etR := bbR _ _ etP (bagP.tup etP)
        have et2R := bbR _ _ et2P (bagP.tup et2P)
        have ehR := bbR _ _ ehP ntl2
        have sR := sP.bag nh2 bagP bbR
        refine k_sub2 (j := v11.toNat) ehR ?_ ?_
        · unfold ixN
          rw [if_pos a0, List.length_map, List.length_replicate, if_pos a1]
        have hset : ((List.replicate z8.toNat t2).map V.ref).set v11.toNat (.ref t3) = ((List.replicate z8.toNat t2).set v11.toNat t3).map V.ref := by rw [List.map_set]
        rw [hset]
        have tupk : ∀ {a : Addr} {xs : List V}, HR a = some (.tup xs) → (upd HR tl2 (.lst (((List.replicate z8.toNat t2).set v11.toNat t3).map V.ref))) a = some (.tup xs) := fun {a xs} z => (upd_ne (fun (y : a = tl2) => by rw [y, ehR] at z; cases z)).trans z
        have sEnd : StepsAt (upd HR tl2 (.lst (((List.replicate z8.toNat t2).set v11.toNat t3).map V.ref))) hl2 (List.replicate v7.toNat (1, 0)) := by
          obtain ⟨as, e, p⟩ := sR
          exact ⟨as, (upd_ne nhtl).trans e, Paired.mapP p fun a z y => tupk y⟩
        have qEnd : StepsAt (upd HR tl2 (.lst (((List.replicate z8.toNat t2).set v11.toNat t3).map V.ref))) tl2 ((List.replicate z8.toNat (1, 0)).set v11.toNat (1 + v9, v10)) := ⟨_, upd_same, paired_set (F := fun a (p : Int × Int) => (upd HR tl2 (.lst (((List.replicate z8.toNat t2).set v11.toNat t3).map V.ref))) a = some (.tup [.int p.1, .int p.2])) (a := t3) (b := (1 + v9, v10)) (tupk etR) _ (rep_paired (z := ((1 : Int), (0 : Int))) (tupk et2R) _)⟩
        have ntlc : tl2 ≠ c := fun z => by
          obtain ⟨_, _, _, _, _, ec, _⟩ := bagK
          rw [← z, ftl2] at ec
          cases ec
        have bagZ : BagAt (upd HR tl2 (.lst (((List.replicate z8.toNat t2).set v11.toNat t3).map V.ref))) b c := bagR.keep fun a o e hab => (upd_ne (fun (y : a = tl2) => hab.elim (fun z => ntl2 (y ▸ z)) fun z => ntlc (y ▸ z))).trans e
        have ftH : H tl2 = none := by
          cases y : H tl2 with
          | none => rfl
          | some o =>
            have := (bbJ.trans bbK) _ _ y ntl2
            rw [ftl2] at this
            cases this
        refine ⟨⟨hl2, tl2, _, rfl, by omega, by omega, nh2, ntl2, _, _, sEnd, qEnd, by rw [List.length_replicate]; omega, ?_, fun p hp => ?_, fun p hp => ?_⟩, bagZ, fun a o e n => (upd_ne (ne_of_none e ftH)).trans ((bbP.trans bbR) _ _ e n)⟩
        · rw [List.length_set, List.length_replicate]
          unfold TailLen
          omega
        · rw [(List.mem_replicate.mp hp).2]
          exact ⟨by decide, by decide, by decide, by decide⟩
        · rcases List.mem_or_eq_of_mem_set hp with z | z
          · rw [(List.mem_replicate.mp z).2]
            exact ⟨⟨by decide, by decide, by decide, by decide⟩, by decide⟩
          · rw [z]
            exact ⟨⟨by show 1 ≤ 1 + v9; omega, by show 1 + v9 ≤ 9; omega, y0, by show v10 ≤ 1000000000; omega⟩, by show v10 ≤ 9; omega⟩
      · walk_at "rds"
        refine ⟨⟨hl, tl, _, rfl, by omega, by omega, nhl, ntl, ps, qs, sps8, sqs8, by omega, ?_, fun p hp => ?_, fun p hp => ?_⟩, bag8, bb07.trans bb8⟩
        · unfold TailLen
          omega
        · have := pok p hp
          exact ⟨this.1, this.2.1, this.2.2.1, by omega⟩
        · have := qok p hp
          exact ⟨⟨this.1, this.2.1, this.2.2.1, by omega⟩, by omega⟩
    · rintro σ' H8 ⟨⟨hl', tl', top, rfl, t1, t7, nh, nt, ps, qs, s1, s2, l1, l2, o1, o2⟩, bag8, bb8⟩
      walk_at "rds"
      refine ⟨b, c, _, rfl, bag8, by omega, by omega, fun v5 H9 p8 p9 bag9 bb9 => ?_⟩
      have s19 := s1.bag nh bag8 bb9
      have s29 := s2.bag nt bag8 bb9
      walk_at "rds"
      refine ⟨b, c, 2, rfl, bag9, by decide, by decide, fun v6 H10 p10 p11 bag10 bb10 => ?_⟩
      have s110 := s19.bag nh bag9 bb10
      have s210 := s29.bag nt bag9 bb10
      walk_at "rds"
      intro a fa
      have sma := same_new (o := .tup [.ref hl', .ref tl', .int top, .int v5, .bl (decide (v6 = 0))]) fa
      refine q a ⟨ps, qs, top, v5, decide (v6 = 0)⟩ _ ⟨hl', tl', upd_same, s110.same sma, s210.same sma⟩ ⟨l1, l2, o1, fun p hp => (o2 p hp).1, t1, by show top ≤ 1000000000; omega, p8, by show v5 ≤ 1000000000; omega⟩ t7 (fun p hp => (o2 p hp).2) (bag10.same sma) (((bb8.trans bb9).trans bb10).trans (ButBag.same sma))
end
end Wh

/-! ## L11 -/
set_option Elab.async false
set_option linter.all false
set_option maxRecDepth 100000
set_option maxHeartbeats 4000000
namespace Wh
open PySem PySem.Spec PyProof.Rows L2
/-! ### the law's things change -/
def setTs (n : Str) (t' : T) (r : Addr) (ts : List LTh) : List LTh := ts.map fun y => if y.t.nm = n then ⟨t', r, y.pl⟩ else y
def delTs (n : Str) (ts : List LTh) : List LTh := ts.filter fun y => decide (y.t.nm ≠ n)
theorem setTs_t (n : Str) (t' : T) (r : Addr) (ts : List LTh) : (setTs n t' r ts).map (·.t) = updT n (fun _ => some t') (ts.map (·.t)) := by
  unfold setTs updT
  induction ts with
  | nil => rfl
  | cons y l ih =>
    rw [List.map_cons, List.map_cons, List.map_cons, List.filterMap_cons, ih]
    by_cases e : y.t.nm = n
    · rw [if_pos e, if_pos e]
    · rw [if_neg e, if_neg e]
theorem delTs_t (n : Str) (ts : List LTh) : (delTs n ts).map (·.t) = updT n (fun _ => none) (ts.map (·.t)) := by
  unfold delTs updT
  induction ts with
  | nil => rfl
  | cons y l ih =>
    rw [List.map_cons, List.filter_cons, List.filterMap_cons]
    by_cases e : y.t.nm = n
    · rw [if_pos e, decide_eq_false (fun z => z e), ← ih]
      rfl
    · rw [if_neg e, decide_eq_true e, ← ih]
      rfl
theorem kvs_set {n : Str} {t' : T} {r : Addr} {ts : List LTh} (hn : t'.nm = n) (h : n ∈ ts.map (·.t.nm)) : putK (kvsT ts) (Sum.inr n) (V.ref r) = kvsT (setTs n t' r ts) := by
  have ha : ((kvsT ts).any fun kv => decide (kv.1 = Sum.inr n)) = true := by
    obtain ⟨x, hx, e⟩ := List.mem_map.mp h
    exact List.any_eq_true.mpr ⟨_, List.mem_map.mpr ⟨x, hx, rfl⟩, decide_eq_true (by simp only; rw [e])⟩
  unfold putK
  rw [if_pos ha]
  unfold kvsT setTs
  rw [List.map_map, List.map_map]
  refine List.map_congr_left fun y hy => ?_
  simp only [Function.comp]
  by_cases e : y.t.nm = n
  · rw [if_pos (by rw [e]), if_pos e]
    simp only
    rw [e, hn]
  · rw [if_neg (fun z => e (Sum.inr.inj z)), if_neg e]
theorem kvs_del (n : Str) (ts : List LTh) : dropK (kvsT ts) (Sum.inr n) = kvsT (delTs n ts) := by
  unfold dropK kvsT delTs
  rw [List.filter_map]
  congr 1
  refine List.filter_congr fun y _ => ?_
  simp only [Function.comp]
  refine decide_eq_decide.mpr ⟨fun h z => h (by rw [z]), fun h z => h (Sum.inr.inj z)⟩
theorem kvs_add {n : Str} {t' : T} {r pl : Addr} {ts : List LTh} (hn : t'.nm = n) (h : n ∉ ts.map (·.t.nm)) : putK (kvsT ts) (Sum.inr n) (V.ref r) = kvsT (ts ++ [⟨t', r, pl⟩]) := by
  have hv : valV (kvsT ts) (Sum.inr n) = none := by
    cases e : valV (kvsT ts) (Sum.inr n) with
    | none => rfl
    | some v =>
      have := valV_in e
      rw [keys_kvsT] at this
      obtain ⟨m, hm, em⟩ := List.mem_map.mp this
      exact absurd (Sum.inr.inj em ▸ hm) h
  rw [putK_new _ hv]
  unfold kvsT
  rw [List.map_append]
  simp only [List.map_cons, List.map_nil]
  rw [hn]
theorem PlanAt.put {H : Hp} {a d : Addr} {w : Wn} {kvs : List (Key × V)} {o : HO} (h : PlanAt H a w) (hd : H d = some (.dK kvs)) : PlanAt (upd H d o) a w := by
  have ne : ∀ {c u}, H c = some u → (∀ kv, u = .dK kv → False) → (upd H d o) c = some u := fun {c u} hc no => (upd_ne (fun (z : c = d) => by
    rw [z, hd] at hc
    cases hc
    exact no _ rfl)).trans hc
  obtain ⟨hl, tl, e, ⟨ha, e1, p1⟩, ⟨ta, e2, p2⟩⟩ := h
  exact ⟨hl, tl, ne e (fun _ z => by cases z), ⟨ha, ne e1 (fun _ z => by cases z), Paired.mapP p1 fun c p z => ne z (fun _ y => by cases y)⟩, ⟨ta, ne e2 (fun _ z => by cases z), Paired.mapP p2 fun c p z => ne z (fun _ y => by cases y)⟩⟩
theorem tup_put {H : Hp} {a d : Addr} {kvs : List (Key × V)} {xs : List V} {o : HO} (hd : H d = some (.dK kvs)) (h : H a = some (.tup xs)) : (upd H d o) a = some (.tup xs) := (upd_ne (fun (z : a = d) => by rw [z, hd] at h; cases h)).trans h
/-- the plans stay those that were -/
def FromT (ts' ts : List LTh) : Prop := ∀ x' ∈ ts', ∃ x ∈ ts, x.pl = x'.pl ∧ x.t.wn = x'.t.wn ∧ x.t.nm = x'.t.nm
theorem FromT.refl (ts : List LTh) : FromT ts ts := fun x h => ⟨x, h, rfl, rfl, rfl⟩
theorem FromT.trans {a b c : List LTh} (h : FromT a b) (k : FromT b c) : FromT a c := fun x hx => by
  obtain ⟨y, hy, e1, e2, e3⟩ := h x hx
  obtain ⟨z, hz, f1, f2, f3⟩ := k y hy
  exact ⟨z, hz, f1.trans e1, f2.trans e2, f3.trans e3⟩
theorem nm_lth (ts : List LTh) : ts.map (·.t.nm) = (ts.map (·.t)).map (·.nm) := by
  rw [List.map_map]
  rfl
theorem ThAt.nd {H : Hp} {d : Addr} {ts : List LTh} (h : ThAt H d ts) : Nd (ts.map (·.t)) := by
  unfold Nd
  rw [← nm_lth]
  exact h.nn
theorem ThAt.set {H : Hp} {d : Addr} {ts : List LTh} (h : ThAt H d ts) {x : LTh} (hx : x ∈ ts) {t' : T} {r : Addr} (er : H r = some (.tup (thV ⟨t', r, x.pl⟩))) (hn : t'.nm = x.t.nm) (hw : t'.wn = x.t.wn) (ok : t'.Ok) :
    ThAt (upd H d (.dK (putK (kvsT ts) (.inr x.t.nm) (.ref r)))) d (setTs x.t.nm t' r ts) ∧ FromT (setTs x.t.nm t' r ts) ts := by
  have uq : ∀ y ∈ ts, y.t.nm = x.t.nm → y.pl = x.pl := fun y hy e => by
    have nd := h.nn
    clear h er
    induction ts with
    | nil => cases hy
    | cons z l ih =>
      have nd2 := List.nodup_cons.mp nd
      rcases List.mem_cons.mp hy with p | p <;> rcases List.mem_cons.mp hx with q | q
      · rw [p, q]
      · exact absurd (List.mem_map.mpr ⟨x, q, by rw [← e, p]⟩) nd2.1
      · exact absurd (List.mem_map.mpr ⟨y, p, by rw [e, q]⟩) nd2.1
      · exact ih q p nd2.2
  refine ⟨⟨by rw [upd_same, kvs_set hn (List.mem_map.mpr ⟨x, hx, rfl⟩)], fun y hy => ?_, ?_⟩, fun y hy => ?_⟩
  · obtain ⟨z, hz, rfl⟩ := List.mem_map.mp hy
    by_cases e : z.t.nm = x.t.nm
    · rw [if_pos e]
      obtain ⟨_, p2, p3⟩ := h.th x hx
      have epl := uq z hz e
      refine ⟨tup_put h.d ?_, ?_, ok⟩
      · show H r = some (.tup (thV ⟨t', r, z.pl⟩))
        rw [epl]
        exact er
      · show PlanAt _ z.pl t'.wn
        rw [epl, hw]
        exact p2.put h.d
    · rw [if_neg e]
      obtain ⟨p1, p2, p3⟩ := h.th z hz
      exact ⟨tup_put h.d p1, p2.put h.d, p3⟩
  · have : (setTs x.t.nm t' r ts).map (·.t.nm) = ts.map (·.t.nm) := by
      unfold setTs
      rw [List.map_map]
      refine List.map_congr_left fun y _ => ?_
      simp only [Function.comp]
      by_cases e : y.t.nm = x.t.nm
      · rw [if_pos e, hn, e]
      · rw [if_neg e]
    rw [this]
    exact h.nn
  · obtain ⟨z, hz, rfl⟩ := List.mem_map.mp hy
    by_cases e : z.t.nm = x.t.nm
    · rw [if_pos e]
      exact ⟨x, hx, (uq z hz e).symm, hw.symm, hn.symm⟩
    · rw [if_neg e]
      exact ⟨z, hz, rfl, rfl, rfl⟩
theorem ThAt.del {H : Hp} {d : Addr} {ts : List LTh} (h : ThAt H d ts) (n : Str) : ThAt (upd H d (.dK (dropK (kvsT ts) (.inr n)))) d (delTs n ts) ∧ FromT (delTs n ts) ts := by
  refine ⟨⟨by rw [upd_same, kvs_del], fun y hy => ?_, ?_⟩, fun y hy => ⟨y, (List.mem_filter.mp hy).1, rfl, rfl, rfl⟩⟩
  · obtain ⟨p1, p2, p3⟩ := h.th y (List.mem_filter.mp hy).1
    exact ⟨tup_put h.d p1, p2.put h.d, p3⟩
  · exact ((List.filter_sublist (l := ts)).map _).nodup h.nn
theorem ThAt.add {H : Hp} {d : Addr} {ts : List LTh} (h : ThAt H d ts) {t' : T} {r pl : Addr} (er : H r = some (.tup (thV ⟨t', r, pl⟩))) (hn : t'.nm ∉ ts.map (·.t.nm)) (hp : PlanAt H pl t'.wn) (ok : t'.Ok) :
    ThAt (upd H d (.dK (putK (kvsT ts) (.inr t'.nm) (.ref r)))) d (ts ++ [⟨t', r, pl⟩]) := by
  refine ⟨by rw [upd_same, kvs_add rfl hn], fun y hy => ?_, ?_⟩
  · rcases List.mem_append.mp hy with z | z
    · obtain ⟨p1, p2, p3⟩ := h.th y z
      exact ⟨tup_put h.d p1, p2.put h.d, p3⟩
    · obtain rfl := List.mem_singleton.mp z
      exact ⟨tup_put h.d er, hp.put h.d, ok⟩
  · rw [List.map_append]
    refine List.nodup_append.mpr ⟨h.nn, by simp, fun a ha c hc z => ?_⟩
    obtain rfl : c = t'.nm := by simpa using hc
    exact hn (z ▸ ha)
/-- taken out, laid behind -/
theorem back_perm {a t' : T} (hn : t'.nm = a.nm) : ∀ {L : List T}, Nd L → a ∈ L → (updT a.nm (fun _ => none) L ++ [t']).Perm (updT a.nm (fun _ => some t') L)
  | [], _, h => nomatch h
  | x :: l, nd, h => by
    have nd2 := List.nodup_cons.mp nd
    unfold updT
    rw [List.filterMap_cons, List.filterMap_cons]
    by_cases e : x.nm = a.nm
    · rw [if_pos e, if_pos e]
      have no : ∀ y ∈ l, ¬ y.nm = a.nm := fun y hy z => nd2.1 (List.mem_map.mpr ⟨y, hy, z.trans e.symm⟩)
      have e1 : ∀ o : Option T, l.filterMap (fun t => if t.nm = a.nm then o else some t) = l := fun o => by
        have : l.filterMap (fun t => if t.nm = a.nm then o else some t) = l.filterMap some := fm_congr fun y hy => if_neg (no y hy)
        rw [this, List.filterMap_some]
      simp only
      rw [e1, e1]
      exact List.perm_append_comm
    · rw [if_neg e, if_neg e]
      have ha : a ∈ l := by
        rcases List.mem_cons.mp h with z | z
        · exact absurd (by rw [z]) e
        · exact z
      exact (back_perm hn nd2.2 ha).cons x
end Wh

/-! ## L12 -/
set_option Elab.async false
set_option linter.all false
set_option maxRecDepth 100000
set_option maxHeartbeats 4000000


namespace Wh
open PySem PySem.Spec PyProof.Rows L2
section
variable {P : Program} {wo : World} {K : PySem.W.Frag} {mg : Str → Option Value} {base : Heap}
theorem x_slA {H : Hp} {Q : VK} {a : Addr} {xs : List V} {lo hi : Option Int} (h : SqT K H a xs) (n : ¬ (HT.sIx xs.length 0 lo = 0 ∧ HT.sIx xs.length xs.length hi = xs.length)) (q : ∀ p, H p = none → Q (.ref p) (upd H p (.tup (cutV xs lo hi)))) : rSlA K (.ref a) lo hi H Q := ⟨a, xs, rfl, h, fun z => absurd z n, fun _ => q⟩
theorem x_catA {H : Hp} {Q : VK} {a b : Addr} {xs ys : List V} (ha : SqT K H a xs) (hb : SqT K H b ys) (nx : xs ≠ []) (ny : ys ≠ []) (l : xs.length + ys.length ≤ sizeLine) (q : ∀ p, H p = none → Q (.ref p) (upd H p (.tup (xs ++ ys)))) : rCatA K (.ref a) (.ref b) H Q := ⟨a, b, xs, ys, rfl, rfl, ha, hb, l, fun z => absurd z nx, fun _ z => absurd z ny, fun _ _ => q⟩
/-- the law's world -/
structure WorldAt (H : Hp) (w td : Addr) (rooms stirs : List Int) : Prop where
  ex : ∃ rl sl : Addr, H w = some (.dK [(.inr "rooms", .ref rl), (.inr "stirs", .ref sl), (.inr "things", .ref td)]) ∧ H rl = some (.lst (rooms.map V.int)) ∧ H sl = some (.lst (stirs.map V.int))
  r1 : 1 ≤ rooms.length
  r4 : rooms.length ≤ 4
  rp : ∀ n ∈ rooms, 1 ≤ n ∧ n ≤ 1000000000000
  p10 : stirs.length = 10
  pb : ∀ r ∈ stirs, -1000000000 ≤ r ∧ r ≤ 1000000000
theorem WorldAt.keep {H H' : Hp} {w td d : Addr} {rooms stirs : List Int} {kvs : List (Key × V)} (h : WorldAt H w td rooms stirs) (hd : H d = some (.dK kvs)) (n : w ≠ d) (k : ∀ a o, H a = some o → a ≠ d → H' a = some o) : WorldAt H' w td rooms stirs := by
  obtain ⟨rl, sl, e1, e2, e3⟩ := h.ex
  have nl : ∀ {c xs}, H c = some (.lst xs) → c ≠ d := fun {c xs} hc z => by rw [z, hd] at hc; cases hc
  exact ⟨⟨rl, sl, k _ _ e1 n, k _ _ e2 (nl e2), k _ _ e3 (nl e3)⟩, h.r1, h.r4, h.rp, h.p10, h.pb⟩
theorem WorldAt.same {H H' : Hp} {w td : Addr} {rooms stirs : List Int} (h : WorldAt H w td rooms stirs) (k : Same H H') : WorldAt H' w td rooms stirs := by
  obtain ⟨rl, sl, e1, e2, e3⟩ := h.ex
  exact ⟨⟨rl, sl, k _ _ e1, k _ _ e2, k _ _ e3⟩, h.r1, h.r4, h.rp, h.p10, h.pb⟩
/-- what the asking does to the others, the one asked for lifted already -/
def othT (st : Int) (a t : T) : Option T := if st ≠ 0 then prT st a t else some t
theorem othT_nm {st : Int} {a t t' : T} (h : othT st a t = some t') : t'.nm = t.nm := by
  unfold othT at h
  split at h
  · exact prT_nm h
  · rw [← Option.some.inj h]
theorem ask_oth {stirs : List Int} {a : T} {L : List T} (hl : Nd L) (ha : a ∈ L) : askL stirs a.nm L = (updT a.nm (fun _ => some (liftT a)) L).filterMap (othT (stirOf stirs a.kin) (liftT a)) := by
  unfold askL
  rw [look_mem hl ha]
  show L.filterMap (askT stirs a) = _
  by_cases h : stirOf stirs a.kin = 0
  · rw [ask_one h hl ha]
    have : ∀ M : List T, M.filterMap (othT (stirOf stirs a.kin) (liftT a)) = M := fun M => by
      have e : M.filterMap (othT (stirOf stirs a.kin) (liftT a)) = M.filterMap some := fm_congr fun t _ => by
        unfold othT
        rw [if_neg (fun z => z h)]
      rw [e, List.filterMap_some]
    rw [this]
  · rw [ask_two h hl ha]
    exact fm_congr fun t _ => by
      unfold othT
      rw [if_pos h]
theorem upd2 {H : Hp} {d : Addr} {o o' : HO} : upd (upd H d o) d o' = upd H d o' := by
  funext a
  by_cases e : a = d
  · rw [e, upd_same, upd_same]
  · rw [upd_ne e, upd_ne e, upd_ne e]
theorem drop_put {n : Str} {t' : T} {r : Addr} {ts : List LTh} (hn : t'.nm = n) (h : n ∈ ts.map (·.t.nm)) : dropK (putK (kvsT ts) (Sum.inr n) (V.ref r)) (Sum.inr n) = dropK (kvsT ts) (Sum.inr n) := by
  rw [kvs_set hn h, kvs_del, kvs_del]
  congr 1
  unfold delTs setTs
  clear h
  induction ts with
  | nil => rfl
  | cons y l ih =>
    rw [List.map_cons, List.filter_cons, List.filter_cons, ih]
    by_cases e : y.t.nm = n
    · rw [if_pos e, decide_eq_false (show ¬ (t'.nm ≠ n) from fun z => z hn), decide_eq_false (fun z => z e)]
      rfl
    · rw [if_neg e]
def spLAsked : Sp := fun vs H Q _ => ∃ w td rooms stirs d ts a, vs = [.ref w, .ref d, .str a.t.nm] ∧ WorldAt H w td rooms stirs ∧ w ≠ d ∧ ThAt H d ts ∧ a ∈ ts ∧ ts.length ≤ 8 ∧
  ∀ ts' H', (∀ b o, H b = some o → b ≠ d → H' b = some o) → ThAt H' d ts' → FromT ts' ts → ts'.length ≤ ts.length → ts'.map (·.t) = askL stirs a.t.nm (ts.map (·.t)) → Q .non H'
theorem ok_law_asked (T : Tx K mg) : FnOk P wo K mg base CX0 1 (He.ga K "_law_asked") (fdA K (He.ga K "_law_asked")) ["_law_world_here", "_law_things", "_law_name"] (spLAsked) := by
  refine okD (F_law_asked T) sc_law_asked (fun vs H Q E h => ?_) (fun cdv A outer s H vs Q E hr h => ?_)
  · obtain ⟨w, td, rooms, stirs, d, ts, a, rfl, _⟩ := h
    rfl
  · obtain ⟨w, td, rooms, stirs, d, ts, a, rfl, wo_, nwd, th, ha, l8, q⟩ := h
    refine ⟨_, (pss_cons (ps_asg (pe_dget (hu_of hr) (pv 1) (pv 2) (fun _ _ => rfl)) (pg_tupK (K := K) (n := 5) rfl (pgs_cons (pg_name (i := 3) sc_law_asked.nd rfl (Or.inl rfl)) (pgs_cons (pg_name (i := 4) sc_law_asked.nd rfl (Or.inl rfl)) (pgs_cons (pg_name (i := 5) sc_law_asked.nd rfl (Or.inl rfl)) (pgs_cons (pg_name (i := 6) sc_law_asked.nd rfl (Or.inl rfl)) (pgs_cons (pg_name (i := 7) sc_law_asked.nd rfl (Or.inl rfl)) pgs_nil)))))))
 (pss_cons (ps_dput (hu_of hr) (pv 1) (pv 2) (pe_tup (pa_cons (pv 3) (pa_cons (pv 4) (pa_cons (pv 5) (pa_cons (pe_callB (call_min2 rfl) (by rfl) (z_min T) (by decide +kernel) (pa_cons (pe_ix (ix_tupK (K := K)) (pv 3) pe_int (fun _ _ => rfl)) (pa_cons (pe_op op_add (pv 6) (pe_ix (ix_tupK (K := K)) (pv 3) pe_int (fun _ _ => rfl))) pa_nil))) (pa_cons (pe_op op_mul (pv 7) (pe_callTy call_int1 (by rfl) (z_int T) (by decide +kernel) (pa_cons (pe_not (pe_ix (ix_tupK (K := K)) (pv 3) pe_int (fun _ _ => rfl))) pa_nil))) pa_nil)))))) rfl)
 (pss_cons (ps_set (i := 8) sc_law_asked.nd rfl (Or.inl rfl) (pe_ix (ix_listK (K := K)) (pe_dget (hu_of hr) (pv 0) pe_str (fun _ _ => rfl)) (pv 5) (fun _ _ => rfl)))
 (pss_one (ps_for PassesOwn.never rfl (pi_list (pe_callB (call_sortedD rfl) (by rfl) (z_sorted T) (by decide +kernel) (pa_cons (pv 1) pa_nil))) (pg_name (i := 9) sc_law_asked.nd rfl (Or.inl rfl)) (pss_cons (ps_set (i := 10) sc_law_asked.nd rfl (Or.inl rfl) (pe_dget (hu_of hr) (pv 1) (pv 9) (fun _ _ => rfl)))
 (pss_one (ps_if (PW.pt (pw_and (pt_cmpR op_ne (pv 8) pe_int (nomark _)) (pw_and (pt_cmpR op_ne (pv 9) (pv 2) (nomark _)) (pw_and1 (pt_cmpR (op_eqTK (K := K) (α := Int × Int) hr.units (by decide)) (pe_slice (sl_tupAK (K := K)) (pv 10) (po_some pe_int) (po_some pe_int)) (pe_tup (pa_cons (pv 4) (pa_cons (pv 5) pa_nil))) (nomark _)))))) (pss_cons (ps_set (i := 6) sc_law_asked.nd rfl (Or.inl rfl) (pe_callB (call_min2 rfl) (by rfl) (z_min T) (by decide +kernel) (pa_cons (pe_ix (ix_tupK (K := K)) (pe_ix (ix_tupK (K := K)) (pv 10) pe_int (fun _ _ => rfl)) pe_int (fun _ _ => rfl)) (pa_cons (pe_op op_add (pe_ix (ix_tupK (K := K)) (pv 10) pe_int (fun _ _ => rfl)) (pv 8)) pa_nil))))
 (pss_cons (ps_dput (hu_of hr) (pv 1) (pv 9) (pe_op (op_catAK (K := K)) (pe_slice (sl_tupAK (K := K)) (pv 10) po_none (po_some pe_int)) (pe_tup (pa_cons (pv 6) (pa_cons (pe_ix (ix_tupK (K := K)) (pv 10) pe_int (fun _ _ => rfl)) pa_nil)))) rfl)
 (pss_one (ps_if (pt_cmpR op_lt (pv 6) pe_int (nomark _)) (pss_one (ps_expr (pe_dpop1 (pv 1) (pv 9) ⟨rfl, rfl, rfl, rfl⟩))) pss_nil)))) pss_nil)))))))), ?_⟩
    try dsimp only [cxK, cxP, cxW]
    obtain ⟨ea, pa, aok⟩ := th.th a ha
    unfold thV at ea
    obtain ⟨phl, ptl, ep, _⟩ := id pa
    walk_at "rds"
    refine k_dg2s (.inl th.d) (valV_kvsT th.nn ha) ?_
    walk_at "rds"
    refine x_ixT (SqT.of ep) (atI_nat (v := .int a.t.wn.cap) (by decide) rfl) ?_
    walk_at "rds"
    refine x_ixT (SqT.of ep) (atI_nat (v := .int a.t.wn.lift) (by decide) rfl) ?_
    walk_at "rds"
    refine ⟨_, _, rfl, ?_⟩
    rw [min_if]
    walk_at "rds"
    refine x_ixT (SqT.of ep) (atI_nat (v := .bl a.t.wn.anew) (by decide) rfl) ?_
    walk_at "rds"
    refine .inr ⟨_, rfl, ?_⟩
    walk_at "rds"
    refine x_I ?_ ?_
    · cases a.t.wn.anew
      · exact .inr ⟨by decide, by decide⟩
      · exact .inr ⟨by decide, by decide⟩
    walk_at "rds"
    intro r1 fr1
    have er1 : (upd H r1 (.tup [.ref a.pl, .int a.t.sp, .int a.t.kin, .int (min a.t.wn.cap (a.t.fo + a.t.wn.lift)), .int (a.t.si * if (!a.t.wn.anew) = true then 1 else 0)])) r1 = some (.tup (thV ⟨liftT a.t, r1, a.pl⟩)) := by
      rw [upd_same]
      unfold thV liftT
      cases a.t.wn.anew <;> simp
    have sm1 := same_new (o := .tup [.ref a.pl, .int a.t.sp, .int a.t.kin, .int (min a.t.wn.cap (a.t.fo + a.t.wn.lift)), .int (a.t.si * if (!a.t.wn.anew) = true then 1 else 0)]) fr1
    generalize upd H r1 (.tup [.ref a.pl, .int a.t.sp, .int a.t.kin, .int (min a.t.wn.cap (a.t.fo + a.t.wn.lift)), .int (a.t.si * if (!a.t.wn.anew) = true then 1 else 0)]) = H1 at *
    have th1 := th.same sm1
    obtain ⟨th2, fr2⟩ := th1.set ha er1 rfl rfl (lift_ok aok)
    have kd2 : ∀ b o, H b = some o → b ≠ d → (upd H1 d (.dK (putK (kvsT ts) (.inr a.t.nm) (.ref r1)))) b = some o := fun b o e n => (upd_ne n).trans (sm1 _ _ e)
    walk_at "rds"
    refine k_dp3s th1.d (by unfold kvsT; rw [List.length_map]; exact sz8 (by omega)) ?_
    generalize upd H1 d (.dK (putK (kvsT ts) (.inr a.t.nm) (.ref r1))) = H2 at *
    have wo2 := wo_.keep th.d nwd kd2
    obtain ⟨rl, sl, ew, erl, esl⟩ := wo2.ex
    walk_at "rds"
    refine k_dg2s (.inl ew) rfl ?_
    have hk : (stirs.map V.int)[a.t.kin.toNat]? = some (.int (stirOf stirs a.t.kin)) := by
      have h9 := aok.k9
      have h0 := aok.k0
      have h10 := wo_.p10
      rw [List.getElem?_map]
      unfold stirOf
      rw [List.getD_eq_getElem?_getD, List.getElem?_eq_getElem (by omega)]
      rfl
    walk_at "rds"
    refine x_ixL (SqL.of esl) (atI_nat aok.k0 hk) ?_
    walk_at "rds"
    have nd2 := th2.nd
    have l82 : (setTs a.t.nm (liftT a.t) r1 ts).length ≤ ts.length := by unfold setTs; rw [List.length_map]; exact Nat.le_refl _
    refine ⟨d, _, (setTs a.t.nm (liftT a.t) r1 ts).map (·.t.nm), rfl, .inl th2.d, keys_kvsT _, by rw [List.length_map]; omega, fun ys p hperm hsort fp => ?_⟩
    have hyl : ys.length = (setTs a.t.nm (liftT a.t) r1 ts).length := by rw [hperm.length_eq, List.length_map]
    have ynd : ys.Nodup := hperm.nodup_iff.mpr th2.nn
    have npd : p ≠ d := (ne_of_none th2.d fp).symm
    have th3 := th2.same (same_new (o := .lst (ys.map V.str)) fp)
    have eyp : (upd H2 p (.lst (ys.map V.str))) p = some (.lst (ys.map V.str)) := upd_same
    have kd3 : ∀ b o, H b = some o → b ≠ d → (upd H2 p (.lst (ys.map V.str))) b = some o := fun b o e n => (same_new fp) _ _ (kd2 b o e n)
    have fT2 := fr2
    have eT2 := setTs_t a.t.nm (liftT a.t) r1 ts
    generalize upd H2 p (.lst (ys.map V.str)) = H3 at *
    generalize setTs a.t.nm (liftT a.t) r1 ts = ts2 at *
    refine k_iL (SqL.of eyp) ?_
    refine k_for (itx_l K p (ys.map V.str)) (fun i σ' H' => (∃ o6 o7 o9 o10, σ' = [some (.ref w), some (.ref d), some (.str a.t.nm), some (.ref a.pl), some (.int a.t.sp), some (.int a.t.kin), o6, o7, some (.int (stirOf stirs a.t.kin)), o9, o10]) ∧ (∀ b o, H3 b = some o → b ≠ d → H' b = some o) ∧
      ∃ ts', ThAt H' d ts' ∧ FromT ts' ts2 ∧ ts'.length ≤ ts2.length ∧ ts'.map (·.t) = part (ys.take i) (othT (stirOf stirs a.t.kin) (liftT a.t)) (ts2.map (·.t))) ?_ (fun i σ' H' _ h => SqL.of (h.2.1 _ _ eyp npd)) (fun i x σ' H4 hx h => ?_) (fun σ' H4 h => ?_)
    · exact ⟨⟨_, _, _, _, rfl⟩, fun _ _ e _ => e, ts2, th3, FromT.refl _, Nat.le_refl _, by rw [List.take_zero, part_nil]⟩
    · obtain ⟨⟨o6, o7, o9, o10, rfl⟩, kd4, ts', th', fr', le', et'⟩ := h
      obtain ⟨nm, hn, rfl, hi⟩ := nth_str hx
      have hnt : nm ∉ ys.take i := not_take ynd hn
      obtain ⟨t, ht, rfl⟩ : ∃ t ∈ ts2.map (·.t), t.nm = nm := by
        obtain ⟨b, hb, e⟩ := List.mem_map.mp (hperm.mem_iff.mp (List.mem_of_getElem? hn))
        exact ⟨b.t, List.mem_map.mpr ⟨b, hb, rfl⟩, e⟩
      have htp := part_mem (f := othT (stirOf stirs a.t.kin) (liftT a.t)) ht hnt
      have snoc : part (ys.take (i + 1)) (othT (stirOf stirs a.t.kin) (liftT a.t)) (ts2.map (·.t)) = updT t.nm (othT (stirOf stirs a.t.kin) (liftT a.t)) (part (ys.take i) (othT (stirOf stirs a.t.kin) (liftT a.t)) (ts2.map (·.t))) := by
        rw [List.take_add_one, hn]
        exact part_snoc (fun t t' => othT_nm) hnt _
      rw [← et'] at htp snoc
      obtain ⟨x, hx', rfl⟩ := List.mem_map.mp htp
      have same_ : ∀ u ∈ ts'.map (·.t), u.nm = x.t.nm → u = x.t := fun u hu e => nd_uniq th'.nd hu htp e
      obtain ⟨ex, px, xok⟩ := th'.th x hx'
      have ex2 := ex
      unfold thV at ex2
      obtain ⟨qhl, qtl, eq_, _⟩ := id px
      walk_at "rds"
      refine k_dg2s (.inl th'.d) (valV_kvsT th'.nn hx') ?_
      have skip : othT (stirOf stirs a.t.kin) (liftT a.t) x.t = some x.t → ts'.map (·.t) = part (ys.take (i + 1)) (othT (stirOf stirs a.t.kin) (liftT a.t)) (ts2.map (·.t)) := fun hno => by
        rw [snoc, updT_id fun u hu e => by rw [same_ u hu e]; exact hno]
      walk_at "rds"
      refine k_and2 (fun c1 => ?_) (fun c1 => ?_)
      · walk_at "rds"
        refine k_and2 (fun c2 => ?_) (fun c2 => ?_)
        · walk_at "rds"
          refine x_slA (SqT.of ex2) (by show ¬ (HT.sIx 5 0 (some 1) = 0 ∧ HT.sIx 5 5 (some 3) = 5); decide) fun p1 f1 => ?_
          have sm5 := same_new (o := .tup (cutV [.ref x.pl, .int x.t.sp, .int x.t.kin, .int x.t.fo, .int x.t.si] (some 1) (some 3))) f1
          have ep1 : (upd H4 p1 (.tup (cutV [.ref x.pl, .int x.t.sp, .int x.t.kin, .int x.t.fo, .int x.t.si] (some 1) (some 3)))) p1 = some (.tup [.int x.t.sp, .int x.t.kin]) := upd_same
          generalize upd H4 p1 (.tup (cutV [.ref x.pl, .int x.t.sp, .int x.t.kin, .int x.t.fo, .int x.t.si] (some 1) (some 3))) = H5 at *
          walk_at "rds"
          intro p2 f2
          have sm6 := sm5.trans (same_new (o := .tup [.int a.t.sp, .int a.t.kin]) f2)
          have ep2 : (upd H5 p2 (.tup [.int a.t.sp, .int a.t.kin])) p2 = some (.tup [.int a.t.sp, .int a.t.kin]) := upd_same
          have ep1' := (same_new (o := .tup [.int a.t.sp, .int a.t.kin]) f2) _ _ ep1
          generalize upd H5 p2 (.tup [.int a.t.sp, .int a.t.kin]) = H6 at *
          have th6 := th'.same sm6
          have ex6 := sm6 _ _ ex2
          have px6 := px.same sm6
          obtain ⟨qhl6, qtl6, eq6, _⟩ := id px6
          have kd6 : ∀ b o, H3 b = some o → b ≠ d → H6 b = some o := fun b o e n => sm6 _ _ (kd4 b o e n)
          clear ex2 ex eq_
          refine ⟨(x.t.sp, x.t.kin), (a.t.sp, a.t.kin), .tup (SqT.of ep1') (.cons (.int _) (.cons (.int _) .nil)), .tup (SqT.of ep2) (.cons (.int _) (.cons (.int _) .nil)), ?_⟩
          show kT _ (V.bl (decide ((x.t.sp, x.t.kin) = (a.t.sp, a.t.kin)))) H6
          walk_at "rds"
          have n1 : stirOf stirs a.t.kin ≠ 0 := fun z => by rw [decide_eq_true z] at c1; cases c1
          have n2 : x.t.nm ≠ a.t.nm := fun z => by rw [decide_eq_true z] at c2; cases c2
          refine k_if (fun c3 => ?_) (fun c3 => ?_)
          · have e3 := Prod.mk.inj (of_decide_eq_true c3)
            have hpr : othT (stirOf stirs a.t.kin) (liftT a.t) x.t = pressT (stirOf stirs a.t.kin) x.t := by
              unfold othT prT
              rw [if_pos n1, if_pos ⟨n2, e3.2, e3.1⟩]
            walk_at "rds"
            refine x_ixT (SqT.of ex6) (atI_nat (v := .ref x.pl) (by decide) rfl) ?_
            walk_at "rds"
            refine x_ixT (SqT.of eq6) (atI_nat (v := .int x.t.wn.cap) (by decide) rfl) ?_
            walk_at "rds"
            refine x_ixT (SqT.of ex6) (atI_nat (v := .int x.t.fo) (by decide) rfl) ?_
            walk_at "rds"
            refine ⟨_, _, rfl, ?_⟩
            rw [min_if]
            walk_at "rds"
            refine x_slA (SqT.of ex6) (by show ¬ (HT.sIx 5 0 none = 0 ∧ HT.sIx 5 5 (some 3) = 5); decide) fun p3 f3 => ?_
            have sm7 := same_new (o := .tup (cutV [.ref x.pl, .int x.t.sp, .int x.t.kin, .int x.t.fo, .int x.t.si] none (some 3))) f3
            have ep3 : (upd H6 p3 (.tup (cutV [.ref x.pl, .int x.t.sp, .int x.t.kin, .int x.t.fo, .int x.t.si] none (some 3)))) p3 = some (.tup [.ref x.pl, .int x.t.sp, .int x.t.kin]) := upd_same
            generalize upd H6 p3 (.tup (cutV [.ref x.pl, .int x.t.sp, .int x.t.kin, .int x.t.fo, .int x.t.si] none (some 3))) = H7 at *
            walk_at "rds"
            refine x_ixT (SqT.of (sm7 _ _ ex6)) (atI_nat (v := .int x.t.si) (by decide) rfl) ?_
            walk_at "rds"
            intro p4 f4
            have sm8 := sm7.trans (same_new (o := .tup [.int (min x.t.wn.cap (x.t.fo + stirOf stirs a.t.kin)), .int x.t.si]) f4)
            have ep4 : (upd H7 p4 (.tup [.int (min x.t.wn.cap (x.t.fo + stirOf stirs a.t.kin)), .int x.t.si])) p4 = some (.tup [.int (min x.t.wn.cap (x.t.fo + stirOf stirs a.t.kin)), .int x.t.si]) := upd_same
            have ep3' := (same_new (o := .tup [.int (min x.t.wn.cap (x.t.fo + stirOf stirs a.t.kin)), .int x.t.si]) f4) _ _ ep3
            generalize upd H7 p4 (.tup [.int (min x.t.wn.cap (x.t.fo + stirOf stirs a.t.kin)), .int x.t.si]) = H8 at *
            walk_at "rds"
            refine x_catA (SqT.of ep3') (SqT.of ep4) (by simp) (by simp) (sz16 (by simp)) fun p5 f5 => ?_
            have sm9 := sm8.trans (same_new (o := .tup ([.ref x.pl, .int x.t.sp, .int x.t.kin] ++ [.int (min x.t.wn.cap (x.t.fo + stirOf stirs a.t.kin)), .int x.t.si])) f5)
            have ep5 : (upd H8 p5 (.tup ([.ref x.pl, .int x.t.sp, .int x.t.kin] ++ [.int (min x.t.wn.cap (x.t.fo + stirOf stirs a.t.kin)), .int x.t.si]))) p5 = some (.tup (thV ⟨{ x.t with fo := min x.t.wn.cap (x.t.fo + stirOf stirs a.t.kin) }, p5, x.pl⟩)) := upd_same
            generalize upd H8 p5 (.tup ([.ref x.pl, .int x.t.sp, .int x.t.kin] ++ [.int (min x.t.wn.cap (x.t.fo + stirOf stirs a.t.kin)), .int x.t.si])) = H9 at *
            have th9 := th6.same sm9
            walk_at "rds"
            refine k_dp3s th9.d (by unfold kvsT; rw [List.length_map]; exact sz8 (by omega)) ?_
            have hmem : x.t.nm ∈ ts'.map (·.t.nm) := List.mem_map.mpr ⟨x, hx', rfl⟩
            walk_at "rds"
            refine k_if (fun c4 => ?_) (fun c4 => ?_)
            · have hlt := of_decide_eq_true c4
              walk_at "rds"
              refine k_pop1 (.inl upd_same) ?_
              walk_at "rds"
              refine k_pop1s (v := .ref p5) upd_same (by rw [valV_put, if_pos rfl]) ?_
              rw [drop_put (t' := x.t) rfl hmem, upd2]
              obtain ⟨thA, frA⟩ := th9.del x.t.nm
              walk_at "rds"
              refine ⟨⟨_, _, _, _, rfl⟩, fun b o e n => (upd_ne n).trans (sm9 _ _ (kd6 b o e n)), _, thA, frA.trans fr', Nat.le_trans (List.length_filter_le _ _) le', ?_⟩
              rw [delTs_t, snoc]
              refine updT_congr fun u hu e => ?_
              rw [same_ u hu e, hpr]
              unfold pressT
              rw [if_pos hlt]
            · have hge := of_decide_eq_false c4
              have hok : ({ x.t with fo := min x.t.wn.cap (x.t.fo + stirOf stirs a.t.kin) } : Wh.T).Ok := ⟨xok.w, xok.k0, xok.k9, xok.s0, by show 1 ≤ min _ _; omega, by show min _ _ ≤ x.t.wn.cap; omega, xok.i0⟩
              obtain ⟨thA, frA⟩ := th9.set hx' ep5 rfl rfl hok
              walk_at "rds"
              refine ⟨⟨_, _, _, _, rfl⟩, fun b o e n => (upd_ne n).trans (sm9 _ _ (kd6 b o e n)), _, thA, frA.trans fr', by unfold setTs; rw [List.length_map]; exact le', ?_⟩
              rw [setTs_t, snoc]
              refine updT_congr fun u hu e => ?_
              rw [same_ u hu e, hpr]
              unfold pressT
              rw [if_neg hge]
          · walk_at "rds"
            exact ⟨⟨_, _, _, _, rfl⟩, kd6, ts', th6, fr', le', skip (by
              unfold othT prT
              rw [if_pos n1, if_neg (fun z => by
                rw [decide_eq_true (show (x.t.sp, x.t.kin) = (a.t.sp, a.t.kin) by rw [z.2.1, z.2.2]; rfl)] at c3
                cases c3)])⟩
        · walk_at "rds"
          have n2 : x.t.nm = a.t.nm := by simpa using c2
          exact ⟨⟨_, _, _, _, rfl⟩, kd4, ts', th', fr', le', skip (by
            unfold othT prT
            rw [if_neg (show ¬ (x.t.nm ≠ (liftT a.t).nm ∧ _) from fun z => z.1 n2)]
            split <;> rfl)⟩
      · walk_at "rds"
        have n1 : stirOf stirs a.t.kin = 0 := by simpa using c1
        exact ⟨⟨_, _, _, _, rfl⟩, kd4, ts', th', fr', le', skip (by
          unfold othT
          rw [if_neg (fun z => z n1)])⟩
    · obtain ⟨⟨o6, o7, o9, o10, rfl⟩, kd4, ts', th', fr', le', et'⟩ := h
      refine q ts' H4 (fun b o e n => kd4 _ _ (kd3 b o e n) n) th' (fr'.trans fT2) (by omega) ?_
      rw [et', ask_oth th.nd (List.mem_map.mpr ⟨a, ha, rfl⟩), ← eT2]
      rw [List.length_map, List.take_length]
      exact part_all fun t ht => hperm.mem_iff.mpr (by rw [nm_lth]; exact List.mem_map.mpr ⟨t, ht, rfl⟩)
end
end Wh

/-! ## M8 -/
set_option Elab.async false
set_option linter.all false
namespace Wh
open PySem
theorem weakL_is {i : Int} {L : List T} {x : T} (nd : Nd L) (hx : x ∈ L) (hs : x.sp = i) (h : ∀ b ∈ L, b.sp = i → ¬ weaker x b) : weakL i L = some x := by
  cases e : weakL i L with
  | none => exact absurd hs (weakL_none.mp e x hx)
  | some w =>
    obtain ⟨hw, ws, wmax⟩ := weakL_spec e
    rcases weaker_tri x w with a | a | a
    · exact absurd a (h w hw ws)
    · rw [nd_uniq nd hw hx a.2.symm]
    · exact absurd a (wmax x hx hs)
/-- the greatest of some texts -/
def maxS (x : Str) (xs : List Str) : Str := xs.foldl (fun m y => if strLt m y then y else m) x
theorem maxS_spec : ∀ (xs : List Str) (x : Str), maxS x xs ∈ x :: xs ∧ ∀ y ∈ x :: xs, ¬ strLt (maxS x xs) y
  | [], x => ⟨List.mem_cons_self .., fun y hy => by
    rw [List.mem_singleton.mp hy]
    exact strLt_irrefl x⟩
  | z :: r, x => by
    obtain ⟨h1, h2⟩ := maxS_spec r (if strLt x z then z else x)
    have e : maxS x (z :: r) = maxS (if strLt x z then z else x) r := rfl
    rw [e]
    by_cases c : strLt x z
    · rw [if_pos c] at h1 h2 ⊢
      refine ⟨List.mem_cons_of_mem _ h1, fun y hy => ?_⟩
      rcases List.mem_cons.mp hy with q | q
      · rw [q]
        exact fun k => h2 z (List.mem_cons_self ..) (strLt_trans k c)
      · exact h2 y q
    · rw [if_neg c] at h1 h2 ⊢
      refine ⟨?_, fun y hy => ?_⟩
      · rcases List.mem_cons.mp h1 with q | q
        · rw [q]; exact List.mem_cons_self ..
        · exact List.mem_cons_of_mem _ (List.mem_cons_of_mem _ q)
      · rcases List.mem_cons.mp hy with q | q
        · rw [q]; exact h2 x (List.mem_cons_self ..)
        · rcases List.mem_cons.mp q with p | p
          · rw [p]
            intro k
            rcases strLt_tri x (maxS x r) with t | t | t
            · exact h2 x (List.mem_cons_self ..) |> fun _ => (by
                rcases strLt_tri x z with u | u | u
                · exact c u
                · exact h2 x (List.mem_cons_self ..) (u ▸ k)
                · exact h2 x (List.mem_cons_self ..) (strLt_trans k u))
            · rw [← t] at k
              exact c k
            · exact h2 x (List.mem_cons_self ..) t
          · exact h2 y (List.mem_cons_of_mem _ p)
theorem look_sub {L : List T} (nd : Nd L) {β : Type} (g : T → β) : ∀ M : List T, (∀ t ∈ M, t ∈ L) → (M.map (·.nm)).filterMap (fun n => (look L n).map g) = M.map g
  | [], _ => rfl
  | t :: r, h => by
    rw [List.map_cons, List.filterMap_cons, look_sub nd g r fun x hx => h x (List.mem_cons_of_mem _ hx), look_mem nd (h t (List.mem_cons_self ..))]
    rfl
theorem mem_erase_at {hs : List Str} (nd : hs.Nodup) {j : Nat} {n : Str} (hj : hs[j]? = some n) (m : Str) : m ∈ hs.eraseIdx j ↔ m ∈ hs ∧ m ≠ n := by
  rw [List.mem_eraseIdx_iff_getElem?]
  refine ⟨fun ⟨i, ne, e⟩ => ⟨List.mem_of_getElem? e, fun z => ?_⟩, fun ⟨h, ne⟩ => ?_⟩
  · subst z
    obtain ⟨h1, e1⟩ := List.getElem?_eq_some_iff.mp e
    obtain ⟨h2, e2⟩ := List.getElem?_eq_some_iff.mp hj
    exact ne ((List.getElem_inj nd).mp (e1.trans e2.symm))
  · obtain ⟨i, hi⟩ := List.getElem?_of_mem h
    refine ⟨i, fun z => ?_, hi⟩
    rw [z, hj] at hi
    exact ne (Option.some.inj hi).symm
/-- the names of room i's things -/
def InRoom (i : Int) (L : List T) (hs : List Str) : Prop := hs.Nodup ∧ ∀ n, n ∈ hs ↔ ∃ t ∈ L, t.nm = n ∧ t.sp = i
theorem InRoom.perm {i : Int} {L : List T} {hs : List Str} (h : InRoom i L hs) (nd : Nd L) : hs.Perm ((L.filter fun t => decide (t.sp = i)).map (·.nm)) := by
  refine (List.perm_ext_iff_of_nodup h.1 ?_).mpr fun n => ?_
  · exact ((List.filter_sublist (l := L)).map (fun t : T => t.nm)).nodup nd
  · rw [h.2 n, List.mem_map]
    refine ⟨fun ⟨t, a, b, c⟩ => ⟨t, List.mem_filter.mpr ⟨a, decide_eq_true c⟩, b⟩, fun ⟨t, a, b⟩ => ⟨t, (List.mem_filter.mp a).1, b, of_decide_eq_true (List.mem_filter.mp a).2⟩⟩
theorem InRoom.total {i : Int} {L : List T} {hs : List Str} (h : InRoom i L hs) (nd : Nd L) : (hs.filterMap fun n => (look L n).map (·.fo)).sum = totalL i L := by
  rw [sum_perm ((h.perm nd).filterMap _), look_sub nd _ _ fun t ht => (List.mem_filter.mp ht).1]
  rfl
theorem InRoom.first {i : Int} {L : List T} (nd : Nd L) : InRoom i L ((L.filter fun t => decide (t.sp = i)).map (·.nm)) := by
  refine ⟨((List.filter_sublist (l := L)).map (fun t : T => t.nm)).nodup nd, fun n => ?_⟩
  rw [List.mem_map]
  exact ⟨fun ⟨t, a, b⟩ => ⟨t, (List.mem_filter.mp a).1, b, of_decide_eq_true (List.mem_filter.mp a).2⟩, fun ⟨t, a, b, c⟩ => ⟨t, List.mem_filter.mpr ⟨a, decide_eq_true c⟩, b⟩⟩
/-- one is gone on -/
theorem InRoom.step {R : Nat} {i : Int} {L L' : List T} {hs : List Str} {j : Nat} {x : T} (h : InRoom i L hs) (nd : Nd L) (hx : x ∈ L) (hj : hs[j]? = some x.nm) (p : L'.Perm (updT x.nm (moveT R i) L)) : InRoom i L' (hs.eraseIdx j) := by
  refine ⟨(List.eraseIdx_sublist ..).nodup h.1, fun n => ?_⟩
  rw [mem_erase_at h.1 hj, h.2 n]
  refine ⟨fun ⟨⟨t, a, b, c⟩, ne⟩ => ⟨t, p.mem_iff.mpr (List.mem_filterMap.mpr ⟨t, a, by rw [if_neg (fun z => ne (b.symm.trans z))]⟩), b, c⟩, fun ⟨t, a, b, c⟩ => ?_⟩
  obtain ⟨s, hs', e⟩ := List.mem_filterMap.mp (p.mem_iff.mp a)
  by_cases z : s.nm = x.nm
  · rw [if_pos z] at e
    exfalso
    unfold moveT at e
    split at e
    · cases e
    · rw [← Option.some.inj e] at c
      have : i + 1 = i := c
      omega
  · rw [if_neg z] at e
    rw [Option.some.inj e] at hs' z
    exact ⟨⟨t, hs', b, c⟩, fun y => z (b.trans y)⟩
end Wh

/-! ## L13 -/
set_option Elab.async false
set_option linter.all false
set_option maxRecDepth 100000
set_option maxHeartbeats 4000000


namespace Wh
open PySem PySem.Spec PyProof.Rows L2
section
variable {P : Program} {wo : World} {K : PySem.W.Frag} {mg : Str → Option Value} {base : Heap}
/-- what is read of a name -/
def rdF (L : List T) (g : T → V) (v : V) : Option V := match v with
  | .str n => (look L n).map g
  | _ => none
theorem rdF_map (L : List T) (g : T → V) (hs : List Str) : (hs.map V.str).filterMap (rdF L g) = hs.filterMap fun n => (look L n).map g := by
  rw [List.filterMap_map]
  rfl
def testF (L : List T) (p : T → Bool) (v : V) : Option V := match v with
  | .str n => (look L n).bind fun t => if p t then some (.str n) else none
  | _ => none
theorem testF_map (L : List T) (p : T → Bool) (hs : List Str) : (hs.map V.str).filterMap (testF L p) = (hs.filter fun n => ((look L n).map p).getD false).map V.str := by
  induction hs with
  | nil => rfl
  | cons n r ih =>
    rw [List.map_cons, List.filterMap_cons, List.filter_cons, ih]
    unfold testF
    simp only
    cases e : look L n with
    | none => rfl
    | some t =>
      simp only [Option.bind_some, Option.map_some, Option.getD_some]
      by_cases hp : p t = true
      · rw [if_pos hp, if_pos hp]
        rfl
      · rw [if_neg hp, if_neg hp]
theorem ThAt.look {H : Hp} {d : Addr} {ts : List LTh} (h : ThAt H d ts) {x : LTh} (hx : x ∈ ts) : Wh.look (ts.map (·.t)) x.t.nm = some x.t := look_ts h.nn hx
theorem keys_kV (ts : List LTh) : ((kvsT ts).map fun kv => kV kv.1) = (ts.map (·.t.nm)).map V.str := by
  unfold kvsT
  rw [List.map_map, List.map_map]
  rfl
theorem PlanAt.keepd {H H' : Hp} {a d : Addr} {w : Wn} {kvs : List (Key × V)} (h : PlanAt H a w) (hd : H d = some (.dK kvs)) (k : ∀ b o, H b = some o → b ≠ d → H' b = some o) : PlanAt H' a w := by
  have ne : ∀ {c u}, H c = some u → (∀ kv, u = .dK kv → False) → H' c = some u := fun {c u} hc no => k _ _ hc (fun (z : c = d) => by
    rw [z, hd] at hc
    cases hc
    exact no _ rfl)
  obtain ⟨hl, tl, e, ⟨ha, e1, p1⟩, ⟨ta, e2, p2⟩⟩ := h
  exact ⟨hl, tl, ne e (fun _ z => by cases z), ⟨ha, ne e1 (fun _ z => by cases z), Paired.mapP p1 fun c p z => ne z (fun _ y => by cases y)⟩, ⟨ta, ne e2 (fun _ z => by cases z), Paired.mapP p2 fun c p z => ne z (fun _ y => by cases y)⟩⟩
theorem ThAt.via {H H7 H8 : Hp} {d : Addr} {ts ts2 : List LTh} (h : ThAt H d ts) (fr : FromT ts2 ts) (kd : ∀ b o, H b = some o → b ≠ d → H8 b = some o) (h7 : ThAt H7 d ts2) (ed : H8 d = H7 d) (k : Tups H7 H8) : ThAt H8 d ts2 := by
  refine ⟨ed.trans h7.d, fun x hx => ?_, h7.nn⟩
  obtain ⟨e, _, ok⟩ := h7.th x hx
  obtain ⟨y, hy, e1, e2, _⟩ := fr x hx
  refine ⟨k _ _ e, ?_, ok⟩
  rw [← e1, ← e2]
  exact (h.th y hy).2.1.keepd h.d kd
def spLCrowd : Sp := fun vs H Q _ => ∃ w td rooms stirs d ts, vs = [.ref w, .ref d] ∧ WorldAt H w td rooms stirs ∧ w ≠ d ∧ ThAt H d ts ∧ ts.length ≤ 8 ∧
  ∀ ts' H', (∀ b o, H b = some o → b ≠ d → H' b = some o) → ThAt H' d ts' → FromT ts' ts → ts'.length ≤ ts.length → (ts'.map (·.t)).Perm (crowdL rooms (ts.map (·.t))) → Q .non H'
theorem ok_law_crowded (T : Tx K mg) : FnOk P wo K mg base CX0 1 (He.ga K "_law_crowded") (fdA K (He.ga K "_law_crowded")) ["_law_world_here", "_law_things"] (spLCrowd) := by
  refine okD (F_law_crowded T) sc_law_crowded (fun vs H Q E h => ?_) (fun cdv A outer s H vs Q E hr h => ?_)
  · obtain ⟨w, td, rooms, stirs, d, ts, rfl, _⟩ := h
    rfl
  · obtain ⟨w, td, rooms, stirs, d, ts, rfl, wo_, nwd, th, l8, q⟩ := h
    refine ⟨_, (pss_one (ps_for PassesOwn.never rfl (pi_range1 rfl (z_range T) (pa_cons (pe_callB (call_len_seqK (K := K)) (by rfl) (z_len T) (by decide +kernel) (pa_cons (pe_dget (hu_of hr) (pv 0) pe_str (fun _ _ => rfl)) pa_nil)) pa_nil)) (pg_name (i := 2) sc_law_crowded.nd rfl (Or.inr rfl)) (pss_cons (ps_lock (ps_setLc (i := 3) (own := [("_law_name", 4)]) rfl sc_law_crowded.nd rfl rfl (sw_true rfl rfl rfl (by decide +kernel)) (pi_keys (pv 1)) (blkOk_by (N := ["_law_world_here", "_law_things", "_law_place", "_law_here", "_law_name", "_law_least", "_law_one", "_law_row"]) (sc := defScope s_law_crowded) (by decide +kernel)) (fun _ _ _ _ _ => (pg_name (i := 4) sc_law_crowded.nd rfl (Or.inl rfl))) (fun _ _ _ _ _ => (pts_one (pt_cmpR op_eq (pe_ix (ix_tupK (K := K)) (pe_dget (hu_of hr) (pv 1) (pv 4) (fun _ _ => rfl)) pe_int (fun _ _ => rfl)) (pv 2) (nomark _)))) (fun _ _ _ _ _ => (pv 4))))
 (pss_one (ps_while PassesOwn.never (pt_cmpR op_gt (pe_callB (cr_sum rfl) (by rfl) (z_sum T) (by decide +kernel) (pa_cons (pe_lc (own := [("_law_name", 4)]) rfl sc_law_crowded.nd (pi_list (pv 3)) (blkOk_by (N := ["_law_world_here", "_law_things", "_law_place", "_law_here", "_law_name", "_law_least", "_law_one", "_law_row"]) (sc := defScope s_law_crowded) (by decide +kernel)) (fun _ _ _ _ _ => (pg_name (i := 4) sc_law_crowded.nd rfl (Or.inl rfl))) (fun _ _ _ _ _ => pts_nil) (fun _ _ _ _ _ => (pe_ix (ix_tupK (K := K)) (pe_dget (hu_of hr) (pv 1) (pv 4) (fun _ _ => rfl)) pe_int (fun _ _ => rfl)))) pa_nil)) (pe_ix (ix_listK (K := K)) (pe_dget (hu_of hr) (pv 0) pe_str (fun _ _ => rfl)) (pv 2) (fun _ _ => rfl)) (nomark _)) (pss_cons (ps_set (i := 5) sc_law_crowded.nd rfl (Or.inr rfl) (pe_callB (cr_min rfl) (by rfl) (z_min T) (by decide +kernel) (pa_cons (pe_lc (own := [("_law_name", 4)]) rfl sc_law_crowded.nd (pi_list (pv 3)) (blkOk_by (N := ["_law_world_here", "_law_things", "_law_place", "_law_here", "_law_name", "_law_least", "_law_one", "_law_row"]) (sc := defScope s_law_crowded) (by decide +kernel)) (fun _ _ _ _ _ => (pg_name (i := 4) sc_law_crowded.nd rfl (Or.inl rfl))) (fun _ _ _ _ _ => pts_nil) (fun _ _ _ _ _ => (pe_ix (ix_tupK (K := K)) (pe_dget (hu_of hr) (pv 1) (pv 4) (fun _ _ => rfl)) pe_int (fun _ _ => rfl)))) pa_nil)))
 (pss_cons (ps_set (i := 4) sc_law_crowded.nd rfl (Or.inl rfl) (pe_callB (cr_maxS rfl hr.units) (by rfl) (z_max T) (by decide +kernel) (pa_cons (pe_lc (own := [("_law_one", 6)]) rfl sc_law_crowded.nd (pi_list (pv 3)) (blkOk_by (N := ["_law_world_here", "_law_things", "_law_place", "_law_here", "_law_name", "_law_least", "_law_one", "_law_row"]) (sc := defScope s_law_crowded) (by decide +kernel)) (fun _ _ _ _ _ => (pg_name (i := 6) sc_law_crowded.nd rfl (Or.inl rfl))) (fun _ _ _ _ _ => (pts_one (pt_cmpR op_eq (pe_ix (ix_tupK (K := K)) (pe_dget (hu_of hr) (pv 1) (pv 6) (fun _ _ => rfl)) pe_int (fun _ _ => rfl)) (pv 5) (nomark _)))) (fun _ _ _ _ _ => (pv 6))) pa_nil)))
 (pss_cons (ps_expr (pe_bm PySem.F.plainAttrs_list PySem.F.slot_list_remove PySem.F.type_list_remove (mt_removeS hr.units) (pv 3) (pa_cons (pv 4) pa_nil)))
 (pss_cons (ps_set (i := 7) sc_law_crowded.nd rfl (Or.inl rfl) (pe_dpop1 (pv 1) (pv 4) ⟨rfl, rfl, rfl, rfl⟩))
 (pss_one (ps_if (pt_cmpR op_lt (pe_op op_add (pv 2) pe_int) (pe_callB (call_len_seqK (K := K)) (by rfl) (z_len T) (by decide +kernel) (pa_cons (pe_dget (hu_of hr) (pv 0) pe_str (fun _ _ => rfl)) pa_nil)) (nomark _)) (pss_one (ps_dput (hu_of hr) (pv 1) (pv 4) (pe_op (op_catAK (K := K)) (pe_tup (pa_cons (pe_ix (ix_tupK (K := K)) (pv 7) pe_int (fun _ _ => rfl)) (pa_cons (pe_op op_add (pv 2) pe_int) pa_nil))) (pe_slice (sl_tupAK (K := K)) (pv 7) (po_some pe_int) po_none)) rfl)) pss_nil))))))))))), ?_⟩
    try dsimp only [cxK, cxP, cxW]
    have r4 := wo_.r4
    obtain ⟨rl, sl, ew, erl, esl⟩ := wo_.ex
    walk_at "rds"
    refine k_dg2s (.inl ew) rfl ?_
    walk_at "rds"
    refine x_lenL (SqL.of erl) ?_
    walk_at "rds"
    rw [List.length_map]
    refine k_iR (by omega) (by omega) ?_
    rw [Int.toNat_natCast]
    have nrl : rl ≠ d := fun z => by rw [z, th.d] at erl; cases erl
    refine k_for (itx_r 0 rooms.length) (fun i σ' H' => (∃ o2 o3 o4 o5 o6 o7, σ' = [some (.ref w), some (.ref d), o2, o3, o4, o5, o6, o7]) ∧ (∀ b o, H b = some o → b ≠ d → H' b = some o) ∧
      ∃ ts1, ThAt H' d ts1 ∧ FromT ts1 ts ∧ ts1.length ≤ ts.length ∧ (crowdFrom rooms i (rooms.length - i) (ts1.map (·.t))).Perm (crowdL rooms (ts.map (·.t)))) ?_ (fun _ _ _ _ _ => trivial) (fun i x σ' H1 hx h => ?_) (fun σ' H1 h => ?_)
    · exact ⟨⟨_, _, _, _, _, _, rfl⟩, fun _ _ e _ => e, ts, th, FromT.refl _, Nat.le_refl _, by rw [Nat.sub_zero]; exact .refl _⟩
    · obtain ⟨⟨o2, o3, o4, o5, o6, o7, rfl⟩, kd1, ts1, th1, fr1, le1, pm1⟩ := h
      obtain ⟨hi, rfl⟩ := nth_rng hx
      have hold : (rooms.map V.int)[(i : Int).toNat]? = some (.int (rooms.getD i 0)) := by
        rw [Int.toNat_natCast, List.getElem?_map, List.getD_eq_getElem?_getD, List.getElem?_eq_getElem hi]
        rfl
      have hpos : 1 ≤ rooms.getD i 0 := by
        rw [List.getD_eq_getElem?_getD, List.getElem?_eq_getElem hi]
        exact (wo_.rp _ (List.getElem_mem hi)).1
      walk_at "rds"
      refine r_lockE (d := d) th1.d trivial fun od => ?_
      walk_at "rds"
      refine k_iK (o := od) (kvs := kvsT ts1) upd_same ?_
      refine k_lcP (itx_k d od (kvsT ts1)) (testF (ts1.map (·.t)) fun t => decide (t.sp = (i : Int))) (fun H' k => k _ _ upd_same) ?_ (fun v H' N' hv k hN => ?_) (fun hl H2 fhl k ehl => ?_)
      · unfold kvsT; rw [List.length_map, List.length_map]; exact sz8 (by omega)
      · rw [keys_kV] at hv
        obtain ⟨n, hn, rfl⟩ := List.mem_map.mp hv
        obtain ⟨x, hx', rfl⟩ := List.mem_map.mp hn
        have ex := (th1.th x hx').1
        have ex2 := k _ _ ((upd_ne (o := .frz od (.dK (kvsT ts1))) (fun (z : x.a = d) => by rw [z, th1.d] at ex; cases ex)).trans ex)
        unfold thV at ex2
        refine el_nameT rfl ?_
        walk_at "rds"
        refine k_dg2s (.inr ⟨od, k _ _ upd_same⟩) (valV_kvsT th1.nn hx') ?_
        walk_at "rds"
        refine x_ixT (SqT.of ex2) (atI_nat (v := .int x.t.sp) (by decide) rfl) ?_
        walk_at "rds"
        have hF : testF (ts1.map (·.t)) (fun t => decide (t.sp = (i : Int))) (.str x.t.nm) = if decide (x.t.sp = (i : Int)) = true then some (.str x.t.nm) else none := by
          unfold testF
          simp only
          rw [th1.look hx']
          rfl
        refine k_elT (fun hc => ?_) (fun hc => ?_)
        · walk_at "rds"
          rw [hF, if_pos hc] at hN
          exact hN _ (Same.refl _)
        · rw [hF, hc] at hN
          exact hN _ (Same.refl _)
      refine ⟨k _ _ upd_same, ?_⟩
      have sm2 := same_unlock th1.d k
      have nhl : hl ≠ d := fun z => by
        have := k _ _ (upd_same (H := H1) (a := d) (o := .frz od (.dK (kvsT ts1))))
        rw [← z, ehl] at this
        cases this
      have ehl2 := (upd_ne (H := H2) (o := .dK (kvsT ts1)) nhl).trans ehl
      rw [keys_kV, testF_map] at ehl2
      have ehs : ((ts1.map (·.t.nm)).filter fun n => ((Wh.look (ts1.map (·.t)) n).map fun t => decide (t.sp = (i : Int))).getD false) = ((ts1.map (·.t)).filter fun t => decide (t.sp = (i : Int))).map (·.nm) := by
        rw [nm_lth, List.filter_map]
        congr 1
        refine List.filter_congr fun t ht => ?_
        simp only [Function.comp]
        rw [look_mem th1.nd ht]
        rfl
      rw [ehs] at ehl2
      have th2 := th1.same sm2
      have kd2 : ∀ b o, H b = some o → b ≠ d → (upd H2 d (.dK (kvsT ts1))) b = some o := fun b o e n => sm2 _ _ (kd1 b o e n)
      have fhlH : H hl = none := by
        cases y : H hl with
        | none => rfl
        | some o =>
          have := kd1 _ _ y nhl
          rw [(upd_ne (H := H1) (o := .frz od (.dK (kvsT ts1))) nhl).symm.trans fhl] at this
          cases this
      generalize upd H2 d (.dK (kvsT ts1)) = H3 at *
      walk_at "rds"
      refine r_while (fun m σ' H' => (∃ o4 o5 o6 o7, σ' = [some (.ref w), some (.ref d), some (.int (i : Nat)), some (.ref hl), o4, o5, o6, o7]) ∧ (∀ b o, H b = some o → b ≠ d → H' b = some o) ∧
        ∃ hs ts2, H' hl = some (.lst (hs.map V.str)) ∧ hs.length = m ∧ InRoom i (ts2.map (·.t)) hs ∧ ThAt H' d ts2 ∧ FromT ts2 ts ∧ ts2.length ≤ ts.length ∧ ∃ k, m ≤ k ∧ (settle rooms.length (rooms.getD i 0) i k (ts2.map (·.t))).Perm (settle rooms.length (rooms.getD i 0) i (ts1.map (·.t)).length (ts1.map (·.t)))) _ ⟨⟨_, _, _, _, rfl⟩, kd2, _, ts1, ehl2, rfl, InRoom.first th2.nd, th2, fr1, le1, (ts1.map (·.t)).length, by rw [List.length_map]; exact List.length_filter_le _ _, .refl _⟩ (fun m σ' H4 h => ?_)
      obtain ⟨⟨o4, o5, o6, o7, rfl⟩, kd4, hs, ts2, ehl4, hm, inr, th4, fr4, le4, k, mk, pm⟩ := h
      walk_at "rds"
      have nd4 := th4.nd
      have hsl : hs.length ≤ 8 := by
        have := (inr.perm nd4).length_eq
        rw [List.length_map] at this
        have h2 := List.length_filter_le (fun t : Wh.T => decide (t.sp = (i : Int))) (ts2.map (·.t))
        rw [List.length_map] at h2
        omega
      have ofN : ∀ n ∈ hs, ∃ x ∈ ts2, x.t.nm = n ∧ x.t.sp = (i : Int) := fun n hn => by
        obtain ⟨t, ht, e1, e2⟩ := (inr.2 n).mp hn
        obtain ⟨x, hx, rfl⟩ := List.mem_map.mp ht
        exact ⟨x, hx, e1, e2⟩
      have wo4 := wo_.keep th.d nwd kd4
      refine k_iL (SqL.of ehl4) ?_
      refine k_lcP (itx_l K hl (hs.map V.str)) (rdF (ts2.map (·.t)) fun t => .int t.fo) (fun H' k => SqL.of (k _ _ ehl4)) (by rw [List.length_map]; exact sz8 (by omega)) (fun v H' N' hv k hN => ?_) (fun sa H5 fsa sm5 esa => ?_)
      · obtain ⟨n, hn, rfl⟩ := List.mem_map.mp hv
        obtain ⟨x, hx', rfl, _⟩ := ofN n hn
        have ex := k _ _ (th4.th x hx').1
        unfold thV at ex
        refine el_name rfl ?_
        walk_at "rds"
        refine k_dg2s (.inl (k _ _ th4.d)) (valV_kvsT th4.nn hx') ?_
        walk_at "rds"
        refine x_ixT (SqT.of ex) (atI_nat (v := .int x.t.fo) (by decide) rfl) ?_
        have hF : rdF (ts2.map (·.t)) (fun t => .int t.fo) (.str x.t.nm) = some (.int x.t.fo) := by
          unfold rdF
          simp only
          rw [th4.look hx']
          rfl
        rw [hF] at hN
        exact hN _ (Same.refl _)
      rw [rdF_map] at esa
      have esa2 : H5 sa = some (.lst ((hs.filterMap fun n => (Wh.look (ts2.map (·.t)) n).map (·.fo)).map V.int)) := by
        rw [esa, List.map_filterMap]
        congr 2
        refine fm_congr fun n _ => ?_
        rw [Option.map_map]
        rfl
      have th5 := th4.same sm5
      have wo5 := wo4.same sm5
      have kd5 : ∀ b o, H b = some o → b ≠ d → H5 b = some o := fun b o e n => sm5 _ _ (kd4 b o e n)
      have ehl5 := sm5 _ _ ehl4
      clear esa
      obtain ⟨rl5, sl5, ew5, erl5, _⟩ := wo5.ex
      walk_at "rds"
      refine ⟨sa, _, rfl, SqL.of esa2, ?_⟩
      rw [inr.total nd4]
      walk_at "rds"
      refine k_dg2s (.inl ew5) rfl ?_
      walk_at "rds"
      refine x_ixL (SqL.of erl5) (atI_nat (Int.natCast_nonneg i) hold) ?_
      walk_at "rds"
      refine k_wh (fun hc => ?_) (fun hc => ?_)
      · have hgt : totalL i (ts2.map (·.t)) > rooms.getD i 0 := of_decide_eq_true hc
        have hne : hs ≠ [] := fun z => by
          have := inr.total nd4
          rw [z] at this
          have h0 : (([] : List Str).filterMap fun n => (Wh.look (ts2.map (·.t)) n).map (·.fo)).sum = 0 := rfl
          omega
        walk_at "rds"
        refine k_iL (SqL.of ehl5) ?_
        refine k_lcP (itx_l K hl (hs.map V.str)) (rdF (ts2.map (·.t)) fun t => .int t.fo) (fun H' k => SqL.of (k _ _ ehl5)) (by rw [List.length_map]; exact sz8 (by omega)) (fun v H' N' hv k hN => ?_) (fun sb H6 fsb sm6 esb => ?_)
        · obtain ⟨n, hn, rfl⟩ := List.mem_map.mp hv
          obtain ⟨x, hx', rfl, _⟩ := ofN n hn
          have ex := k _ _ (th5.th x hx').1
          unfold thV at ex
          refine el_name rfl ?_
          walk_at "rds"
          refine k_dg2s (.inl (k _ _ th5.d)) (valV_kvsT th5.nn hx') ?_
          walk_at "rds"
          refine x_ixT (SqT.of ex) (atI_nat (v := .int x.t.fo) (by decide) rfl) ?_
          have hF : rdF (ts2.map (·.t)) (fun t => .int t.fo) (.str x.t.nm) = some (.int x.t.fo) := by
            unfold rdF
            simp only
            rw [th5.look hx']
            rfl
          rw [hF] at hN
          exact hN _ (Same.refl _)
        rw [rdF_map] at esb
        have esb2 : H6 sb = some (.lst ((hs.filterMap fun n => (Wh.look (ts2.map (·.t)) n).map (·.fo)).map V.int)) := by
          rw [esb, List.map_filterMap]
          congr 2
          refine fm_congr fun n _ => ?_
          rw [Option.map_map]
          rfl
        have th6 := th5.same sm6
        have ehl6 := sm6 _ _ ehl5
        have kd6 : ∀ b o, H b = some o → b ≠ d → H6 b = some o := fun b o e n => sm6 _ _ (kd5 b o e n)
        clear esb
        have memNs : ∀ y, y ∈ (hs.filterMap fun n => (Wh.look (ts2.map (·.t)) n).map (·.fo)) ↔ ∃ x ∈ ts2, x.t.sp = (i : Int) ∧ x.t.fo = y := fun y => by
          rw [List.mem_filterMap]
          refine ⟨fun ⟨n, hn, e⟩ => ?_, fun ⟨x, hx, e1, e2⟩ => ?_⟩
          · obtain ⟨x, hx', rfl, e1⟩ := ofN n hn
            rw [th4.look hx'] at e
            exact ⟨x, hx', e1, Option.some.inj e⟩
          · exact ⟨x.t.nm, (inr.2 _).mpr ⟨x.t, List.mem_map.mpr ⟨x, hx, rfl⟩, rfl, e1⟩, by rw [th4.look hx]; exact congrArg some e2⟩
        walk_at "rds"
        refine ⟨sb, _, rfl, SqL.of esb2, ?_, fun lst_ hl1 hl2 => ?_⟩
        · obtain ⟨n, r, e⟩ : ∃ n r, hs = n :: r := List.exists_cons_of_ne_nil hne
          obtain ⟨x, hx', e0, e1⟩ := ofN n (by rw [e]; exact List.mem_cons_self ..)
          exact List.length_pos_of_mem ((memNs _).mpr ⟨x, hx', e1, rfl⟩)
        obtain ⟨x1, hx1, sx1, fx1⟩ := (memNs _).mp hl1
        walk_at "rds"
        refine k_iL (SqL.of ehl6) ?_
        refine k_lcP (itx_l K hl (hs.map V.str)) (testF (ts2.map (·.t)) fun t => decide (t.fo = lst_)) (fun H' k => SqL.of (k _ _ ehl6)) (by rw [List.length_map]; exact sz8 (by omega)) (fun v H' N' hv k hN => ?_) (fun sc H7 fsc sm7 esc => ?_)
        · obtain ⟨n, hn, rfl⟩ := List.mem_map.mp hv
          obtain ⟨x, hx', rfl, _⟩ := ofN n hn
          have ex := k _ _ (th6.th x hx').1
          unfold thV at ex
          refine el_nameT rfl ?_
          walk_at "rds"
          refine k_dg2s (.inl (k _ _ th6.d)) (valV_kvsT th6.nn hx') ?_
          walk_at "rds"
          refine x_ixT (SqT.of ex) (atI_nat (v := .int x.t.fo) (by decide) rfl) ?_
          walk_at "rds"
          have hF : testF (ts2.map (·.t)) (fun t => decide (t.fo = lst_)) (.str x.t.nm) = if decide (x.t.fo = lst_) = true then some (.str x.t.nm) else none := by
            unfold testF
            simp only
            rw [th6.look hx']
            rfl
          refine k_elT (fun hc => ?_) (fun hc => ?_)
          · walk_at "rds"
            rw [hF, if_pos hc] at hN
            exact hN _ (Same.refl _)
          · rw [hF, hc] at hN
            exact hN _ (Same.refl _)
        rw [testF_map] at esc
        have memCs : ∀ n, n ∈ (hs.filter fun n => ((Wh.look (ts2.map (·.t)) n).map fun t => decide (t.fo = lst_)).getD false) ↔ ∃ x ∈ ts2, x.t.sp = (i : Int) ∧ x.t.fo = lst_ ∧ x.t.nm = n := fun n => by
          rw [List.mem_filter]
          refine ⟨fun ⟨hn, e⟩ => ?_, fun ⟨x, hx, e1, e2, e3⟩ => ?_⟩
          · obtain ⟨x, hx', rfl, e1⟩ := ofN n hn
            rw [th4.look hx'] at e
            exact ⟨x, hx', e1, of_decide_eq_true e, rfl⟩
          · refine ⟨(inr.2 _).mpr ⟨x.t, List.mem_map.mpr ⟨x, hx, rfl⟩, e3, e1⟩, ?_⟩
            rw [← e3, th4.look hx]
            exact decide_eq_true e2
        obtain ⟨c1, cr, ecs⟩ : ∃ n r, (hs.filter fun n => ((Wh.look (ts2.map (·.t)) n).map fun t => decide (t.fo = lst_)).getD false) = n :: r := List.exists_cons_of_ne_nil (fun z => by
          have := (memCs x1.t.nm).mpr ⟨x1, hx1, sx1, fx1, rfl⟩
          rw [z] at this
          cases this)
        rw [ecs] at esc memCs
        have th7 := th6.same sm7
        have ehl7 := sm7 _ _ ehl6
        have kd7 : ∀ b o, H b = some o → b ≠ d → H7 b = some o := fun b o e n => sm7 _ _ (kd6 b o e n)
        walk_at "rds"
        refine ⟨sc, c1, cr, rfl, SqL.of esc, ?_⟩
        obtain ⟨mx1, mx2⟩ := maxS_spec cr c1
        change kAsg _ _ _ (V.str (maxS c1 cr)) _
        obtain ⟨x, hx', sx, fx, nx⟩ := (memCs _).mp mx1
        rw [← nx]
        walk_at "rds"
        refine k_bmL ehl7 ?_
        have hin : x.t.nm ∈ hs := (inr.2 _).mpr ⟨x.t, List.mem_map.mpr ⟨x, hx', rfl⟩, rfl, sx⟩
        obtain ⟨j, hj⟩ := List.getElem?_of_mem hin
        walk_at "rds"
        refine ⟨hl, hs, x.t.nm, j, rfl, rfl, ehl7, hj, fun m' hm' e => ?_, ?_⟩
        · obtain ⟨h1, e1⟩ := List.getElem?_eq_some_iff.mp e
          obtain ⟨h2, e2⟩ := List.getElem?_eq_some_iff.mp hj
          have := (List.getElem_inj inr.1).mp (e1.trans e2.symm)
          omega
        have kd8 : ∀ b o, H b = some o → b ≠ d → (upd H7 hl (.lst ((hs.eraseIdx j).map V.str))) b = some o := fun b o e n => (upd_ne (ne_of_none e fhlH)).trans (kd7 b o e n)
        have tp8 : Tups H7 (upd H7 hl (.lst ((hs.eraseIdx j).map V.str))) := fun a xs e => (upd_ne (fun (z : a = hl) => by rw [z, ehl7] at e; cases e)).trans e
        have th8 := th.via fr4 kd8 th7 (upd_ne nhl.symm) tp8
        have ehl8 : (upd H7 hl (.lst ((hs.eraseIdx j).map V.str))) hl = some (.lst ((hs.eraseIdx j).map V.str)) := upd_same
        generalize upd H7 hl (.lst ((hs.eraseIdx j).map V.str)) = H8 at *
        walk_at "rds"
        refine k_pop1 (.inl th8.d) ?_
        walk_at "rds"
        refine k_pop1s th8.d (valV_kvsT th8.nn hx') ?_
        obtain ⟨th9, fr9⟩ := th8.del x.t.nm
        have kd9 : ∀ b o, H b = some o → b ≠ d → (upd H8 d (.dK (dropK (kvsT ts2) (.inr x.t.nm)))) b = some o := fun b o e n => (upd_ne n).trans (kd8 b o e n)
        have ehl9 := (upd_ne (o := .dK (dropK (kvsT ts2) (.inr x.t.nm))) nhl).trans ehl8
        have ex9 := tup_put (o := .dK (dropK (kvsT ts2) (.inr x.t.nm))) th8.d (th8.th x hx').1
        have px9 := (th8.th x hx').2.1.put (o := .dK (dropK (kvsT ts2) (.inr x.t.nm))) th8.d
        have xok := (th8.th x hx').2.2
        unfold thV at ex9
        generalize upd H8 d (.dK (dropK (kvsT ts2) (.inr x.t.nm))) = H9 at *
        have wo9 := wo_.keep th.d nwd kd9
        obtain ⟨rl9, sl9, ew9, erl9, _⟩ := wo9.ex
        walk_at "rds"
        refine k_dg2s (.inl ew9) rfl ?_
        walk_at "rds"
        refine x_lenL (SqL.of erl9) ?_
        walk_at "rds"
        rw [show (rooms.map V.int).length = rooms.length from List.length_map ..]
        have hxt : x.t ∈ ts2.map (·.t) := List.mem_map.mpr ⟨x, hx', rfl⟩
        have hwk : weakL (i : Int) (ts2.map (·.t)) = some x.t := weakL_is nd4 hxt sx fun b hb sb => by
          obtain ⟨y, hy, rfl⟩ := List.mem_map.mp hb
          intro wk
          have l1 := hl2 _ ((memNs _).mpr ⟨y, hy, sb, rfl⟩)
          rcases wk with z | z
          · omega
          · exact mx2 y.t.nm ((memCs _).mpr ⟨y, hy, sb, by omega, rfl⟩) (by rw [← nx]; exact z.2)
        have hjl : (hs.eraseIdx j).length + 1 = m := by
          have h2 := (List.getElem?_eq_some_iff.mp hj).1
          rw [List.length_eraseIdx_of_lt h2]
          omega
        obtain ⟨k', rfl⟩ : ∃ k', k = k' + 1 := ⟨k - 1, by omega⟩
        have hstep : settle rooms.length (rooms.getD i 0) i (k' + 1) (ts2.map (·.t)) = settle rooms.length (rooms.getD i 0) i k' (updT x.t.nm (moveT rooms.length i) (ts2.map (·.t))) := by
          conv => lhs; unfold settle
          rw [if_pos hgt, hwk]
          rfl
        rw [hstep] at pm
        have fin : ∀ (ts3 : List LTh) (H' : Hp), (∀ b o, H b = some o → b ≠ d → H' b = some o) → H' hl = some (.lst ((hs.eraseIdx j).map V.str)) → ThAt H' d ts3 → FromT ts3 ts → ts3.length ≤ ts.length → (ts3.map (·.t)).Perm (updT x.t.nm (moveT rooms.length i) (ts2.map (·.t))) →
            ∃ m', m' < m ∧ (∀ b o, H b = some o → b ≠ d → H' b = some o) ∧ ∃ hs ts2, H' hl = some (.lst (hs.map V.str)) ∧ hs.length = m' ∧ InRoom i (ts2.map (·.t)) hs ∧ ThAt H' d ts2 ∧ FromT ts2 ts ∧ ts2.length ≤ ts.length ∧ ∃ k, m' ≤ k ∧ (settle rooms.length (rooms.getD i 0) i k (ts2.map (·.t))).Perm (settle rooms.length (rooms.getD i 0) i (ts1.map (·.t)).length (ts1.map (·.t))) := fun ts3 H' kd e th3 fr3 le3 p3 =>
          ⟨(hs.eraseIdx j).length, by omega, kd, hs.eraseIdx j, ts3, e, rfl, inr.step nd4 hxt hj p3, th3, fr3, le3, k', by omega, (settle_perm k' th3.nd p3).trans pm⟩
        refine k_if (fun hc2 => ?_) (fun hc2 => ?_)
        · have hlt := of_decide_eq_true hc2
          walk_at "rds"
          refine x_ixT (SqT.of ex9) (atI_nat (v := .ref x.pl) (by decide) rfl) ?_
          walk_at "rds"
          intro r1 fr1_
          have sm10 := same_new (o := .tup [.ref x.pl, .int ((i : Int) + 1)]) fr1_
          have er1 : (upd H9 r1 (.tup [.ref x.pl, .int ((i : Int) + 1)])) r1 = some (.tup [.ref x.pl, .int ((i : Int) + 1)]) := upd_same
          generalize upd H9 r1 (.tup [.ref x.pl, .int ((i : Int) + 1)]) = H10 at *
          walk_at "rds"
          refine x_slA (SqT.of (sm10 _ _ ex9)) (by show ¬ (HT.sIx 5 0 (some 2) = 0 ∧ HT.sIx 5 5 none = 5); decide) fun p3 f3 => ?_
          have sm11 := same_new (o := .tup (cutV [.ref x.pl, .int x.t.sp, .int x.t.kin, .int x.t.fo, .int x.t.si] (some 2) none)) f3
          have ep3 : (upd H10 p3 (.tup (cutV [.ref x.pl, .int x.t.sp, .int x.t.kin, .int x.t.fo, .int x.t.si] (some 2) none))) p3 = some (.tup [.int x.t.kin, .int x.t.fo, .int x.t.si]) := upd_same
          have er2 := sm11 _ _ er1
          generalize upd H10 p3 (.tup (cutV [.ref x.pl, .int x.t.sp, .int x.t.kin, .int x.t.fo, .int x.t.si] (some 2) none)) = H11 at *
          walk_at "rds"
          refine x_catA (SqT.of er2) (SqT.of ep3) (by simp) (by simp) (sz16 (by simp)) fun p5 f5 => ?_
          have sm12 := (sm10.trans sm11).trans (same_new (o := .tup ([.ref x.pl, .int ((i : Int) + 1)] ++ [.int x.t.kin, .int x.t.fo, .int x.t.si])) f5)
          have ep5 : (upd H11 p5 (.tup ([.ref x.pl, .int ((i : Int) + 1)] ++ [.int x.t.kin, .int x.t.fo, .int x.t.si]))) p5 = some (.tup (thV ⟨{ x.t with sp := (i : Int) + 1 }, p5, x.pl⟩)) := upd_same
          generalize upd H11 p5 (.tup ([.ref x.pl, .int ((i : Int) + 1)] ++ [.int x.t.kin, .int x.t.fo, .int x.t.si])) = H12 at *
          have th12 := th9.same sm12
          have hnn : ({ x.t with sp := (i : Int) + 1 } : Wh.T).nm ∉ (delTs x.t.nm ts2).map (·.t.nm) := fun z => by
            obtain ⟨y, hy, e⟩ := List.mem_map.mp z
            exact (of_decide_eq_true (List.mem_filter.mp hy).2) e
          have hok : ({ x.t with sp := (i : Int) + 1 } : Wh.T).Ok := ⟨xok.w, xok.k0, xok.k9, by show (0 : Int) ≤ (i : Int) + 1; omega, xok.f1, xok.fc, xok.i0⟩
          have thZ := th12.add ep5 hnn (px9.same sm12) hok
          have ll : (delTs x.t.nm ts2).length + 1 ≤ ts2.length := by
            unfold delTs
            have : (ts2.filter fun y => decide (y.t.nm ≠ x.t.nm)).length < ts2.length := by
              refine List.length_filter_lt_length_iff_exists.mpr ⟨x, hx', ?_⟩
              simp
            omega
          walk_at "rds"
          refine k_dp3s th12.d (by unfold kvsT; rw [List.length_map]; exact sz8 (by omega)) ?_
          obtain ⟨m', r1_, r2_, r3_⟩ := fin (delTs x.t.nm ts2 ++ [⟨{ x.t with sp := (i : Int) + 1 }, p5, x.pl⟩]) (upd H12 d (.dK (putK (kvsT (delTs x.t.nm ts2)) (.inr x.t.nm) (.ref p5)))) (fun b o e n => (upd_ne n).trans (sm12 _ _ (kd9 b o e n))) ((upd_ne nhl).trans (sm12 _ _ ehl9)) thZ (fun y hy => by
            rcases List.mem_append.mp hy with z | z
            · exact (fr9.trans fr4) y z
            · obtain rfl := List.mem_singleton.mp z
              obtain ⟨y0, h0, e1, e2, e3⟩ := fr4 x hx'
              exact ⟨y0, h0, e1, e2, e3⟩) (by rw [List.length_append, List.length_singleton]; omega) (by
            rw [List.map_append, delTs_t]
            refine (back_perm (a := x.t) (t' := { x.t with sp := (i : Int) + 1 }) rfl nd4 hxt).trans ?_
            rw [updT_congr (f := moveT rooms.length i) (g := fun _ => some { x.t with sp := (i : Int) + 1 }) fun u hu e => by
              rw [nd_uniq nd4 hu hxt e]
              unfold moveT
              rw [if_neg (by omega)]])
          exact ⟨m', r1_, ⟨_, _, _, _, rfl⟩, r2_, r3_⟩
        · have hge := of_decide_eq_false hc2
          walk_at "rds"
          obtain ⟨m', r1_, r2_, r3_⟩ := fin (delTs x.t.nm ts2) H9 kd9 ehl9 th9 (fr9.trans fr4) (Nat.le_trans (List.length_filter_le _ _) le4) (by
            rw [delTs_t]
            rw [updT_congr (f := moveT rooms.length i) (g := fun _ => none) fun u hu e => by
              unfold moveT
              rw [if_pos (by omega)]])
          exact ⟨m', r1_, ⟨_, _, _, _, rfl⟩, r2_, r3_⟩
      · have hng : ¬ totalL i (ts2.map (·.t)) > rooms.getD i 0 := of_decide_eq_false hc
        rw [settle_stop hng] at pm
        refine ⟨⟨_, _, _, _, _, _, rfl⟩, kd5, ts2, th5, fr4, le4, ?_⟩
        have e1 : rooms.length - i = (rooms.length - (i + 1)) + 1 := by omega
        rw [e1] at pm1
        have e2 : crowdFrom rooms i (rooms.length - (i + 1) + 1) (ts1.map (·.t)) = crowdFrom rooms (i + 1) (rooms.length - (i + 1)) (settle rooms.length (rooms.getD i 0) i (ts1.map (·.t)).length (ts1.map (·.t))) := rfl
        rw [e2] at pm1
        exact (crowdFrom_perm _ _ nd4 pm).trans pm1
    · obtain ⟨⟨o2, o3, o4, o5, o6, o7, rfl⟩, kd1, ts1, th1, fr1, le1, pm1⟩ := h
      rw [List.length_map, List.length_range, Nat.sub_self] at pm1
      exact q ts1 H1 kd1 th1 fr1 le1 pm1
end
end Wh

/-! ## L14 -/
set_option Elab.async false
set_option linter.all false
set_option maxRecDepth 100000
set_option maxHeartbeats 4000000


namespace Wh
open PySem PySem.Spec PyProof.Rows L2
section
variable {P : Program} {wo : World} {K : PySem.W.Frag} {mg : Str → Option Value} {base : Heap}
theorem look_bind {L : List T} (nd : Nd L) {β : Type} (f : T → Option β) : ∀ M : List T, (∀ t ∈ M, t ∈ L) → (M.map (·.nm)).filterMap (fun n => (look L n).bind f) = M.filterMap f
  | [], _ => rfl
  | t :: r, h => by
    rw [List.map_cons, List.filterMap_cons, List.filterMap_cons, look_bind nd f r fun x hx => h x (List.mem_cons_of_mem _ hx), look_mem nd (h t (List.mem_cons_self ..))]
    rfl
def spLMoved : Sp := fun vs H Q _ => ∃ w td rooms stirs d ts mv, vs = [.ref w, .ref d, movV mv] ∧ WorldAt H w td rooms stirs ∧ ThAt H d ts ∧ ts.length ≤ 8 ∧ mv ∈ movL (ts.map (·.t)) ∧
  ∀ d' ts' H', Same H H' → H d' = none → ThAt H' d' ts' → FromT ts' ts → ts'.length ≤ ts.length → (ts'.map (·.t)).Perm (stepL rooms stirs mv (ts.map (·.t))) → Q (.ref d') H'
theorem ok_law_moved (T : Tx K mg) : FnOk P wo K mg base CX0 3 (He.ga K "_law_moved") (fdA K (He.ga K "_law_moved")) ["_law_world_here", "_law_things", "_law_move"] (spLMoved) := by
  refine okD (F_law_moved T) sc_law_moved (fun vs H Q E h => ?_) (fun cdv A outer s H vs Q E hr h => ?_)
  · obtain ⟨w, td, rooms, stirs, d, ts, mv, rfl, _⟩ := h
    rfl
  · obtain ⟨w, td, rooms, stirs, d, ts, mv, rfl, wo_, th, l8, hmv, q⟩ := h
    refine ⟨_, (pss_cons (ps_set (i := 3) sc_law_moved.nd rfl (Or.inl rfl) pe_dnewK)
 (pss_cons (ps_for PassesOwn.never rfl (pi_list (pe_callB (call_sortedD rfl) (by rfl) (z_sorted T) (by decide +kernel) (pa_cons (pv 1) pa_nil))) (pg_name (i := 4) sc_law_moved.nd rfl (Or.inl rfl)) (pss_cons (ps_asg (pe_dget (hu_of hr) (pv 1) (pv 4) (fun _ _ => rfl)) (pg_tupK (K := K) (n := 5) rfl (pgs_cons (pg_name (i := 5) sc_law_moved.nd rfl (Or.inl rfl)) (pgs_cons (pg_name (i := 6) sc_law_moved.nd rfl (Or.inl rfl)) (pgs_cons (pg_name (i := 7) sc_law_moved.nd rfl (Or.inl rfl)) (pgs_cons (pg_name (i := 8) sc_law_moved.nd rfl (Or.inl rfl)) (pgs_cons (pg_name (i := 9) sc_law_moved.nd rfl (Or.inl rfl)) pgs_nil)))))))
 (pss_cons (ps_set (i := 8) sc_law_moved.nd rfl (Or.inl rfl) (pe_call (ok_law_waned (P := P) (wo := wo) (K := K) T) (hr.mono (by decide)) rfl (g_law_waned T) (F_law_waned T).kp (b_law_waned T) .nil pass0 (pa_cons (pv 5) (pa_cons (pv 8) (pa_cons (pv 9) pa_nil)))))
 (pss_one (ps_if (pt_cmpR op_gt (pv 8) pe_int (nomark _)) (pss_one (ps_dput (hu_of hr) (pv 3) (pv 4) (pe_tup (pa_cons (pv 5) (pa_cons (pv 6) (pa_cons (pv 7) (pa_cons (pv 8) (pa_cons (pe_op op_add (pv 9) pe_int) pa_nil)))))) rfl)) pss_nil)))))
 (pss_cons (ps_if (pt_cmp (pc_notN (pv 2))) (pss_one (ps_expr (pe_call (ok_law_asked (P := P) (wo := wo) (K := K) T) (hr.mono (by decide)) rfl (g_law_asked T) (F_law_asked T).kp (b_law_asked T) .nil pass0 (pa_cons (pv 0) (pa_cons (pv 3) (pa_cons (pv 2) pa_nil)))))) pss_nil)
 (pss_cons (ps_expr (pe_call (ok_law_crowded (P := P) (wo := wo) (K := K) T) (hr.mono (by decide)) rfl (g_law_crowded T) (F_law_crowded T).kp (b_law_crowded T) .nil pass0 (pa_cons (pv 0) (pa_cons (pv 3) pa_nil))))
 (pss_one (ps_ret (pv 3))))))), ?_⟩
    try dsimp only [cxK, cxP, cxW]
    walk_at "rds"
    intro d1 fd1
    have sm1 := same_new (o := .dK []) fd1
    have th1 := th.same sm1
    have ed1 : (upd H d1 (.dK [])) d1 = some (.dK []) := upd_same
    generalize upd H d1 (.dK []) = H1 at *
    walk_at "rds"
    refine ⟨d, kvsT ts, ts.map (·.t.nm), rfl, .inl th1.d, keys_kvsT _, by rw [List.length_map]; omega, fun ys p hperm hsort f2 => ?_⟩
    have hyl : ys.length = ts.length := by rw [hperm.length_eq, List.length_map]
    have ynd : ys.Nodup := hperm.nodup_iff.mpr th.nn
    have sm2 := sm1.trans (same_new (o := .lst (ys.map V.str)) f2)
    have eyp : (upd H1 p (.lst (ys.map V.str))) p = some (.lst (ys.map V.str)) := upd_same
    have npd : p ≠ d1 := (ne_of_none ed1 f2).symm
    have ed2 := (same_new (o := .lst (ys.map V.str)) f2) _ _ ed1
    generalize upd H1 p (.lst (ys.map V.str)) = H2 at *
    refine k_iL (SqL.of eyp) ?_
    refine k_for (itx_l K p (ys.map V.str)) (fun i σ' H' => (∃ o4 o5 o6 o7 o8 o9, σ' = [some (.ref w), some (.ref d), some (movV mv), some (.ref d1), o4, o5, o6, o7, o8, o9]) ∧ (∀ b o, H2 b = some o → b ≠ d1 → H' b = some o) ∧
      ∃ ts1, ThAt H' d1 ts1 ∧ FromT ts1 ts ∧ ts1.length ≤ i ∧ ts1.map (·.t) = (ys.take i).filterMap fun n => (Wh.look (ts.map (·.t)) n).bind waneT) ?_ (fun i σ' H' _ h => SqL.of (h.2.1 _ _ eyp npd)) (fun i x σ' H3 hx h => ?_) (fun σ' H3 h => ?_)
    · exact ⟨⟨_, _, _, _, _, _, rfl⟩, fun _ _ e _ => e, [], ⟨ed2, (fun x hx => nomatch hx), .nil⟩, (fun x hx => nomatch hx), Nat.le_refl _, rfl⟩
    · obtain ⟨⟨o4, o5, o6, o7, o8, o9, rfl⟩, kd3, ts1, th3, fr3, le3, et3⟩ := h
      obtain ⟨nm, hn, rfl, hi⟩ := nth_str hx
      obtain ⟨x, hx', rfl⟩ := List.mem_map.mp (hperm.mem_iff.mp (List.mem_of_getElem? hn))
      have keepH : ∀ b o, H b = some o → H3 b = some o := fun b o e => kd3 _ _ (sm2 _ _ e) (ne_of_none e fd1)
      have thc := th.same keepH
      obtain ⟨ex, px, xok⟩ := thc.th x hx'
      have ex2 := ex
      unfold thV at ex2
      walk_at "rds"
      refine k_dg2s (.inl thc.d) (valV_kvsT th.nn hx') ?_
      walk_at "rds"
      refine ⟨x.pl, x.t.wn, x.t.fo, x.t.si, rfl, px, xok.w, xok.i0, fun H4 sm4 => ?_⟩
      have th4 := th3.same sm4
      have px4 := px.same sm4
      have kd4 : ∀ b o, H2 b = some o → b ≠ d1 → H4 b = some o := fun b o e n => sm4 _ _ (kd3 b o e n)
      have lk := th.look hx'
      have hnt : x.t.nm ∉ ts1.map (·.t.nm) := fun z => by
        rw [nm_lth, et3] at z
        obtain ⟨t, ht, e⟩ := List.mem_map.mp z
        obtain ⟨n, hn2, en⟩ := List.mem_filterMap.mp ht
        obtain ⟨s, es, ew⟩ := Option.bind_eq_some_iff.mp en
        have h1 := (look_some es).2
        have h2 := waneT_nm2 ew
        rw [← e, h2, h1] at hn
        exact not_take ynd hn hn2
      walk_at "rds"
      refine k_if (fun hc => ?_) (fun hc => ?_)
      · have h0 := of_decide_eq_true hc
        walk_at "rds"
        intro r fr
        have smr := sm4.trans (same_new (o := .tup [.ref x.pl, .int x.t.sp, .int x.t.kin, .int (max 0 (x.t.fo / (x.t.wn.coming x.t.si).1 - (x.t.wn.coming x.t.si).2)), .int (x.t.si + 1)]) fr)
        have hw : waneT x.t = some { x.t with fo := x.t.fo / (x.t.wn.coming x.t.si).1 - (x.t.wn.coming x.t.si).2, si := x.t.si + 1 } := by
          unfold waneT
          rw [if_neg (by omega)]
        have er : (upd H4 r (.tup [.ref x.pl, .int x.t.sp, .int x.t.kin, .int (max 0 (x.t.fo / (x.t.wn.coming x.t.si).1 - (x.t.wn.coming x.t.si).2)), .int (x.t.si + 1)])) r = some (.tup (thV ⟨{ x.t with fo := x.t.fo / (x.t.wn.coming x.t.si).1 - (x.t.wn.coming x.t.si).2, si := x.t.si + 1 }, r, x.pl⟩)) := by
          rw [upd_same]
          unfold thV
          simp only
          rw [show max 0 (x.t.fo / (x.t.wn.coming x.t.si).1 - (x.t.wn.coming x.t.si).2) = x.t.fo / (x.t.wn.coming x.t.si).1 - (x.t.wn.coming x.t.si).2 by omega]
        have px5 := px.same smr
        have th5 := th3.same smr
        have kd5 : ∀ b o, H2 b = some o → b ≠ d1 → _ := fun b o e n => smr b o (kd3 b o e n)
        generalize upd H4 r (.tup [.ref x.pl, .int x.t.sp, .int x.t.kin, .int (max 0 (x.t.fo / (x.t.wn.coming x.t.si).1 - (x.t.wn.coming x.t.si).2)), .int (x.t.si + 1)]) = H5 at *
        have c0 := coming_sh xok.w xok.i0
        obtain ⟨ok2, _, _⟩ := wane_ok xok hw c0
        have thZ := th5.add er hnt px5 ok2
        walk_at "rds"
        refine k_dp3s th5.d (by unfold kvsT; rw [List.length_map]; exact sz8 (by omega)) ?_
        refine ⟨⟨_, _, _, _, _, _, rfl⟩, fun b o e n => (upd_ne n).trans (kd5 b o e n), _, thZ, fun y hy => ?_, by rw [List.length_append, List.length_singleton]; omega, ?_⟩
        · rcases List.mem_append.mp hy with z | z
          · exact fr3 y z
          · obtain rfl := List.mem_singleton.mp z
            exact ⟨x, hx', rfl, rfl, rfl⟩
        · rw [List.map_append, et3, List.take_add_one, hn, List.filterMap_append]
          simp only [Option.toList_some, List.filterMap_cons, List.filterMap_nil, lk, Option.bind_some, hw]
          rfl
      · have h0 := of_decide_eq_false hc
        have hw : waneT x.t = none := by
          unfold waneT
          rw [if_pos (by omega)]
        walk_at "rds"
        refine ⟨⟨_, _, _, _, _, _, rfl⟩, kd4, ts1, th4, fr3, by omega, ?_⟩
        rw [et3, List.take_add_one, hn, List.filterMap_append]
        simp only [Option.toList_some, List.filterMap_cons, List.filterMap_nil, lk, Option.bind_some, hw, List.append_nil]
    · obtain ⟨⟨o4, o5, o6, o7, o8, o9, rfl⟩, kd3, ts1, th3, fr3, le3, et3⟩ := h
      rw [List.length_map] at et3 le3
      rw [List.take_length] at et3
      have keepH : ∀ b o, H b = some o → H3 b = some o := fun b o e => kd3 _ _ (sm2 _ _ e) (ne_of_none e fd1)
      have pw : (ts1.map (·.t)).Perm (waneL (ts.map (·.t))) := by
        rw [et3]
        unfold waneL
        rw [← look_bind th.nd waneT _ fun t h => h, ← nm_lth]
        exact hperm.filterMap _
      have wo3 := wo_.same keepH
      have nwd : w ≠ d1 := by
        obtain ⟨_, _, e, _⟩ := wo_.ex
        exact ne_of_none e fd1
      have step2 : ∀ (ts2 : List LTh) (H4 : Hp), Same H H4 → ThAt H4 d1 ts2 → FromT ts2 ts → ts2.length ≤ ts.length → (ts2.map (·.t)).Perm (match mv with
          | none => waneL (ts.map (·.t))
          | some n => askL stirs n (waneL (ts.map (·.t)))) → ∀ ts' H', (∀ b o, H4 b = some o → b ≠ d1 → H' b = some o) → ThAt H' d1 ts' → FromT ts' ts2 → ts'.length ≤ ts2.length → (ts'.map (·.t)).Perm (crowdL rooms (ts2.map (·.t))) → Q (.ref d1) H' := fun ts2 H4 s4 t4 f4 l4 p4 ts' H' k' t' f' l' p' =>
        q d1 ts' H' (fun b o e => k' _ _ (s4 _ _ e) (ne_of_none e fd1)) fd1 t' (f'.trans f4) (by omega) (p'.trans (by
          unfold stepL
          exact crowd_perm t4.nd p4))
      cases mv with
      | none =>
        dsimp only [movV]
        walk_at "rds"
        refine ⟨w, td, rooms, stirs, d1, ts1, rfl, wo3, nwd, th3, by omega, fun ts' H' kd' th' fr' le' pm' => ?_⟩
        walk_at "rds"
        exact step2 ts1 H3 keepH th3 fr3 (by omega) pw ts' H' kd' th' fr' le' pm'
      | some n =>
        dsimp only [movV]
        walk_at "rds"
        obtain ⟨a, ha, rfl⟩ : ∃ a ∈ ts1, a.t.nm = n := by
          unfold movL at hmv
          rcases List.mem_cons.mp hmv with z | z
          · cases z
          · obtain ⟨m, hm, e⟩ := List.mem_map.mp z
            obtain rfl := Option.some.inj e
            obtain ⟨hm1, hm2⟩ := List.mem_filter.mp hm
            obtain ⟨t', et'⟩ := Option.isSome_iff_exists.mp hm2
            obtain ⟨s, es, ew⟩ := Option.bind_eq_some_iff.mp et'
            have hmem : t' ∈ ts1.map (·.t) := pw.mem_iff.mpr (List.mem_filterMap.mpr ⟨s, (look_some es).1, ew⟩)
            obtain ⟨a, ha, rfl⟩ := List.mem_map.mp hmem
            exact ⟨a, ha, (waneT_nm2 ew).trans (look_some es).2⟩
        refine ⟨w, td, rooms, stirs, d1, ts1, a, rfl, wo3, nwd, th3, ha, by omega, fun ts2 H4 kd4 th4 fr4 le4 et4 => ?_⟩
        have keep4 : Same H H4 := fun b o e => kd4 _ _ (keepH _ _ e) (ne_of_none e fd1)
        walk_at "rds"
        refine ⟨w, td, rooms, stirs, d1, ts2, rfl, wo_.same keep4, nwd, th4, by omega, fun ts' H' kd' th' fr' le' pm' => ?_⟩
        walk_at "rds"
        exact step2 ts2 H4 keep4 th4 (fr4.trans fr3) (by omega) (by rw [et4]; exact ask_perm th3.nd pw) ts' H' kd' th' fr' le' pm'
end
end Wh

/-! ## L15 -/
set_option Elab.async false
set_option linter.all false
set_option maxRecDepth 100000
set_option maxHeartbeats 4000000


namespace Wh
open PySem PySem.Spec PyProof.Rows L2
section
variable {P : Program} {wo : World} {K : PySem.W.Frag} {mg : Str → Option Value} {base : Heap}
/-! ### the law's game, as it stands -/
def LEdge (H : Hp) (t : Addr) (e : Option Str × AS) : Prop := ∃ sa, H t = some (.tup [movV e.1, .ref sa]) ∧ StAt H sa e.2
def LRow (H : Hp) (a : Addr) (row : List (Option Str × AS)) : Prop := ∃ ts : List Addr, H a = some (.lst (ts.map V.ref)) ∧ Paired (LEdge H) ts row
theorem LEdge.tups {H H' : Hp} {t : Addr} {e : Option Str × AS} (h : LEdge H t e) (k : Tups H H') : LEdge H' t e := by
  obtain ⟨sa, e1, e2⟩ := h
  exact ⟨sa, k _ _ e1, e2.mono k⟩
theorem LRow.keep {H H' : Hp} {a : Addr} {row : List (Option Str × AS)} (h : LRow H a row) (k : Tups H H') (ka : ∀ o, H a = some o → H' a = some o) : LRow H' a row := by
  obtain ⟨ts, e, p⟩ := h
  exact ⟨ts, ka _ e, Paired.mapP p fun t e z => z.tups k⟩
structure GameAt (P : Program) (w : World) (su : AS → List (Option Str × AS)) (H : Hp) (wd : Addr) (xs : List NE) : Prop where
  d : H wd = some (nkD P w wd xs)
  k : NKeys H xs
  nn : (xs.map (·.1)).Nodup
  r : ∀ e ∈ xs, ∃ ra, e.2.2 = .ref ra ∧ LRow H ra (su e.1)
theorem valN_at {xs : List NE} (nn : (xs.map (·.1)).Nodup) {e : NE} (he : e ∈ xs) : valN xs e.1 = some e.2.2 := by
  unfold valN
  cases z : xs.find? fun x => decide (x.1 = e.1) with
  | none =>
    have := List.find?_eq_none.mp z e he
    simp at this
  | some x =>
    have h1 := List.find?_some z
    have h2 := List.mem_of_find?_eq_some z
    have : x = e := by
      have h3 : x.1 = e.1 := of_decide_eq_true h1
      clear z h1
      induction xs with
      | nil => cases he
      | cons y l ih =>
        have nd := List.nodup_cons.mp nn
        rcases List.mem_cons.mp he with p | p <;> rcases List.mem_cons.mp h2 with q | q
        · rw [p, q]
        · exact absurd (List.mem_map.mpr ⟨x, q, by rw [h3, p]⟩) nd.1
        · exact absurd (List.mem_map.mpr ⟨e, p, by rw [← h3, q]⟩) nd.1
        · exact ih nd.2 p q
    rw [this]
    rfl
/-- the ranks found -/
structure FoundAt (P : Program) (w : World) (su : AS → List (Option Str × AS)) (H : Hp) (fd : Addr) (xs ys : List NE) : Prop where
  d : H fd = some (nkD P w fd ys)
  k : NKeys H ys
  v : ∀ e ∈ ys, ∃ n : Nat, e.2.2 = .int (n : Nat) ∧ Rk su e.1 n
  c : ∀ e ∈ ys, ∀ q ∈ su e.1, q.2 ∈ ys.map (·.1)
  x : ∀ e ∈ ys, e.1 ∈ xs.map (·.1)
  nn : (ys.map (·.1)).Nodup
theorem FoundAt.val {P : Program} {w : World} {su : AS → List (Option Str × AS)} {H : Hp} {fd : Addr} {xs ys : List NE} (h : FoundAt P w su H fd xs ys) {s : AS} (hs : s ∈ ys.map (·.1)) : ∃ n : Nat, valN ys s = some (.int (n : Nat)) ∧ Rk su s n := by
  obtain ⟨e, he, rfl⟩ := List.mem_map.mp hs
  obtain ⟨n, e1, e2⟩ := h.v e he
  exact ⟨n, by rw [valN_at h.nn he, e1], e2⟩
theorem FoundAt.same {P : Program} {w : World} {su : AS → List (Option Str × AS)} {H H' : Hp} {fd : Addr} {xs ys : List NE} (h : FoundAt P w su H fd xs ys) (k : Same H H') : FoundAt P w su H' fd xs ys :=
  ⟨k _ _ h.d, h.k.mono fun a xs z => k _ _ z, h.v, h.c, h.x, h.nn⟩
theorem FoundAt.le {P : Program} {w : World} {su : AS → List (Option Str × AS)} {H : Hp} {fd : Addr} {xs ys : List NE} (h : FoundAt P w su H fd xs ys) : ys.length ≤ xs.length := by
  have := php2 (l := ys.map (·.1)) (m := xs.map (·.1)) h.nn fun s hs => by
    obtain ⟨e, he, rfl⟩ := List.mem_map.mp hs
    exact h.x e he
  rw [List.length_map, List.length_map] at this
  exact this
theorem FoundAt.move {P : Program} {w : World} {su : AS → List (Option Str × AS)} {H H' : Hp} {fd : Addr} {xs ys : List NE} (h : FoundAt P w su H fd xs ys) (k : Tups H H') (e : H' fd = H fd) : FoundAt P w su H' fd xs ys :=
  ⟨e.trans h.d, h.k.mono k, h.v, h.c, h.x, h.nn⟩
def nOf (ys : List NE) (s : AS) : Nat := match valN ys s with
  | some (.int n) => n.toNat
  | _ => 0
theorem nOf_val {ys : List NE} {s : AS} {n : Nat} (h : valN ys s = some (.int (n : Nat))) : nOf ys s = n := by
  unfold nOf
  rw [h]
  exact Int.toNat_natCast n
def cntN (xs ys : List NE) : Nat := (xs.filter fun e => decide (e.1 ∉ ys.map (·.1))).length
theorem filt_lt {α : Type} {p p' : α → Bool} (h : ∀ x, p' x = true → p x = true) : ∀ {l : List α}, (l.filter p').length ≤ (l.filter p).length ∧ ∀ x, x ∈ l → p x = true → p' x = false → (l.filter p').length < (l.filter p).length
  | [] => ⟨Nat.le_refl _, fun x hx => nomatch hx⟩
  | y :: r => by
    obtain ⟨h1, h2⟩ := filt_lt h (l := r)
    rw [List.filter_cons, List.filter_cons]
    refine ⟨?_, fun x hx a b => ?_⟩
    · by_cases c : p' y = true
      · rw [if_pos c, if_pos (h y c)]
        exact Nat.succ_le_succ h1
      · rw [if_neg c]
        split
        · exact Nat.le_succ_of_le h1
        · exact h1
    · rcases List.mem_cons.mp hx with z | z
      · subst z
        rw [if_neg (by rw [b]; decide), if_pos a]
        exact Nat.lt_succ_of_le h1
      · have := h2 x z a b
        by_cases c : p' y = true
        · rw [if_pos c, if_pos (h y c)]
          exact Nat.succ_lt_succ this
        · rw [if_neg c]
          split
          · exact Nat.lt_succ_of_lt this
          · exact this
theorem cnt_snoc {xs ys : List NE} {e x : NE} (hx : x ∈ xs) (hn : x.1 ∉ ys.map (·.1)) (he : e.1 = x.1) : cntN xs (ys ++ [e]) < cntN xs ys := by
  unfold cntN
  refine (filt_lt (fun z hz => ?_)).2 x hx (decide_eq_true hn) (decide_eq_false fun y => y ?_)
  · refine decide_eq_true fun y => (of_decide_eq_true hz) ?_
    rw [List.map_append]
    exact List.mem_append.mpr (.inl y)
  · rw [List.map_append]
    exact List.mem_append.mpr (.inr (by rw [List.map_singleton, he]; exact List.mem_singleton.mpr rfl))
def spLLost (P : Program) (wo : World) : Sp := fun vs H Q _ => ∃ wd xs, ∃ su : AS → List (Option Str × AS), vs = [.ref wd] ∧ GameAt P wo su H wd xs ∧ xs.length ≤ 60 ∧ (∀ e ∈ xs, (su e.1).length ≤ 9) ∧
  ∀ fd ys H', Same H H' → FoundAt P wo su H' fd xs ys → Q (.ref fd) H'
theorem ok_law_lost (T : Tx K mg) : FnOk P wo K mg base CX0 1 (He.ga K "_law_lost") (fdA K (He.ga K "_law_lost")) ["_law_ways"] (spLLost P wo) := by
  refine okD (F_law_lost T) sc_law_lost (fun vs H Q E h => ?_) (fun cdv A outer s H vs Q E hr h => ?_)
  · obtain ⟨wd, xs, su, rfl, _⟩ := h
    rfl
  · obtain ⟨wd, xs, su, rfl, ga, x60, s9, q⟩ := h
    refine ⟨_, (pss_cons (ps_set (i := 1) sc_law_lost.nd rfl (Or.inr rfl) pe_dnewN)
 (pss_cons (ps_set (i := 2) sc_law_lost.nd rfl (Or.inl rfl) pe_bl)
 (pss_cons (ps_while PassesOwn.never (pt_val (pv 2)) (pss_cons (ps_set (i := 2) sc_law_lost.nd rfl (Or.inl rfl) pe_bl)
 (pss_one (ps_lock (ps_for PassesOwn.never rfl (pi_nkeys (pv 0)) (pg_name (i := 3) sc_law_lost.nd rfl (Or.inl rfl)) (pss_one (ps_if (PW.pt (pw_and (pt_cmpR (op_nnotinK (P := P) (w := wo) hr.units) (pv 3) (pv 1) (by rfl)) (pw_and1 (pt_val (pe_callB (cr_allK (K := K) rfl) (by rfl) (z_all T) (by decide +kernel) (pa_cons (pe_lc (own := [("_law_move", 4), ("_law_to", 5)]) rfl sc_law_lost.nd (pi_list (pe_ix (ix_nkK (P := P) (w := wo) hr.units) (pv 0) (pv 3) (fun _ _ => rfl))) (blkOk_by (N := ["_law_ways", "_law_found", "_law_grown", "_law_state_here", "_law_move", "_law_to"]) (sc := defScope s_law_lost) (by decide +kernel)) (fun _ _ _ _ _ => (pg_tupK (K := K) (n := 2) rfl (pgs_cons (pg_name (i := 4) sc_law_lost.nd rfl (Or.inl rfl)) (pgs_cons (pg_name (i := 5) sc_law_lost.nd rfl (Or.inl rfl)) pgs_nil)))) (fun _ _ _ _ _ => pts_nil) (fun _ _ _ _ _ => (pe_cmpR (op_ninK (P := P) (w := wo) hr.units) (pv 5) (pv 1) (by rfl)))) pa_nil)))))) (pss_cons (ps_asg (pe_op op_add pe_int (pe_callBK (cr_maxD rfl hr.units) (by rfl) (z_max T) (by decide +kernel) (pa_cons (pe_lc (own := [("_law_move", 4), ("_law_to", 5)]) rfl sc_law_lost.nd (pi_list (pe_ix (ix_nkK (P := P) (w := wo) hr.units) (pv 0) (pv 3) (fun _ _ => rfl))) (blkOk_by (N := ["_law_ways", "_law_found", "_law_grown", "_law_state_here", "_law_move", "_law_to"]) (sc := defScope s_law_lost) (by decide +kernel)) (fun _ _ _ _ _ => (pg_tupK (K := K) (n := 2) rfl (pgs_cons (pg_name (i := 4) sc_law_lost.nd rfl (Or.inl rfl)) (pgs_cons (pg_name (i := 5) sc_law_lost.nd rfl (Or.inl rfl)) pgs_nil)))) (fun _ _ _ _ _ => pts_nil) (fun _ _ _ _ _ => (pe_ix (ix_nkK (P := P) (w := wo) hr.units) (pv 1) (pv 5) (fun _ _ => rfl)))) pa_nil) (pk_cons pe_int pk_nil))) (pg_sub (pv 1) (pv 3) (set_nk hr.units)))
 (pss_one (ps_set (i := 2) sc_law_lost.nd rfl (Or.inl rfl) pe_bl))) pss_nil)))))))
 (pss_one (ps_ret (pv 1)))))), ?_⟩
    try dsimp only [cxK, cxP, cxW]
    walk_at "rds"
    intro fd ffd
    have sm1 := same_new (o := nkD P wo fd []) ffd
    have fnd1 : FoundAt P wo su (upd H fd (nkD P wo fd [])) fd xs [] := ⟨upd_same, (fun e he => nomatch he), (fun e he => nomatch he), (fun e he => nomatch he), (fun e he => nomatch he), .nil⟩
    have nwf : wd ≠ fd := ne_of_none ga.d ffd
    generalize upd H fd (nkD P wo fd []) = H1 at *
    walk_at "rds"
    refine r_while (fun m σ' H' => ∃ g ys, (∃ o3 o4 o5, σ' = [some (.ref wd), some (.ref fd), some (.bl g), o3, o4, o5]) ∧ Same H H' ∧ FoundAt P wo su H' fd xs ys ∧ m = if g = true then cntN xs ys + 1 else 0) _ ⟨true, [], ⟨_, _, _, rfl⟩, sm1, fnd1, rfl⟩ (fun m σ' H2 h => ?_)
    obtain ⟨g, ys, ⟨o3, o4, o5, rfl⟩, sm2, fnd2, hm⟩ := h
    walk_at "rds"
    refine k_wh (fun hc => ?_) (fun hc => ?_)
    · rw [if_pos hc] at hm
      walk_at "rds"
      have ewd2 := sm2 _ _ ga.d
      refine r_lock (d := wd) ewd2 trivial fun od => ?_
      walk_at "rds"
      refine k_iN (o := od) (xs := xs) upd_same ?_
      have nfw := nwf.symm
      have tpk : ∀ {H' : Hp}, (∀ b o, H b = some o → b ≠ wd → H' b = some o) → Tups H H' := fun k a ys z => k _ _ z (fun y => by rw [y, ga.d] at z; cases z)
      have tpf : Tups H2 (upd H2 wd (.frz od (nkD P wo wd xs))) := fun a ys z => (upd_ne (fun y => by rw [y, ewd2] at z; cases z)).trans z
      refine k_for (itx_n P wo wd od xs) (fun i σ' H' => ∃ g ys', (∃ o3 o4 o5, σ' = [some (.ref wd), some (.ref fd), some (.bl g), o3, o4, o5]) ∧ (∀ b o, H b = some o → b ≠ wd → H' b = some o) ∧ H' wd = some (.frz od (nkD P wo wd xs)) ∧ FoundAt P wo su H' fd xs ys' ∧ cntN xs ys' ≤ cntN xs ys ∧ (g = true → cntN xs ys' < cntN xs ys)) ?_ (fun i σ' H' _ h => h.choose_spec.choose_spec.2.2.1) (fun i x σ' H3 hx h => ?_) (fun σ' H3 h => ?_)
      · exact ⟨false, ys, ⟨_, _, _, rfl⟩, fun b o e n => (upd_ne n).trans (sm2 _ _ e), upd_same, fnd2.move tpf (upd_ne nfw), Nat.le_refl _, fun z => by cases z⟩
      · obtain ⟨g', ys', ⟨o3, o4, o5, rfl⟩, kw3, ewd3, fnd3, cle, clt⟩ := h
        obtain ⟨e, he, rfl⟩ : ∃ e, xs[i]? = some e ∧ x = .ref e.2.1 := by
          rw [List.getElem?_map] at hx
          cases y : xs[i]? with
          | none => rw [y] at hx; cases hx
          | some e => rw [y] at hx; exact ⟨e, rfl, (Option.some.inj hx).symm⟩
        have hex := List.mem_of_getElem? he
        have nk3 : NKeys H3 xs := ga.k.mono (tpk kw3)
        have st3 := nk3 e hex
        obtain ⟨ra, era, lr⟩ := ga.r e hex
        have lr3 : LRow H3 ra (su e.1) := lr.keep (tpk kw3) fun o z => kw3 _ _ z (fun y => by
          obtain ⟨ts, et, _⟩ := lr
          rw [y, ga.d] at et
          cases et)
        have vx := valN_at ga.nn hex
        have s9' := s9 e hex
        walk_at "rds"
        refine ⟨e.2.1, fd, e.1, ys', rfl, rfl, st3, .inl fnd3.d, fnd3.k, ?_⟩
        by_cases hin : e.1 ∈ ys'.map (·.1)
        · obtain ⟨n, hv, _⟩ := fnd3.val hin
          rw [hv]
          refine x_bF (by rfl) ?_
          walk_at "rds"
          exact ⟨g', ys', ⟨_, _, _, rfl⟩, kw3, ewd3, fnd3, cle, clt⟩
        rw [valN_none.mpr hin]
        refine x_bT (by rfl) ?_
        walk_at "rds"
        refine ⟨e.2.1, wd, e.1, xs, e.2.2, rfl, rfl, st3, .inr ⟨od, ewd3⟩, nk3, vx, ?_⟩
        rw [era]
        obtain ⟨ts, et3, pt3⟩ := lr3
        have tl : ts.length = (su e.1).length := Paired.length pt3
        refine k_iL (SqL.of et3) ?_
        refine k_lcI (itx_l K ra (ts.map V.ref)) (fun i acc D H' => H3 D = none ∧ Same H3 H' ∧ H' D = some (.lst acc) ∧ acc = ((su e.1).take i).map fun q => V.bl (valN ys' q.2).isSome) (fun D hD => ⟨hD, same_new hD, upd_same, by simp⟩) (fun i acc D H' p => SqL.of (p.2.1 _ _ et3)) (fun i x acc D H' hx pp => ?_) (fun acc D H4 pp => ?_)
        · obtain ⟨hD, sm, eD, ea⟩ := pp
          obtain ⟨t, ht, rfl, hi⟩ := nth_ref hx
          obtain ⟨q0, hq, sa, et, sta⟩ := Paired.getL pt3 i t ht
          have et2 := sm _ _ et
          have sta2 := sta.mono fun a xs z => sm _ _ z
          walk_at "rds"
          refine ⟨rfl, yesI ?_⟩
          walk_at "rds"
          refine ⟨sa, fd, q0.2, ys', rfl, rfl, sta2, .inl (sm _ _ fnd3.d), fnd3.k.mono fun a xs z => sm _ _ z, ?_⟩
          have hal : acc.length ≤ 9 := by
            rw [ea, List.length_map, List.length_take]
            omega
          refine k_el eD (sz8 (by omega)) ⟨hD, fun b o hb => (upd_ne (ne_of_none hb hD)).trans (sm _ _ hb), upd_same, ?_⟩
          rw [List.take_add_one, hq, List.map_append, ea]
          rfl
        obtain ⟨fD, sm4, eD, rfl⟩ := pp
        rw [List.length_map, tl, List.take_length] at eD
        have fnd4 := fnd3.same sm4
        have kw4 : ∀ b o, H b = some o → b ≠ wd → H4 b = some o := fun b o e n => sm4 _ _ (kw3 _ _ e n)
        have ewd4 := sm4 _ _ ewd3
        walk_at "rds"
        refine ⟨D, (su e.1).map fun q => (valN ys' q.2).isSome, rfl, SqL.of (by rw [eD, List.map_map]; rfl), ?_⟩
        walk_at "rds"
        refine k_if (fun hc2 => ?_) (fun hc2 => ?_)
        · have hall : ∀ q ∈ su e.1, q.2 ∈ ys'.map (·.1) := fun q hq => by
            rw [List.all_map] at hc2
            have := List.all_eq_true.mp hc2 q hq
            cases y : valN ys' q.2 with
            | none =>
              simp [y] at this
            | some v =>
              have : ¬ q.2 ∉ ys'.map (·.1) := fun z => by rw [valN_none.mpr z] at y; cases y
              exact Decidable.not_not.mp this
          have nk4 : NKeys H4 xs := nk3.mono fun a xs z => sm4 _ _ z
          have st4 := nk4 e hex
          walk_at "rds"
          refine ⟨e.2.1, wd, e.1, xs, e.2.2, rfl, rfl, st4, .inr ⟨od, ewd4⟩, nk4, vx, ?_⟩
          rw [era]
          have et4 := sm4 _ _ et3
          have pt4 := Paired.mapP pt3 fun t q (z : LEdge H3 t q) => z.tups fun a xs y => sm4 _ _ y
          refine k_iL (SqL.of et4) ?_
          refine k_lcI (itx_l K ra (ts.map V.ref)) (fun i acc D H' => H4 D = none ∧ Same H4 H' ∧ H' D = some (.lst acc) ∧ acc = ((su e.1).take i).map fun q => V.int ((nOf ys' q.2 : Nat) : Int)) (fun D hD => ⟨hD, same_new hD, upd_same, by simp⟩) (fun i acc D H' p => SqL.of (p.2.1 _ _ et4)) (fun i x acc D H' hx pp => ?_) (fun acc D2 H5 pp => ?_)
          · obtain ⟨hD, sm, eD, ea⟩ := pp
            obtain ⟨t, ht, rfl, hi⟩ := nth_ref hx
            obtain ⟨q0, hq, sa, et, sta⟩ := Paired.getL pt4 i t ht
            have et2 := sm _ _ et
            have sta2 := sta.mono fun a xs z => sm _ _ z
            obtain ⟨n, hv, _⟩ := fnd4.val (hall q0 (List.mem_of_getElem? hq))
            walk_at "rds"
            refine ⟨rfl, yesI ?_⟩
            walk_at "rds"
            refine ⟨sa, fd, q0.2, ys', _, rfl, rfl, sta2, .inl (sm _ _ fnd4.d), fnd4.k.mono fun a xs z => sm _ _ z, hv, ?_⟩
            have hal : acc.length ≤ 9 := by
              rw [ea, List.length_map, List.length_take]
              omega
            refine k_el eD (sz8 (by omega)) ⟨hD, fun b o hb => (upd_ne (ne_of_none hb hD)).trans (sm _ _ hb), upd_same, ?_⟩
            rw [List.take_add_one, hq, List.map_append, ea, ← nOf_val hv]
            rfl
          obtain ⟨fD2, sm5, eD2, rfl⟩ := pp
          rw [List.length_map, tl, List.take_length] at eD2
          have fnd5 := fnd4.same sm5
          have kw5 : ∀ b o, H b = some o → b ≠ wd → H5 b = some o := fun b o e n => sm5 _ _ (kw4 _ _ e n)
          have ewd5 := sm5 _ _ ewd4
          have st5 := st4.mono fun a xs z => sm5 _ _ z
          walk_at "rds"
          refine ⟨D2, (((su e.1).map fun q => nOf ys' q.2).map fun (n : Nat) => (n : Int)), rfl, rfl, SqL.of (by rw [eD2, List.map_map, List.map_map]; rfl), ?_⟩
          rw [maxD0_nat]
          walk_at "rds"
          have yle := fnd5.le
          refine k_subN st5 fnd5.d fnd5.k (valN_none.mpr hin) (sz8 (by omega)) ?_
          have rk : Rk su e.1 (1 + max0 ((su e.1).map fun q => nOf ys' q.2)) := Rk.mk e.1 (fun s => nOf ys' s) fun p hp => by
            obtain ⟨n, hv, hr⟩ := fnd5.val (hall p hp)
            rw [nOf_val hv]
            exact hr
          have tp6 : ∀ {o : HO}, Tups H5 (upd H5 fd o) := fun a zs z => (upd_ne (fun y => by rw [y, fnd5.d] at z; cases z)).trans z
          have fnd6 : FoundAt P wo su (upd H5 fd (nkD P wo fd (ys' ++ [(e.1, e.2.1, .int (1 + ((max0 ((su e.1).map fun q => nOf ys' q.2) : Nat) : Int)))]))) fd xs (ys' ++ [(e.1, e.2.1, .int (1 + ((max0 ((su e.1).map fun q => nOf ys' q.2) : Nat) : Int)))]) := by
            refine ⟨upd_same, fun z hz => ?_, fun z hz => ?_, fun z hz q hq => ?_, fun z hz => ?_, ?_⟩
            · rcases List.mem_append.mp hz with y | y
              · exact (fnd5.k z y).mono tp6
              · rw [List.mem_singleton.mp y]
                exact st5.mono tp6
            · rcases List.mem_append.mp hz with y | y
              · exact fnd5.v z y
              · rw [List.mem_singleton.mp y]
                exact ⟨_, by simp only; congr 1, rk⟩
            · rw [List.map_append]
              refine List.mem_append.mpr (.inl ?_)
              rcases List.mem_append.mp hz with y | y
              · exact fnd5.c z y q hq
              · rw [List.mem_singleton.mp y] at hq
                exact hall q hq
            · rcases List.mem_append.mp hz with y | y
              · exact fnd5.x z y
              · rw [List.mem_singleton.mp y]
                exact List.mem_map.mpr ⟨e, hex, rfl⟩
            · rw [List.map_append]
              refine List.nodup_append.mpr ⟨fnd5.nn, by simp, fun a ha c hc z => ?_⟩
              obtain rfl : c = e.1 := by simpa using hc
              exact hin (z ▸ ha)
          have cs := cnt_snoc (e := (e.1, e.2.1, V.int (1 + ((max0 ((su e.1).map fun q => nOf ys' q.2) : Nat) : Int)))) hex hin rfl
          walk_at "rds"
          exact ⟨true, _, ⟨_, _, _, rfl⟩, fun b o e n => (upd_ne (ne_of_none e ffd)).trans (kw5 b o e n), (upd_ne nwf).trans ewd5, fnd6, by omega, fun _ => by omega⟩
        · walk_at "rds"
          exact ⟨g', ys', ⟨_, _, _, rfl⟩, kw4, ewd4, fnd4, cle, clt⟩
      · obtain ⟨g', ys', ⟨o3, o4, o5, rfl⟩, kw3, ewd3, fnd3, cle, clt⟩ := h
        have tp9 : Tups H3 (upd H3 wd (nkD P wo wd xs)) := fun a zs z => (upd_ne (fun y => by rw [y, ewd3] at z; cases z)).trans z
        refine ⟨ewd3, if g' = true then cntN xs ys' + 1 else 0, ?_, g', ys', ⟨_, _, _, rfl⟩, fun b o e => ?_, fnd3.move tp9 (upd_ne nfw), rfl⟩
        · split
          · rename_i hg
            have := clt hg
            omega
          · omega
        · by_cases y : b = wd
          · subst y
            rw [ga.d] at e
            rw [upd_same]
            exact e
          · exact (upd_ne y).trans (kw3 _ _ e y)
    · walk_at "rds"
      exact q fd ys H2 sm2 fnd2
end
end Wh

/-! ## L16 -/
set_option Elab.async false
set_option linter.all false
set_option maxRecDepth 100000
set_option maxHeartbeats 4000000


namespace Wh
open PySem PySem.Spec PyProof.Rows L2
section
variable {P : Program} {wo : World} {K : PySem.W.Frag} {mg : Str → Option Value} {base : Heap}
/-- things got from those at first -/
structure LdAt (H : Hp) (ts : List LTh) (d : Addr) (tz : List LTh) : Prop where
  d : H d = some (.dK (kvsT tz))
  th : ∀ x ∈ tz, H x.a = some (.tup (thV x)) ∧ x.t.Ok
  nn : (tz.map (·.t.nm)).Nodup
  fr : FromT tz ts
  le : tz.length ≤ ts.length
theorem LdAt.keep {H H' : Hp} {ts : List LTh} {d : Addr} {tz : List LTh} (h : LdAt H ts d tz) (k : Tups H H') (kd : ∀ o, H d = some o → H' d = some o) : LdAt H' ts d tz :=
  ⟨kd _ h.d, fun x hx => ⟨k _ _ (h.th x hx).1, (h.th x hx).2⟩, h.nn, h.fr, h.le⟩
theorem LdAt.thAt {H H' : Hp} {ts : List LTh} {d0 d : Addr} {tz : List LTh} (h : LdAt H' ts d tz) (t0 : ThAt H d0 ts) (k : Same H H') : ThAt H' d tz := by
  refine ⟨h.d, fun x hx => ?_, h.nn⟩
  obtain ⟨y, hy, e1, e2, _⟩ := h.fr x hx
  refine ⟨(h.th x hx).1, ?_, (h.th x hx).2⟩
  rw [← e1, ← e2]
  exact (t0.th y hy).2.1.same k
theorem ThAt.ld {H : Hp} {ts : List LTh} {d : Addr} {tz : List LTh} (h : ThAt H d tz) (fr : FromT tz ts) (le : tz.length ≤ ts.length) : LdAt H ts d tz := ⟨h.d, fun x hx => ⟨(h.th x hx).1, (h.th x hx).2.2⟩, h.nn, fr, le⟩
theorem ThAt.isIn {H : Hp} {d : Addr} {ts : List LTh} (h : ThAt H d ts) (n : Str) : (valV (kvsT ts) (Sum.inr n)).isSome = decide (n ∈ (ts.map (·.t)).map (·.nm)) := by
  by_cases hin : n ∈ ts.map (·.t.nm)
  · obtain ⟨x, hx, rfl⟩ := List.mem_map.mp hin
    rw [valV_kvsT h.nn hx, decide_eq_true (by rw [← nm_lth]; exact hin)]
    rfl
  · cases e : valV (kvsT ts) (Sum.inr n) with
    | none => rw [decide_eq_false (by rw [← nm_lth]; exact hin)]; rfl
    | some v =>
      have := valV_in e
      rw [keys_kvsT] at this
      obtain ⟨m, hm, em⟩ := List.mem_map.mp this
      exact absurd (Sum.inr.inj em ▸ hm) hin
/-- a way of things, or none -/
def wayF (rooms stirs : List Int) (ns : List Str) (L : List T) (mv : Option Str) : Option (Option Str × AS) := if allIn ns (stepL rooms stirs mv L) then some (mv, stL (stepL rooms stirs mv L)) else none
theorem wayF_all (rooms stirs : List Int) (ns : List Str) (L : List T) : (movL L).filterMap (wayF rooms stirs ns L) = ways rooms stirs ns L := rfl
theorem Rp.perm {D : Sta} {L L' : List T} (h : Rp D L) (p : L.Perm L') : Rp D L' := ⟨⟨h.1.1.perm p, fun t ht => h.1.2 t (p.mem_iff.mpr ht)⟩, fun t ht => h.2 t (p.mem_iff.mpr ht)⟩
theorem stL_len (L : List T) : (stL L).length ≤ L.length := by
  unfold stL
  refine Nat.le_trans (List.length_filterMap_le _ _) ?_
  rw [sortS_length, List.length_map]
  exact Nat.le_refl _
theorem mov_len (L : List T) : (movL L).length ≤ L.length + 1 := by
  unfold movL
  rw [List.length_cons, List.length_map]
  have h1 := List.length_filter_le (fun n => ((look L n).bind waneT).isSome) (sortS (L.map (·.nm)))
  rw [sortS_length, List.length_map] at h1
  omega
def spLGame (P : Program) (wo : World) : Sp := fun vs H Q _ => ∃ w td rooms stirs d ts l, ∃ (ns : List Str) (D : Sta), vs = [.ref w, .ref d, .ref l, .int 60] ∧ WorldAt H w td rooms stirs ∧ ThAt H d ts ∧ ts.length ≤ 8 ∧ H l = some (.lst (ns.map V.str)) ∧ ns.length ≤ 8 ∧ Rp D (ts.map (·.t)) ∧
  (∀ H', Same H H' → Q .non H') ∧
  ∀ wd xs H', Same H H' → GameAt P wo (succS D rooms stirs ns) H' wd xs → xs.length ≤ 60 → (∀ e ∈ xs, ∀ q ∈ succS D rooms stirs ns e.1, q.2 ∈ xs.map (·.1)) → stL (ts.map (·.t)) ∈ xs.map (·.1) → (∀ e ∈ xs, e.1.length ≤ ts.length) → Q (.ref wd) H'
theorem ok_law_game (T : Tx K mg) : FnOk P wo K mg base CX0 4 (He.ga K "_law_game") (fdA K (He.ga K "_law_game")) ["_law_world_here", "_law_things", "_law_names_here", "_law_limit"] (spLGame P wo) := by
  refine okD (F_law_game T) sc_law_game (fun vs H Q E h => ?_) (fun cdv A outer s H vs Q E hr h => ?_)
  · obtain ⟨w, td, rooms, stirs, d, ts, l, ns, D, rfl, _⟩ := h
    rfl
  · obtain ⟨w, td, rooms, stirs, d, ts, l, ns, D, rfl, wo_, th, l8, el, nl8, rp, qn, q⟩ := h
    refine ⟨_, (pss_cons (ps_set (i := 4) sc_law_game.nd rfl (Or.inl rfl) pe_dnewN)
 (pss_cons (ps_set (i := 5) sc_law_game.nd rfl (Or.inl rfl) (pe_lst (pa_cons (pv 1) pa_nil)))
 (pss_cons (ps_while PassesOwn.never (pt_cmpR (op_neNil hr.units) (pv 5) (pe_lst pa_nil) (nomark _)) (pss_cons (ps_set (i := 6) sc_law_game.nd rfl (Or.inl rfl) (pe_bm0 PySem.F.plainAttrs_list PySem.F.slot_list_pop PySem.F.type_list_pop mt_pop (pv 5)))
 (pss_cons (ps_set (i := 7) sc_law_game.nd rfl (Or.inl rfl) (pe_call (ok_law_state (P := P) (wo := wo) (K := K) T) (hr.mono (by decide)) rfl (g_law_state T) (F_law_state T).kp (b_law_state T) .nil pass0 (pa_cons (pv 6) pa_nil)))
 (pss_one (ps_if (pt_cmpR (op_nnotinK (P := P) (w := wo) hr.units) (pv 7) (pv 4) (by rfl)) (pss_cons (ps_if (pt_cmpR op_eq (pe_callB call_len_nk (by rfl) (z_len T) (by decide +kernel) (pa_cons (pv 4) pa_nil)) (pv 3) (nomark _)) (pss_one (ps_ret pe_non)) pss_nil)
 (pss_cons (ps_asg (pe_lst pa_nil) (pg_sub (pv 4) (pv 7) (set_nk hr.units)))
 (pss_one (ps_for PassesOwn.never rfl (pi_list (pe_call (ok_law_moves (P := P) (wo := wo) (K := K) T) (hr.mono (by decide)) rfl (g_law_moves T) (F_law_moves T).kp (b_law_moves T) .nil pass0 (pa_cons (pv 6) pa_nil))) (pg_name (i := 8) sc_law_game.nd rfl (Or.inl rfl)) (pss_cons (ps_set (i := 9) sc_law_game.nd rfl (Or.inr rfl) (pe_call (ok_law_moved (P := P) (wo := wo) (K := K) T) (hr.mono (by decide)) rfl (g_law_moved T) (F_law_moved T).kp (b_law_moved T) .nil pass0 (pa_cons (pv 0) (pa_cons (pv 6) (pa_cons (pv 8) pa_nil)))))
 (pss_one (ps_if (pt_val (pe_callB (cr_allK (K := K) rfl) (by rfl) (z_all T) (by decide +kernel) (pa_cons (pe_lc (own := [("_law_name", 10)]) rfl sc_law_game.nd (pi_list (pv 2)) (blkOk_by (N := ["_law_world_here", "_law_things", "_law_names_here", "_law_limit", "_law_ways", "_law_left", "_law_here", "_law_state_here", "_law_move", "_law_later", "_law_name"]) (sc := defScope s_law_game) (by decide +kernel)) (fun _ _ _ _ _ => (pg_name (i := 10) sc_law_game.nd rfl (Or.inl rfl))) (fun _ _ _ _ _ => pts_nil) (fun _ _ _ _ _ => (pe_cmp (pc_din (hu_of hr) (pv 10) (pv 9))))) pa_nil))) (pss_cons (ps_expr (pe_bm PySem.F.plainAttrs_list PySem.F.slot_list_append PySem.F.type_list_append mt_append (pe_ix (ix_nkK (P := P) (w := wo) hr.units) (pv 4) (pv 7) (fun _ _ => rfl)) (pa_cons (pe_tup (pa_cons (pv 8) (pa_cons (pe_call (ok_law_state (P := P) (wo := wo) (K := K) T) (hr.mono (by decide)) rfl (g_law_state T) (F_law_state T).kp (b_law_state T) .nil pass0 (pa_cons (pv 9) pa_nil)) pa_nil))) pa_nil)))
 (pss_one (ps_expr (pe_bm PySem.F.plainAttrs_list PySem.F.slot_list_append PySem.F.type_list_append mt_append (pv 5) (pa_cons (pv 9) pa_nil))))) pss_nil))))))) pss_nil)))))
 (pss_one (ps_ret (pv 4)))))), ?_⟩
    try dsimp only [cxK, cxP, cxW]
    walk_at "rds"
    intro wd fwd
    have sm1 := same_new (o := nkD P wo wd []) fwd
    have ewd1 : (upd H wd (nkD P wo wd [])) wd = some (nkD P wo wd []) := upd_same
    generalize upd H wd (nkD P wo wd []) = H1 at *
    walk_at "rds"
    intro ll fll
    have sm2 := sm1.trans (same_new (o := .lst [V.ref d]) fll)
    have ell2 : (upd H1 ll (.lst [V.ref d])) ll = some (.lst [V.ref d]) := upd_same
    have ewd2 := (same_new (o := .lst [V.ref d]) fll) _ _ ewd1
    have nwl : wd ≠ ll := ne_of_none ewd1 fll
    have fllH : H ll = none := Same.free sm1 fll
    generalize upd H1 ll (.lst [V.ref d]) = H2 at *
    walk_at "rds"
    refine r_while (fun m σ' H' => (∃ o6 o7 o8 o9 o10, σ' = [some (.ref w), some (.ref d), some (.ref l), some (.int 60), some (.ref wd), some (.ref ll), o6, o7, o8, o9, o10]) ∧ Same H H' ∧ ∃ (xs : List NE) (lt : List (Addr × List LTh)),
      H' wd = some (nkD P wo wd xs) ∧ NKeys H' xs ∧ (xs.map (·.1)).Nodup ∧ (∀ e ∈ xs, ∃ ra, e.2.2 = .ref ra ∧ ra ≠ ll ∧ LRow H' ra (succS D rooms stirs ns e.1)) ∧ H' ll = some (.lst (lt.map fun z => V.ref z.1)) ∧ (∀ z ∈ lt, LdAt H' ts z.1 z.2 ∧ Rp D (z.2.map (·.t))) ∧
      (∀ e ∈ xs, ∀ q ∈ succS D rooms stirs ns e.1, q.2 ∈ xs.map (·.1) ∨ ∃ z ∈ lt, stL (z.2.map (·.t)) = q.2) ∧ (stL (ts.map (·.t)) ∈ xs.map (·.1) ∨ ∃ z ∈ lt, stL (z.2.map (·.t)) = stL (ts.map (·.t))) ∧ xs.length ≤ 60 ∧ (∀ e ∈ xs, e.1.length ≤ ts.length) ∧ m = lt.length + 12 * (60 - xs.length) ∧ m ≤ 721) 721
      ⟨⟨_, _, _, _, _, rfl⟩, sm2, [], [(d, ts)], ewd2, (fun e he => nomatch he), .nil, (fun e he => nomatch he), ell2, fun z hz => ?_, (fun e he => nomatch he), .inr ⟨_, List.mem_singleton.mpr rfl, rfl⟩, Nat.zero_le _, (fun e he => nomatch he), rfl, Nat.le_refl _⟩ (fun m σ' H3 h => ?_)
    · obtain rfl := List.mem_singleton.mp hz
      exact ⟨(th.same sm2).ld (FromT.refl _) (Nat.le_refl _), rp⟩
    obtain ⟨⟨o6, o7, o8, o9, o10, rfl⟩, sm3, xs, lt, ewd3, nk3, nn3, rows3, ell3, ld3, cl3, s03, x60, xl3, hm, m721⟩ := h
    walk_at "rds"
    intro nl fnl
    have nln : ll ≠ nl := ne_of_none ell3 fnl
    refine ⟨ll, nl, _, rfl, rfl, SqL.of ((upd_ne nln).trans ell3), SqL.of upd_same, ?_⟩
    have smn := same_new (o := .lst []) fnl
    walk_at "rds"
    refine k_wh (fun hc => ?_) (fun hc => ?_)
    · have hne : lt ≠ [] := fun z => by rw [z] at hc; cases hc
      obtain ⟨lt', z, rfl⟩ : ∃ m p, lt = m ++ [p] := ⟨lt.dropLast, lt.getLast hne, (List.dropLast_concat_getLast hne).symm⟩
      have ell4 := smn _ _ ell3
      walk_at "rds"
      refine k_bm0L ell4 ?_
      refine x_pop (y := .ref z.1) ell4 (by rw [List.map_append, List.length_append]; simp) ?_
      have edrop : ((lt' ++ [z]).map fun z => V.ref z.1).dropLast = lt'.map fun z => V.ref z.1 := by rw [List.map_append]; simp
      rw [edrop]
      have k4 : ∀ b o, H3 b = some o → b ≠ ll → (upd (upd H3 nl (.lst [])) ll (.lst (lt'.map fun z => V.ref z.1))) b = some o := fun b o e n => (upd_ne n).trans (smn _ _ e)
      have tp4 : Tups H3 (upd (upd H3 nl (.lst [])) ll (.lst (lt'.map fun z => V.ref z.1))) := fun a ys e => k4 _ _ e (fun y => by rw [y, ell3] at e; cases e)
      have ell5 : (upd (upd H3 nl (.lst [])) ll (.lst (lt'.map fun z => V.ref z.1))) ll = some (.lst (lt'.map fun z => V.ref z.1)) := upd_same
      generalize upd (upd H3 nl (.lst [])) ll (.lst (lt'.map fun z => V.ref z.1)) = H4 at *
      have sm4 : Same H H4 := fun b o e => k4 _ _ (sm3 _ _ e) (ne_of_none e fllH)
      have ewd4 := k4 _ _ ewd3 nwl
      have nk4 : NKeys H4 xs := nk3.mono tp4
      have rows4 : ∀ e ∈ xs, ∃ ra, e.2.2 = .ref ra ∧ ra ≠ ll ∧ LRow H4 ra (succS D rooms stirs ns e.1) := fun e he => by
        obtain ⟨ra, e1, e2, e3⟩ := rows3 e he
        exact ⟨ra, e1, e2, e3.keep tp4 fun o y => k4 _ _ y e2⟩
      have ndl : ∀ {y : Addr × List LTh}, LdAt H3 ts y.1 y.2 → y.1 ≠ ll := fun {y} h e => by
        have := h.d
        rw [e, ell3] at this
        cases this
      have ld4 : ∀ y ∈ lt' ++ [z], LdAt H4 ts y.1 y.2 ∧ Rp D (y.2.map (·.t)) := fun y hy => ⟨(ld3 y hy).1.keep tp4 fun o e => k4 _ _ e (ndl (ld3 y hy).1), (ld3 y hy).2⟩
      obtain ⟨lz, rz⟩ := ld4 z (List.mem_append.mpr (.inr (List.mem_singleton.mpr rfl)))
      rw [List.length_append, List.length_singleton] at hm
      have lz8 := lz.le
      walk_at "rds"
      refine ⟨z.1, z.2, rfl, lz.thAt th sm4, by omega, fun sta H5 sm45 esta => ?_⟩
      have sm5 := sm4.trans sm45
      have ewd5 := sm45 _ _ ewd4
      have nk5 : NKeys H5 xs := nk4.mono fun a ys e => sm45 _ _ e
      walk_at "rds"
      refine ⟨sta, wd, _, xs, rfl, rfl, esta, .inl ewd5, nk5, ?_⟩
      by_cases hin : stL (z.2.map (·.t)) ∈ xs.map (·.1)
      · obtain ⟨e, he, ee⟩ := List.mem_map.mp hin
        have hv := valN_at nn3 he
        rw [ee] at hv
        rw [hv]
        refine x_bF (by rfl) ?_
        walk_at "rds"
        have alt : ∀ s, (s ∈ xs.map (·.1) ∨ ∃ y ∈ lt' ++ [z], stL (y.2.map (·.t)) = s) → (s ∈ xs.map (·.1) ∨ ∃ y ∈ lt', stL (y.2.map (·.t)) = s) := fun s h => h.elim .inl fun ⟨y, hy, ey⟩ => by
          rcases List.mem_append.mp hy with c | c
          · exact .inr ⟨y, c, ey⟩
          · rw [List.mem_singleton.mp c] at ey
            exact .inl (ey ▸ hin)
        exact ⟨lt'.length + 12 * (60 - xs.length), by omega, ⟨_, _, _, _, _, rfl⟩, sm5, xs, lt', ewd5, nk5, nn3, fun e he => by
          obtain ⟨ra, e1, e2, e3⟩ := rows4 e he
          exact ⟨ra, e1, e2, e3.keep (fun a ys y => sm45 _ _ y) fun o y => sm45 _ _ y⟩, sm45 _ _ ell5, fun y hy => ⟨(ld4 y (List.mem_append.mpr (.inl hy))).1.keep (fun a ys e => sm45 _ _ e) fun o e => sm45 _ _ e, (ld4 y (List.mem_append.mpr (.inl hy))).2⟩, fun e he q hq => alt _ (cl3 e he q hq), alt _ s03, x60, xl3, rfl, by omega⟩
      rw [valN_none.mpr hin]
      refine x_bT (by rfl) ?_
      walk_at "rds"
      refine ⟨wd, xs, rfl, .inl ewd5, nk5, ?_⟩
      walk_at "rds"
      refine k_if (fun hc2 => ?_) (fun hc2 => ?_)
      · walk_at "rds"
        exact qn H5 sm5
      have x59 : xs.length < 60 := by
        have := of_decide_eq_false hc2
        omega
      walk_at "rds"
      intro ra fra
      have smr := same_new (o := .lst []) fra
      have era6 : (upd H5 ra (.lst [])) ra = some (.lst []) := upd_same
      have ewd6 := smr _ _ ewd5
      have nk6 : NKeys (upd H5 ra (.lst [])) xs := nk5.mono fun a ys e => smr _ _ e
      have esta6 := esta.mono (fun a ys e => smr _ _ e : Tups H5 (upd H5 ra (.lst [])))
      have sm46 := sm45.trans smr
      have frH : H4 ra = none := Same.free sm45 fra
      generalize upd H5 ra (.lst []) = H6 at *
      walk_at "rds"
      refine k_subN esta6 ewd6 nk6 (valN_none.mpr hin) (sz8 (by omega)) ?_
      have ewd7 : (upd H6 wd (nkD P wo wd (xs ++ [(stL (z.2.map (·.t)), sta, .ref ra)]))) wd = _ := upd_same
      have k7 : ∀ b o, H4 b = some o → b ≠ wd → (upd H6 wd (nkD P wo wd (xs ++ [(stL (z.2.map (·.t)), sta, .ref ra)]))) b = some o := fun b o e n => (upd_ne n).trans (sm46 _ _ e)
      have tp7 : Tups H6 (upd H6 wd (nkD P wo wd (xs ++ [(stL (z.2.map (·.t)), sta, .ref ra)]))) := fun a ys e => (upd_ne (fun y => by rw [y, ewd6] at e; cases e)).trans e
      have nrw : ra ≠ wd := fun y => by rw [y, ewd4] at frH; cases frH
      have nrl : ra ≠ ll := fun y => by rw [y, ell5] at frH; cases frH
      have era7 := (upd_ne (o := nkD P wo wd (xs ++ [(stL (z.2.map (·.t)), sta, .ref ra)])) nrw).trans era6
      have esta7 := esta6.mono tp7
      have tp47 : Tups H4 (upd H6 wd (nkD P wo wd (xs ++ [(stL (z.2.map (·.t)), sta, .ref ra)]))) := fun a ys e => tp7 _ _ (sm46 _ _ e)
      generalize hH7 : upd H6 wd (nkD P wo wd (xs ++ [(stL (z.2.map (·.t)), sta, .ref ra)])) = H7 at *
      have nk7 : NKeys H7 (xs ++ [(stL (z.2.map (·.t)), sta, .ref ra)]) := fun e he => by
        rcases List.mem_append.mp he with c | c
        · exact (nk4 e c).mono tp47
        · rw [List.mem_singleton.mp c]
          exact esta7
      have sm7 : Same H H7 := fun b o e => k7 _ _ (sm4 _ _ e) (ne_of_none e fwd)
      have nn7 : ((xs ++ [(stL (z.2.map (·.t)), sta, V.ref ra)]).map (·.1)).Nodup := by
        rw [List.map_append]
        refine List.nodup_append.mpr ⟨nn3, by simp, fun a ha c hc y => ?_⟩
        obtain rfl : c = stL (z.2.map (·.t)) := by simpa using hc
        exact hin (y ▸ ha)
      have rows7 : ∀ e ∈ xs, ∃ ra', e.2.2 = .ref ra' ∧ ra' ≠ ll ∧ ra' ≠ ra ∧ LRow H7 ra' (succS D rooms stirs ns e.1) := fun e he => by
        obtain ⟨r', e1, e2, e3⟩ := rows4 e he
        obtain ⟨ts', e4, _⟩ := id e3
        refine ⟨r', e1, e2, ne_of_none e4 frH, e3.keep tp47 fun o y => k7 _ _ y (fun c => ?_)⟩
        rw [c, ewd4] at e4
        cases e4
      have ndw : ∀ {y : Addr × List LTh}, LdAt H4 ts y.1 y.2 → y.1 ≠ wd := fun {y} h e => by
        have := h.d
        rw [e, ewd4] at this
        cases this
      have ld7 : ∀ y ∈ lt' ++ [z], LdAt H7 ts y.1 y.2 := fun y hy => (ld4 y hy).1.keep tp47 fun o e => k7 _ _ e (ndw (ld4 y hy).1)
      have lz7 := ld7 z (List.mem_append.mpr (.inr (List.mem_singleton.mpr rfl)))
      have ell7 := k7 _ _ ell5 nwl.symm
      walk_at "rds"
      refine ⟨z.1, z.2, rfl, lz7.thAt th sm7, by omega, fun ml H8 sm78 eml => ?_⟩
      have mvl := mov_len (z.2.map (·.t))
      rw [List.length_map] at mvl
      refine k_iL (SqL.of eml) ?_
      have era8 := sm78 _ _ era7
      have ell8 := sm78 _ _ ell7
      have eml0 : H8 ml = some (.lst (V.non :: (((sortS ((z.2.map (·.t)).map (·.nm))).filter fun n => ((Wh.look (z.2.map (·.t)) n).bind waneT).isSome).map some).map movV)) := eml
      have nml : ml ≠ ra ∧ ml ≠ ll := by
        refine ⟨fun y => ?_, fun y => ?_⟩
        · rw [y, era8] at eml0
          cases eml0
        · rw [y, ell8] at eml0
          cases lt' with
          | nil => cases eml0
          | cons u v => cases eml0
      have sm8 : Same H H8 := sm7.trans sm78
      have nrH : ∀ {b o}, H b = some o → b ≠ ra := fun {b o} e y => by
        rw [y] at e
        rw [sm4 _ _ e] at frH
        cases frH
      refine k_for (itx_l K ml ((movL (z.2.map (·.t))).map movV)) (fun i σ' H' => (∃ o8 o9 o10, σ' = [some (.ref w), some (.ref d), some (.ref l), some (.int 60), some (.ref wd), some (.ref ll), some (.ref z.1), some (.ref sta), o8, o9, o10]) ∧ (∀ b o, H8 b = some o → b ≠ ra → b ≠ ll → H' b = some o) ∧
        ∃ (fs : List Addr) (more : List (Addr × List LTh)), H' ra = some (.lst (fs.map V.ref)) ∧ Paired (LEdge H') fs (((movL (z.2.map (·.t))).take i).filterMap (wayF rooms stirs ns (z.2.map (·.t)))) ∧ H' ll = some (.lst ((lt' ++ more).map fun z => V.ref z.1)) ∧ (∀ y ∈ more, LdAt H' ts y.1 y.2 ∧ Rp D (y.2.map (·.t))) ∧
        (∀ q ∈ ((movL (z.2.map (·.t))).take i).filterMap (wayF rooms stirs ns (z.2.map (·.t))), ∃ y ∈ more, stL (y.2.map (·.t)) = q.2) ∧ more.length ≤ i) ?_ (fun i σ' H' _ h => SqL.of (h.2.1 _ _ eml nml.1 nml.2)) (fun i x σ' H9 hx h => ?_) (fun σ' H9 h => ?_)
      · exact ⟨⟨_, _, _, rfl⟩, fun _ _ e _ _ => e, [], [], era8, .nil, by rw [List.append_nil]; exact ell8, (fun y hy => nomatch hy), (fun y hy => nomatch hy), Nat.le_refl _⟩
      · obtain ⟨⟨o8', o9', o10', rfl⟩, k9, fs, more, era9, pf9, ell9, lm9, cov9, mle9⟩ := h
        obtain ⟨mv, hmv, rfl⟩ : ∃ mv, (movL (z.2.map (·.t)))[i]? = some mv ∧ x = movV mv := by
          rw [List.getElem?_map] at hx
          cases y : (movL (z.2.map (·.t)))[i]? with
          | none => rw [y] at hx; cases hx
          | some mv => rw [y] at hx; exact ⟨mv, rfl, (Option.some.inj hx).symm⟩
        have hi : i < (movL (z.2.map (·.t))).length := (List.getElem?_eq_some_iff.mp hmv).1
        have hmm := List.mem_of_getElem? hmv
        have sm9 : Same H H9 := fun b o e => k9 _ _ (sm8 _ _ e) (nrH e) (ne_of_none e fllH)
        have kd9 : ∀ {b kv}, H8 b = some (.dK kv) → H9 b = some (.dK kv) := fun {b kv} e => k9 _ _ e (fun y => by rw [y, era8] at e; cases e) (fun y => by rw [y, ell8] at e; cases e)
        have tp9 : Tups H8 H9 := fun a ys e => k9 _ _ e (fun y => by rw [y, era8] at e; cases e) (fun y => by rw [y, ell8] at e; cases e)
        have lz8 := lz7.keep (fun a ys e => sm78 _ _ e) fun o e => sm78 _ _ e
        have lz9 : LdAt H9 ts z.1 z.2 := lz8.keep tp9 fun o e => by
          rw [lz8.d] at e
          obtain rfl := Option.some.inj e
          exact kd9 lz8.d
        have rsz := List.length_filterMap_le (wayF rooms stirs ns (z.2.map (·.t))) ((movL (z.2.map (·.t))).take i)
        rw [List.length_take, ← Paired.length pf9] at rsz
        have htake : ((movL (z.2.map (·.t))).take (i + 1)).filterMap (wayF rooms stirs ns (z.2.map (·.t))) = ((movL (z.2.map (·.t))).take i).filterMap (wayF rooms stirs ns (z.2.map (·.t))) ++ (wayF rooms stirs ns (z.2.map (·.t)) mv).toList := by
          rw [List.take_add_one, hmv, List.filterMap_append]
          congr 1
        walk_at "rds"
        refine ⟨w, td, rooms, stirs, z.1, z.2, mv, rfl, wo_.same sm9, lz9.thAt th sm9, by omega, hmm, fun d' ts' H10 sm10 fd' th' fr' le' pm' => ?_⟩
        have el10 := sm10 _ _ (sm9 _ _ el)
        walk_at "rds"
        refine k_iL (SqL.of el10) ?_
        refine k_lcP (itx_l K l (ns.map V.str)) (fun v => some (.bl (match v with
          | .str n => (valV (kvsT ts') (Sum.inr n)).isSome
          | _ => false))) (fun H' k => SqL.of (k _ _ el10)) (by rw [List.length_map]; exact sz8 (by omega)) (fun v H' N' hv k hN => ?_) (fun Dl H11 fD sm11 eD => ?_)
        · obtain ⟨nm, hnm, rfl⟩ := List.mem_map.mp hv
          refine el_name rfl ?_
          walk_at "rds"
          refine k_di2s (.inl (k _ _ th'.d)) ?_
          exact hN _ (Same.refl _)
        rw [fm_all] at eD
        have th11 := th'.same sm11
        have sm911 := sm10.trans sm11
        have pn : ((ts'.map (·.t)).map (·.nm)).Perm ((stepL rooms stirs mv (z.2.map (·.t))).map (·.nm)) := pm'.map _
        have eall : ((ns.map fun n => (valV (kvsT ts') (Sum.inr n)).isSome).all id) = allIn ns (stepL rooms stirs mv (z.2.map (·.t))) := by
          rw [← allIn_perm pn, List.all_map]
          unfold allIn
          congr 1
          funext n
          exact th'.isIn n
        walk_at "rds"
        refine ⟨Dl, _, rfl, SqL.of eD, ?_⟩
        rw [show ((ns.map fun n => match V.str n with
          | .str n => (valV (kvsT ts') (Sum.inr n)).isSome
          | _ => false).all id) = allIn ns (stepL rooms stirs mv (z.2.map (·.t))) from eall]
        walk_at "rds"
        have ewd8 := sm78 _ _ (ewd7)
        have ewd9 := k9 _ _ ewd8 nrw.symm nwl
        refine k_if (fun hc3 => ?_) (fun hc3 => ?_)
        · have hway : wayF rooms stirs ns (z.2.map (·.t)) mv = some (mv, stL (stepL rooms stirs mv (z.2.map (·.t)))) := by
            unfold wayF
            rw [if_pos hc3]
          have esta11 := ((esta7.mono (fun a ys e => sm78 _ _ e)).mono tp9).mono (fun a ys e => sm911 _ _ e : Tups H9 H11)
          have nk11 : NKeys H11 (xs ++ [(stL (z.2.map (·.t)), sta, .ref ra)]) := ((nk7.mono fun a ys e => sm78 _ _ e).mono tp9).mono fun a ys e => sm911 _ _ e
          have ewd11 := sm911 _ _ ewd9
          have era11 := sm911 _ _ era9
          have ell11 := sm911 _ _ ell9
          walk_at "rds"
          refine ⟨sta, wd, _, _, .ref ra, rfl, rfl, esta11, .inl ewd11, nk11, valN_at nn7 (e := (stL (z.2.map (·.t)), sta, .ref ra)) (List.mem_append.mpr (.inr (List.mem_singleton.mpr rfl))), ?_⟩
          refine k_bmL era11 ?_
          walk_at "rds"
          refine ⟨d', ts', rfl, th11, by omega, fun sb H12 sm12 esb => ?_⟩
          walk_at "rds"
          intro tp ftp
          have smt := same_new (o := .tup [movV mv, .ref sb]) ftp
          have etp : (upd H12 tp (.tup [movV mv, .ref sb])) tp = some (.tup [movV mv, .ref sb]) := upd_same
          have sm913 := (sm911.trans sm12).trans smt
          have esb13 := esb.mono (fun a ys e => smt _ _ e : Tups H12 (upd H12 tp (.tup [movV mv, .ref sb])))
          have th13 := th11.same (sm12.trans smt)
          generalize upd H12 tp (.tup [movV mv, .ref sb]) = H13 at *
          have era13 := sm913 _ _ era9
          have ell13 := sm913 _ _ ell9
          refine k_append (xs := fs.map V.ref) era13 (by rw [List.length_map]; exact sz8 (by omega)) ?_
          walk_at "rds"
          have ell14 := (upd_ne (o := .lst (fs.map V.ref ++ [V.ref tp])) nrl.symm).trans ell13
          refine k_bmL ell14 ?_
          walk_at "rds"
          refine k_append (xs := (lt' ++ more).map fun z => V.ref z.1) ell14 (by rw [List.length_map, List.length_append]; exact Nat.lt_of_le_of_lt (show _ ≤ 1000 by omega) (by decide)) ?_
          walk_at "rds"
          have k15 : ∀ b o, H13 b = some o → b ≠ ra → b ≠ ll → (upd (upd H13 ra (.lst (fs.map V.ref ++ [V.ref tp]))) ll (.lst (((lt' ++ more).map fun z => V.ref z.1) ++ [V.ref d']))) b = some o := fun b o e n1 n2 => (upd_ne n2).trans ((upd_ne n1).trans e)
          have era15 : (upd (upd H13 ra (.lst (fs.map V.ref ++ [V.ref tp]))) ll (.lst (((lt' ++ more).map fun z => V.ref z.1) ++ [V.ref d']))) ra = some (.lst (fs.map V.ref ++ [V.ref tp])) := (upd_ne nrl).trans upd_same
          have ell15 : (upd (upd H13 ra (.lst (fs.map V.ref ++ [V.ref tp]))) ll (.lst (((lt' ++ more).map fun z => V.ref z.1) ++ [V.ref d']))) ll = some (.lst (((lt' ++ more).map fun z => V.ref z.1) ++ [V.ref d'])) := upd_same
          generalize upd (upd H13 ra (.lst (fs.map V.ref ++ [V.ref tp]))) ll (.lst (((lt' ++ more).map fun z => V.ref z.1) ++ [V.ref d'])) = H15 at *
          have tp15 : Tups H13 H15 := fun a ys e => k15 _ _ e (fun y => by rw [y, era13] at e; cases e) (fun y => by rw [y, ell13] at e; cases e)
          have kd15 : ∀ {b kv}, H13 b = some (.dK kv) → H15 b = some (.dK kv) := fun {b kv} e => k15 _ _ e (fun y => by rw [y, era13] at e; cases e) (fun y => by rw [y, ell13] at e; cases e)
          have tp915 : Tups H9 H15 := fun a ys e => tp15 _ _ (sm913 _ _ e)
          have lnew : LdAt H15 ts d' ts' := ((th13.ld (fr'.trans lz9.fr) (Nat.le_trans le' lz9.le)).keep tp15 fun o e => by
            rw [th13.d] at e
            obtain rfl := Option.some.inj e
            exact kd15 th13.d)
          have rnew : Rp D (ts'.map (·.t)) := (step_rp (mv := mv) (rooms := rooms) (stirs := stirs) rz).perm pm'.symm
          have est : stL (ts'.map (·.t)) = stL (stepL rooms stirs mv (z.2.map (·.t))) := st_perm th'.nd pm'
          refine ⟨⟨_, _, _, rfl⟩, fun b o e n1 n2 => k15 _ _ (sm913 _ _ (k9 _ _ e n1 n2)) n1 n2, fs ++ [tp], more ++ [(d', ts')], by rw [era15, List.map_append]; rfl, ?_, by rw [ell15, ← List.append_assoc, List.map_append (l₁ := lt' ++ more)]; rfl, fun y hy => ?_, fun q' hq' => ?_, by rw [List.length_append, List.length_singleton]; omega⟩
          · rw [htake, hway]
            refine Paired.snoc (Paired.mapP pf9 fun t e y => y.tups tp915) ⟨sb, tp15 _ _ etp, ?_⟩
            have := esb13.mono tp15
            rw [est] at this
            exact this
          · rcases List.mem_append.mp hy with c | c
            · refine ⟨(lm9 y c).1.keep tp915 fun o e => ?_, (lm9 y c).2⟩
              rw [(lm9 y c).1.d] at e
              obtain rfl := Option.some.inj e
              exact kd15 (sm913 _ _ (lm9 y c).1.d)
            · rw [List.mem_singleton.mp c]
              exact ⟨lnew, rnew⟩
          · rw [htake, hway] at hq'
            rcases List.mem_append.mp hq' with c | c
            · obtain ⟨y, hy, ey⟩ := cov9 q' c
              exact ⟨y, List.mem_append.mpr (.inl hy), ey⟩
            · rw [List.mem_singleton.mp c]
              exact ⟨_, List.mem_append.mpr (.inr (List.mem_singleton.mpr rfl)), est⟩
        · have hway : wayF rooms stirs ns (z.2.map (·.t)) mv = none := by
            unfold wayF
            rw [if_neg (by rw [hc3]; decide)]
          walk_at "rds"
          refine ⟨⟨_, _, _, rfl⟩, fun b o e n1 n2 => sm911 _ _ (k9 _ _ e n1 n2), fs, more, sm911 _ _ era9, ?_, sm911 _ _ ell9, fun y hy => ⟨(lm9 y hy).1.keep (fun a ys e => sm911 _ _ e) fun o e => sm911 _ _ e, (lm9 y hy).2⟩, fun q' hq' => ?_, by omega⟩
          · rw [htake, hway]
            simp only [Option.toList_none, List.append_nil]
            exact Paired.mapP pf9 fun t e y => y.tups fun a ys z => sm911 _ _ z
          · rw [htake, hway] at hq'
            simp only [Option.toList_none, List.append_nil] at hq'
            exact cov9 q' hq'
      · obtain ⟨⟨o8', o9', o10', rfl⟩, k9, fs, more, era9, pf9, ell9, lm9, cov9, mle9⟩ := h
        rw [List.length_map] at pf9 cov9 mle9
        rw [List.take_length, wayF_all, ways_succ rz] at pf9 cov9
        have sm9 : Same H H9 := fun b o e => k9 _ _ (sm8 _ _ e) (nrH e) (ne_of_none e fllH)
        have tp9 : Tups H8 H9 := fun a ys e => k9 _ _ e (fun y => by rw [y, era8] at e; cases e) (fun y => by rw [y, ell8] at e; cases e)
        have tp79 : Tups H7 H9 := fun a ys e => tp9 _ _ (sm78 _ _ e)
        have alt : ∀ s, (s ∈ xs.map (·.1) ∨ ∃ y ∈ lt' ++ [z], stL (y.2.map (·.t)) = s) → (s ∈ (xs ++ [(stL (z.2.map (·.t)), sta, V.ref ra)]).map (·.1) ∨ ∃ y ∈ lt' ++ more, stL (y.2.map (·.t)) = s) := fun s h => by
          rw [List.map_append]
          rcases h with h | ⟨y, hy, ey⟩
          · exact .inl (List.mem_append.mpr (.inl h))
          · rcases List.mem_append.mp hy with c | c
            · exact .inr ⟨y, List.mem_append.mpr (.inl c), ey⟩
            · rw [List.mem_singleton.mp c] at ey
              exact .inl (List.mem_append.mpr (.inr (by rw [← ey]; exact List.mem_singleton.mpr rfl)))
        refine ⟨(lt' ++ more).length + 12 * (60 - (xs ++ [(stL (z.2.map (·.t)), sta, V.ref ra)]).length), ?_, ⟨_, _, _, _, _, rfl⟩, sm9, xs ++ [(stL (z.2.map (·.t)), sta, .ref ra)], lt' ++ more, k9 _ _ (sm78 _ _ ewd7) nrw.symm nwl, nk7.mono tp79, nn7, fun e he => ?_, ell9, fun y hy => ?_, fun e he q' hq' => ?_, alt _ s03, by rw [List.length_append, List.length_singleton]; omega, fun e he => ?_, rfl, ?_⟩
        · rw [List.length_append, List.length_append, List.length_singleton]
          omega
        · rcases List.mem_append.mp he with c | c
          · obtain ⟨r', e1, e2, e3, e4⟩ := rows7 e c
            exact ⟨r', e1, e2, e4.keep tp79 fun o y => k9 _ _ (sm78 _ _ y) e3 e2⟩
          · rw [List.mem_singleton.mp c]
            exact ⟨ra, rfl, nrl, fs, era9, pf9⟩
        · rcases List.mem_append.mp hy with c | c
          · refine ⟨(ld7 y (List.mem_append.mpr (.inl c))).keep tp79 fun o e => ?_, (ld4 y (List.mem_append.mpr (.inl c))).2⟩
            have hd := (ld7 y (List.mem_append.mpr (.inl c))).d
            rw [hd] at e
            obtain rfl := Option.some.inj e
            have h8d := sm78 _ _ hd
            exact k9 _ _ h8d (fun y => by rw [y, era8] at h8d; cases h8d) (fun y => by rw [y, ell8] at h8d; cases h8d)
          · exact lm9 y c
        · rcases List.mem_append.mp he with c | c
          · exact alt _ (cl3 e c q' hq')
          · rw [List.mem_singleton.mp c] at hq'
            obtain ⟨y, hy, ey⟩ := cov9 q' hq'
            exact .inr ⟨y, List.mem_append.mpr (.inr hy), ey⟩
        · rcases List.mem_append.mp he with c | c
          · exact xl3 e c
          · rw [List.mem_singleton.mp c]
            refine Nat.le_trans (stL_len _) ?_
            rw [List.length_map]
            exact lz.le
        · rw [List.length_append, List.length_append, List.length_singleton]
          omega
    · have hlt : lt = [] := by
        cases lt with
        | nil => rfl
        | cons a b => cases hc
      subst hlt
      walk_at "rds"
      have tpn : Tups H3 (upd H3 nl (.lst [])) := fun a ys e => smn _ _ e
      refine q wd xs _ (sm3.trans smn) ⟨smn _ _ ewd3, nk3.mono tpn, nn3, fun e he => ?_⟩ x60 (fun e he q' hq' => ?_) ?_ xl3
      · obtain ⟨ra, e1, _, e3⟩ := rows3 e he
        exact ⟨ra, e1, e3.keep tpn fun o y => smn _ _ y⟩
      · rcases cl3 e he q' hq' with c | ⟨y, hy, _⟩
        · exact c
        · cases hy
      · rcases s03 with c | ⟨y, hy, _⟩
        · exact c
        · cases hy
end
end Wh

/-! ## L17 -/
set_option Elab.async false
set_option linter.all false
set_option maxRecDepth 100000
set_option maxHeartbeats 4000000


namespace Wh
open PySem PySem.Spec PyProof.Rows L2
section
variable {P : Program} {wo : World} {K : PySem.W.Frag} {mg : Str → Option Value} {base : Heap}
/-- the best move so far: its number, the move, where the things stand then, the things -/
abbrev Bst := Nat × Option Str × Addr × List LTh
structure BstAt (su : AS → List (Option Str × AS)) (rooms stirs : List Int) (ns : List Str) (H2 H : Hp) (ts : List LTh) (L : List T) (ba : Addr) (b : Bst) : Prop where
  t : H ba = some (.tup [.int (b.1 : Nat), movV b.2.1, .ref b.2.2.1])
  l : LdAt H ts b.2.2.1 b.2.2.2
  f : H2 b.2.2.1 = none
  p : (b.2.2.2.map (·.t)).Perm (stepL rooms stirs b.2.1 L)
  m : b.2.1 ∈ movL L
  a : allIn ns (stepL rooms stirs b.2.1 L) = true
  r : Rk su (stL (stepL rooms stirs b.2.1 L)) b.1
theorem BstAt.same {su : AS → List (Option Str × AS)} {rooms stirs : List Int} {ns : List Str} {H2 H H' : Hp} {ts : List LTh} {L : List T} {ba : Addr} {b : Bst} (h : BstAt su rooms stirs ns H2 H ts L ba b) (k : Same H H') : BstAt su rooms stirs ns H2 H' ts L ba b :=
  ⟨k _ _ h.t, h.l.keep (fun a xs e => k _ _ e) fun o e => k _ _ e, h.f, h.p, h.m, h.a, h.r⟩
def bstV (ba : Addr) : Option Bst → V
  | none => .non
  | some _ => .ref ba
def spLLong (P : Program) (wo : World) (K : PySem.W.Frag) : Sp := fun vs H Q _ => ∃ w td rooms stirs G p S N d ts l fd xs ys, ∃ (ns : List Str) (D : Sta) (r : Nat), vs = [.ref w, .ref p, .ref d, .ref l, .ref fd, .int (r : Nat)] ∧ WorldAt H w td rooms stirs ∧ StO K G H p S N ∧ N ≤ 1000 ∧ S.ds = [] ∧ 0 ≤ S.mo ∧ S.hold = rooms ∧ S.pres = stirs ∧
  ThAt H d ts ∧ ts.length ≤ 8 ∧ (ts.map (·.t)).Perm (S.bl.map (·.t)) ∧ Rp D (ts.map (·.t)) ∧ (∀ t ∈ ts.map (·.t), NameOk t.nm) ∧ H l = some (.lst (ns.map V.str)) ∧ ns.length ≤ 8 ∧ FoundAt P wo (succS D rooms stirs ns) H fd xs ys ∧ stL (ts.map (·.t)) ∈ ys.map (·.1) ∧ Rk (succS D rooms stirs ns) (stL (ts.map (·.t))) r ∧ r ≤ 1000 ∧ ∀ H', Same H H' → Q (.bl true) H'
theorem ok_law_longest (T : Tx K mg) : FnOk P wo K mg base CX0 10 (He.ga K "_law_longest") (fdA K (He.ga K "_law_longest")) ["_law_world_here", "_law_store_here", "_law_things", "_law_names_here", "_law_lost_here", "_law_turns"] (spLLong P wo K) := by
  refine okD (F_law_longest T) sc_law_longest (fun vs H Q E h => ?_) (fun cdv A outer s H vs Q E hr h => ?_)
  · obtain ⟨w, td, rooms, stirs, G, p, S, N, d, ts, l, fd, xs, ys, ns, D, r, rfl, _⟩ := h
    rfl
  · obtain ⟨w, td, rooms, stirs, G, p, S, N, d, ts, l, fd, xs, ys, ns, D, r, rfl, wo_, st, nb, hds, m0, hho, hpr, th, l8, pm, rp, nok, el, nl8, fnd, sin, rk, r1k, q⟩ := h
    obtain ⟨sdx, es⟩ := st.ins
    refine ⟨_, (pss_cons (ps_set (i := 6) sc_law_longest.nd rfl (Or.inl rfl) (pe_meth0 (pv 1) (c_Store (K := K) T) (m_Store_copied (K := K) T) (ok_Store_copied (P := P) (wo := wo) (K := K) T) (hr.mono (by decide)) (b_Store_copied T) .nil pass0))
 (pss_cons (ps_for PassesOwn.never rfl (pi_range1 rfl (z_range T) (pa_cons (pe_op op_sub (pv 5) pe_int) pa_nil)) (pg_name (i := 7) sc_law_longest.nd rfl (Or.inl rfl)) (pss_cons (ps_set (i := 8) sc_law_longest.nd rfl (Or.inl rfl) pe_non)
 (pss_cons (ps_for PassesOwn.never rfl (pi_list (pe_call (ok_law_moves (P := P) (wo := wo) (K := K) T) (hr.mono (by decide)) rfl (g_law_moves T) (F_law_moves T).kp (b_law_moves T) .nil pass0 (pa_cons (pv 2) pa_nil))) (pg_name (i := 9) sc_law_longest.nd rfl (Or.inl rfl)) (pss_cons (ps_set (i := 10) sc_law_longest.nd rfl (Or.inr rfl) (pe_call (ok_law_moved (P := P) (wo := wo) (K := K) T) (hr.mono (by decide)) rfl (g_law_moved T) (F_law_moved T).kp (b_law_moved T) .nil pass0 (pa_cons (pv 0) (pa_cons (pv 2) (pa_cons (pv 9) pa_nil)))))
 (pss_one (ps_if (pt_val (pe_callB (cr_allK (K := K) rfl) (by rfl) (z_all T) (by decide +kernel) (pa_cons (pe_lc (own := [("_law_name", 11)]) rfl sc_law_longest.nd (pi_list (pv 3)) (blkOk_by (N := ["_law_world_here", "_law_store_here", "_law_things", "_law_names_here", "_law_lost_here", "_law_turns", "_law_here", "_law_turn", "_law_best", "_law_move", "_law_later", "_law_name", "_law_number"]) (sc := defScope s_law_longest) (by decide +kernel)) (fun _ _ _ _ _ => (pg_name (i := 11) sc_law_longest.nd rfl (Or.inl rfl))) (fun _ _ _ _ _ => pts_nil) (fun _ _ _ _ _ => (pe_cmp (pc_din (hu_of hr) (pv 11) (pv 10))))) pa_nil))) (pss_cons (ps_set (i := 12) sc_law_longest.nd rfl (Or.inl rfl) (pe_ix (ix_nkK (P := P) (w := wo) hr.units) (pv 4) (pe_call (ok_law_state (P := P) (wo := wo) (K := K) T) (hr.mono (by decide)) rfl (g_law_state T) (F_law_state T).kp (b_law_state T) .nil pass0 (pa_cons (pv 10) pa_nil)) (fun _ _ => rfl)))
 (pss_one (ps_if (PW.pt (pw_or (pt_cmp (pc_isN (pv 8))) (pw_or1 (pt_cmpR op_gt (pv 12) (pe_ix (ix_tupK (K := K)) (pv 8) pe_int (fun _ _ => rfl)) (nomark _))))) (pss_one (ps_set (i := 8) sc_law_longest.nd rfl (Or.inl rfl) (pe_tup (pa_cons (pv 12) (pa_cons (pv 9) (pa_cons (pv 10) pa_nil)))))) pss_nil))) pss_nil))))
 (pss_cons (ps_if (pt_cmp (pc_isN (pv 8))) (pss_one (ps_ret pe_bl)) pss_nil)
 (pss_cons (ps_set (i := 2) sc_law_longest.nd rfl (Or.inl rfl) (pe_ix (ix_tupK (K := K)) (pv 8) pe_int (fun _ _ => rfl)))
 (pss_cons (ps_expr (pe_call (ok_law_told (P := P) (wo := wo) (K := K) T) (hr.mono (by decide)) rfl (g_law_told T) (F_law_told T).kp (b_law_told T) .nil pass0 (pa_cons (pv 6) (pa_cons (pe_ix (ix_tupK (K := K)) (pv 8) pe_int (fun _ _ => rfl)) pa_nil))))
 (pss_one (ps_if (PW.pt (pw_or (pt_not (pt_val (pe_call (ok_law_stays (P := P) (wo := wo) (K := K) T) (hr.mono (by decide)) rfl (g_law_stays T) (F_law_stays T).kp (b_law_stays T) .nil pass0 (pa_cons (pv 6) (pa_cons (pv 3) pa_nil))))) (pw_or1 (pt_cmpR (op_neSK (K := K) hr.units) (pe_meth0 (pv 6) (c_Store (K := K) T) (m_Store_state (K := K) T) (ok_Store_state (P := P) (wo := wo) (K := K) T) (hr.mono (by decide)) (b_Store_state T) .nil pass0) (pe_call (ok_law_state (P := P) (wo := wo) (K := K) T) (hr.mono (by decide)) rfl (g_law_state T) (F_law_state T).kp (b_law_state T) .nil pass0 (pa_cons (pv 2) pa_nil)) (nomark _))))) (pss_one (ps_ret pe_bl)) pss_nil))))))))
 (pss_one (ps_ret pe_bl)))), ?_⟩
    try dsimp only [cxK, cxP, cxW]
    walk_at "rds"
    refine ⟨G, p, S, N, rfl, st, fun p1 S1 H1 sm1 st1 fr1 fp1 lk => ?_⟩
    walk_at "rds"
    have rpos := rk.pos
    refine k_iR (by omega) (by omega) ?_
    rw [show ((r : Int) - 1).toNat = r - 1 by omega]
    refine k_for (itx_r 0 (r - 1)) (fun i σ' H' => (∃ di o7 o8 o9 o10 o11 o12, σ' = [some (.ref w), some (.ref p), some (.ref di), some (.ref l), some (.ref fd), some (.int (r : Nat)), some (.ref p1), o7, o8, o9, o10, o11, o12] ∧ Same H H' ∧
      ∃ S' tsi, StO K (fun a => G a ∨ (H a = none ∧ H1 a ≠ none ∧ ¬ own S1 a ∧ a ≠ p1)) H' p1 S' N ∧ (∀ a, own S' a → H a = none) ∧ S'.hold = rooms ∧ S'.pres = stirs ∧ S'.ds = [] ∧ 0 ≤ S'.mo ∧ LdAt H' ts di tsi ∧ ¬ own S' di ∧ (tsi.map (·.t)).Perm (S'.bl.map (·.t)) ∧ Rp D (tsi.map (·.t)) ∧ stL (tsi.map (·.t)) ∈ ys.map (·.1) ∧ Rk (succS D rooms stirs ns) (stL (tsi.map (·.t))) (r - i)))
      ⟨d, _, _, _, _, _, _, rfl, sm1, S1, ts, st1, fr1, lk.hold.trans hho, lk.pres.trans hpr, lk.ds.trans hds, by rw [lk.mo]; exact m0, (th.same sm1).ld (FromT.refl _) (Nat.le_refl _), fun o => (by have := fr1 _ o; rw [th.d] at this; cases this), by rw [lk.ts]; exact pm, rp, sin, by rw [Nat.sub_zero]; exact rk⟩ (fun _ _ _ _ _ => trivial) (fun i x σ' H2 hx h => ?_) (fun σ' H2 h => ?_)
    · obtain ⟨di, o7, o8, o9, o10, o11, o12, rfl, sm2, S2, tsi, st2, of2, e1, e2, e3, e4, ld2, nod2, pm2, rp2, sin2, rk2⟩ := h
      obtain ⟨hi, rfl⟩ := nth_rng hx
      have th2 := ld2.thAt th sm2
      have le2 := ld2.le
      walk_at "rds"
      refine ⟨di, tsi, rfl, th2, by omega, fun ml H3 sm3 eml => ?_⟩
      have mvl := mov_len (tsi.map (·.t))
      rw [List.length_map] at mvl
      refine k_iL (SqL.of eml) ?_
      have sm03 : Same H H3 := sm2.trans sm3
      have ld3 : LdAt H3 ts di tsi := ld2.keep (fun a zs e => sm3 _ _ e) fun o e => sm3 _ _ e
      refine k_for (itx_l K ml ((movL (tsi.map (·.t))).map movV)) (fun j σ' H' => Same H3 H' ∧ ∃ (b : Option Bst) (ba : Addr), (∃ o9 o10 o11 o12, σ' = [some (.ref w), some (.ref p), some (.ref di), some (.ref l), some (.ref fd), some (.int (r : Nat)), some (.ref p1), some (.int (i : Nat)), some (bstV ba b), o9, o10, o11, o12]) ∧
        (b = none → ∀ mv ∈ (movL (tsi.map (·.t))).take j, allIn ns (stepL rooms stirs mv (tsi.map (·.t))) = false) ∧
        (∀ y, b = some y → BstAt (succS D rooms stirs ns) rooms stirs ns H3 H' ts (tsi.map (·.t)) ba y ∧ ∀ mv ∈ (movL (tsi.map (·.t))).take j, allIn ns (stepL rooms stirs mv (tsi.map (·.t))) = true → ∃ m, Rk (succS D rooms stirs ns) (stL (stepL rooms stirs mv (tsi.map (·.t)))) m ∧ m ≤ y.1)) ?_ (fun i σ' H' _ h => SqL.of (h.1 _ _ eml)) (fun j x σ' H4 hx h => ?_) (fun σ' H4 h => ?_)
      · exact ⟨Same.refl _, none, 0, ⟨_, _, _, _, rfl⟩, (fun _ mv hm => by rw [List.take_zero] at hm; cases hm), (fun y hy => by cases hy)⟩
      · obtain ⟨sm4, b, ba, ⟨o9, o10, o11, o12, rfl⟩, bn, bs⟩ := h
        obtain ⟨mv, hmv, rfl⟩ : ∃ mv, (movL (tsi.map (·.t)))[j]? = some mv ∧ x = movV mv := by
          rw [List.getElem?_map] at hx
          cases y : (movL (tsi.map (·.t)))[j]? with
          | none => rw [y] at hx; cases hx
          | some mv => rw [y] at hx; exact ⟨mv, rfl, (Option.some.inj hx).symm⟩
        have hmm := List.mem_of_getElem? hmv
        have htake : ∀ u, u ∈ (movL (tsi.map (·.t))).take (j + 1) ↔ u ∈ (movL (tsi.map (·.t))).take j ∨ u = mv := fun u => by
          rw [List.take_add_one, hmv, List.mem_append]
          simp
        have sm04 : Same H H4 := sm03.trans sm4
        have ld4 : LdAt H4 ts di tsi := ld3.keep (fun a zs e => sm4 _ _ e) fun o e => sm4 _ _ e
        walk_at "rds"
        refine ⟨w, td, rooms, stirs, di, tsi, mv, rfl, wo_.same sm04, ld4.thAt th sm04, by omega, hmm, fun d' ts' H5 sm5 fd' th' fr' le' pm' => ?_⟩
        have el5 := sm5 _ _ (sm04 _ _ el)
        walk_at "rds"
        refine k_iL (SqL.of el5) ?_
        refine k_lcP (itx_l K l (ns.map V.str)) (fun v => some (.bl (match v with
          | .str n => (valV (kvsT ts') (Sum.inr n)).isSome
          | _ => false))) (fun H' k => SqL.of (k _ _ el5)) (by rw [List.length_map]; exact sz8 (by omega)) (fun v H' N' hv k hN => ?_) (fun Dl H6 fD sm6 eD => ?_)
        · obtain ⟨nm, hnm, rfl⟩ := List.mem_map.mp hv
          refine el_name rfl ?_
          walk_at "rds"
          refine k_di2s (.inl (k _ _ th'.d)) ?_
          exact hN _ (Same.refl _)
        rw [fm_all] at eD
        have th6 := th'.same sm6
        have sm46 := sm5.trans sm6
        have pn : ((ts'.map (·.t)).map (·.nm)).Perm ((stepL rooms stirs mv (tsi.map (·.t))).map (·.nm)) := pm'.map _
        have eall : ((ns.map fun n => (valV (kvsT ts') (Sum.inr n)).isSome).all id) = allIn ns (stepL rooms stirs mv (tsi.map (·.t))) := by
          rw [← allIn_perm pn, List.all_map]
          unfold allIn
          congr 1
          funext n
          exact th'.isIn n
        walk_at "rds"
        refine ⟨Dl, _, rfl, SqL.of eD, ?_⟩
        rw [show ((ns.map fun n => match V.str n with
          | .str n => (valV (kvsT ts') (Sum.inr n)).isSome
          | _ => false).all id) = allIn ns (stepL rooms stirs mv (tsi.map (·.t))) from eall]
        walk_at "rds"
        refine k_if (fun hc => ?_) (fun hc => ?_)
        · have hsu : (mv, stL (stepL rooms stirs mv (tsi.map (·.t)))) ∈ succS D rooms stirs ns (stL (tsi.map (·.t))) := by
            rw [← ways_succ rp2, ← wayF_all]
            exact List.mem_filterMap.mpr ⟨mv, hmm, by unfold wayF; rw [if_pos hc]⟩
          obtain ⟨e0, he0, ee0⟩ := List.mem_map.mp sin2
          have hin : stL (stepL rooms stirs mv (tsi.map (·.t))) ∈ ys.map (·.1) := fnd.c e0 he0 _ (by rw [ee0]; exact hsu)
          obtain ⟨n, hv, hr⟩ := fnd.val hin
          have est : stL (ts'.map (·.t)) = stL (stepL rooms stirs mv (tsi.map (·.t))) := st_perm th'.nd pm'
          walk_at "rds"
          refine ⟨d', ts', rfl, th6, by omega, fun sb H7 sm7 esb => ?_⟩
          rw [est] at esb
          have sm07 : Same H H7 := sm04.trans (sm46.trans sm7)
          have sm47 := sm46.trans sm7
          walk_at "rds"
          refine ⟨sb, fd, _, ys, _, rfl, rfl, esb, .inl (sm07 _ _ fnd.d), fnd.k.mono fun a zs e => sm07 _ _ e, hv, ?_⟩
          walk_at "rds"
          have fd3 : H3 d' = none := Same.free sm4 fd'
          have new_ : ∀ ba' H8 o9 o10 o11 o12, Same H7 H8 → H8 ba' = some (.tup [.int (n : Nat), movV mv, .ref d']) → (∀ y, b = some y → y.1 ≤ n) → Same H3 H8 ∧ ∃ (b : Option Bst) (ba : Addr), (∃ p9 p10 p11 p12, [some (.ref w), some (.ref p), some (.ref di), some (.ref l), some (.ref fd), some (.int (r : Nat)), some (.ref p1), some (.int (i : Nat)), some (.ref ba'), o9, o10, o11, o12] = [some (.ref w), some (.ref p), some (.ref di), some (.ref l), some (.ref fd), some (.int (r : Nat)), some (.ref p1), some (.int (i : Nat)), some (bstV ba b), p9, p10, p11, p12]) ∧ (b = none → ∀ mv ∈ (movL (tsi.map (·.t))).take (j + 1), allIn ns (stepL rooms stirs mv (tsi.map (·.t))) = false) ∧
              (∀ y, b = some y → BstAt (succS D rooms stirs ns) rooms stirs ns H3 H8 ts (tsi.map (·.t)) ba y ∧ ∀ mv ∈ (movL (tsi.map (·.t))).take (j + 1), allIn ns (stepL rooms stirs mv (tsi.map (·.t))) = true → ∃ m, Rk (succS D rooms stirs ns) (stL (stepL rooms stirs mv (tsi.map (·.t)))) m ∧ m ≤ y.1) := fun ba' H8 o9 o10 o11 o12 sm8 et hle => by
            refine ⟨sm4.trans (sm47.trans sm8), some (n, mv, d', ts'), ba', ⟨_, _, _, _, rfl⟩, (fun z => by cases z), fun y hy => ?_⟩
            obtain rfl := Option.some.inj hy
            refine ⟨⟨et, (th6.same (sm7.trans sm8)).ld (fr'.trans ld4.fr) (Nat.le_trans le' ld4.le), fd3, pm', hmm, hc, hr⟩, fun u hu ha => ?_⟩
            rcases (htake u).mp hu with c | c
            · cases hb : b with
              | none =>
                have := bn hb u c
                rw [ha] at this
                cases this
              | some y =>
                obtain ⟨m, h1, h2⟩ := (bs y hb).2 u c ha
                exact ⟨m, h1, Nat.le_trans h2 (hle y hb)⟩
            · rw [c]
              exact ⟨n, hr, Nat.le_refl _⟩
          cases hb : b with
          | none =>
            dsimp only [bstV]
            walk_at "rds"
            intro bt fbt
            walk_at "rds"
            exact new_ bt _ _ _ _ _ (same_new fbt) upd_same (fun y hy => by rw [hb] at hy; cases hy)
          | some y =>
            have hby := bs y hb
            have ety := sm47 _ _ hby.1.t
            dsimp only [bstV]
            walk_at "rds"
            refine x_ixT (SqT.of ety) (atI_nat (v := .int (y.1 : Nat)) (by decide) rfl) ?_
            walk_at "rds"
            refine k_if (fun hc4 => ?_) (fun hc4 => ?_)
            · have hlt := of_decide_eq_true hc4
              walk_at "rds"
              intro bt fbt
              walk_at "rds"
              exact new_ bt _ _ _ _ _ (same_new fbt) upd_same (fun u hu => by
                rw [hb] at hu
                obtain rfl := Option.some.inj hu
                omega)
            · have hge := of_decide_eq_false hc4
              walk_at "rds"
              refine ⟨sm4.trans sm47, some y, ba, ⟨_, _, _, _, rfl⟩, (fun z => by cases z), fun u hu => ?_⟩
              obtain rfl := Option.some.inj hu
              refine ⟨hby.1.same sm47, fun u hu ha => ?_⟩
              rcases (htake u).mp hu with c | c
              · exact hby.2 u c ha
              · rw [c]
                exact ⟨n, hr, by omega⟩
        · walk_at "rds"
          refine ⟨sm4.trans sm46, b, ba, ⟨_, _, _, _, rfl⟩, fun hb u hu => ?_, fun y hy => ⟨(bs y hy).1.same sm46, fun u hu ha => ?_⟩⟩
          · rcases (htake u).mp hu with c | c
            · exact bn hb u c
            · rw [c]; exact hc
          · rcases (htake u).mp hu with c | c
            · exact (bs y hy).2 u c ha
            · rw [c, hc] at ha
              cases ha
      · obtain ⟨sm4, b, ba, ⟨o9', o10', o11', o12', rfl⟩, bn, bs⟩ := h
        rw [List.length_map, List.take_length] at bn bs
        have hri : r - i = (r - i - 2) + 2 := by
          omega
        rw [hri] at rk2
        obtain ⟨q0, hq0, rq0⟩ := rk2.best
        rw [← ways_succ rp2, ← wayF_all] at hq0
        obtain ⟨mv0, hm0, hw0⟩ := List.mem_filterMap.mp hq0
        have ha0 : allIn ns (stepL rooms stirs mv0 (tsi.map (·.t))) = true := by
          unfold wayF at hw0
          by_cases z : allIn ns (stepL rooms stirs mv0 (tsi.map (·.t))) = true
          · exact z
          · rw [if_neg z] at hw0; cases hw0
        have hs0 : q0.2 = stL (stepL rooms stirs mv0 (tsi.map (·.t))) := by
          unfold wayF at hw0
          rw [if_pos ha0] at hw0
          rw [← Option.some.inj hw0]
        cases b with
        | none =>
          have := bn rfl mv0 hm0
          rw [ha0] at this
          cases this
        | some y =>
          obtain ⟨hby, hmax⟩ := bs y rfl
          obtain ⟨m, hm1, hm2⟩ := hmax mv0 hm0 ha0
          rw [hs0] at rq0
          have em := hm1.uniq rq0
          have hsu : (y.2.1, stL (stepL rooms stirs y.2.1 (tsi.map (·.t)))) ∈ succS D rooms stirs ns (stL (tsi.map (·.t))) := by
            rw [← ways_succ rp2, ← wayF_all]
            exact List.mem_filterMap.mpr ⟨y.2.1, hby.m, by unfold wayF; rw [if_pos hby.a]⟩
          obtain ⟨m2, hm3, hm4⟩ := rk2.less hsu
          have em2 := hm3.uniq hby.r
          have ey : y.1 = r - (i + 1) := by omega
          have sm04 : Same H H4 := sm03.trans sm4
          have st4 := (st2.same sm3).same sm4
          obtain ⟨n0, mv, d', ts'⟩ := y
          have ety := hby.t
          have nod' : ¬ own S2 d' := fun o => (st2.same sm3).sc.there o hby.f
          have nop' : d' ≠ p1 := fun z => by
            obtain ⟨dx, e⟩ := (st2.same sm3).ins
            have := hby.f
            simp only at this
            rw [z, e] at this
            cases this
          obtain ⟨e0, he0, ee0⟩ := List.mem_map.mp sin2
          have sinN : stL (stepL rooms stirs mv (tsi.map (·.t))) ∈ ys.map (·.1) := fnd.c e0 he0 _ (by rw [ee0]; exact hsu)
          have est : stL (ts'.map (·.t)) = stL (stepL rooms stirs mv (tsi.map (·.t))) := st_perm (hby.l.nn |> fun z => (by unfold Nd; rw [← nm_lth]; exact z)) hby.p
          simp only [bstV] at *
          walk_at "rds"
          refine x_ixT (SqT.of ety) (atI_nat (v := .ref d') (by decide) rfl) ?_
          walk_at "rds"
          refine x_ixT (SqT.of ety) (atI_nat (v := movV mv) (by decide) rfl) ?_
          walk_at "rds"
          have sall := st4.all
          refine ⟨_, _, p1, S2, N, mv, rfl, st4, sall, fun a g => ⟨st4.sc.dm a g, fun o => st4.sc.notG o g, fun z => st4.g (z ▸ g)⟩, fun a ha => ?_, nb, e3, e4, fun n hn => ?_, fun S6 H6 kp6 st6 oo6 f1 f2 f3 f4 f5 => ?_⟩
          · by_cases z1 : own S2 a
            · exact .inr (.inl z1)
            · by_cases z2 : a = p1
              · exact .inr (.inr z2)
              · exact .inl ⟨ha, z1, z2⟩
          · have := mov_in (L := tsi.map (·.t)) (n := n) (by rw [← hn]; exact hby.m)
            rw [← nm_lth] at this
            obtain ⟨x, hx', ex⟩ := List.mem_map.mp this
            obtain ⟨x0, hx0, _, _, en⟩ := ld2.fr x hx'
            rw [← ex, ← en]
            exact nok _ (List.mem_map.mpr ⟨x0, hx0, rfl⟩)
          rw [e1, e2] at f5
          have k46 : ∀ b o, H4 b = some o → ¬ own S2 b → b ≠ p1 → H6 b = some o := fun b o e n1 n2 => kp6.g _ _ ⟨by rw [e]; simp, n1, n2⟩ e
          have sm06 : Same H H6 := fun b o e => k46 _ _ (sm04 _ _ e) (fun z => by have := of2 _ z; rw [e] at this; cases this) (ne_of_none e fp1)
          have of6 : ∀ a, own S6 a → H a = none := fun a o => (oo6 a o).elim (of2 a) fun z => Same.free sm04 z
          have hd4 := hby.l.d
          simp only at hd4
          have nod6 : ¬ own S6 d' := fun o => (oo6 d' o).elim nod' fun z => by rw [hd4] at z; cases z
          have ld6 : LdAt H6 ts d' ts' := hby.l.keep kp6.t fun o e => k46 _ _ e nod' nop'
          have pst := step_perm (rooms := rooms) (stirs := stirs) (mv := mv) rp2.1.1 pm2
          have p6 : (ts'.map (·.t)).Perm (S6.bl.map (·.t)) := by
            rw [f5]
            exact hby.p.trans pst
          have hall : allIn ns (S6.bl.map (·.t)) = true := by
            rw [f5, ← allIn_perm (pst.map _)]
            exact hby.a
          have nd' : Nd (ts'.map (·.t)) := by
            unfold Nd
            rw [← nm_lth]
            exact ld6.nn
          walk_at "rds"
          refine ⟨_, p1, S6, N, l, ns, rfl, st6, sm06 _ _ el, nl8, fun H7 sm7 => ?_⟩
          rw [hall]
          have st7 := st6.same sm7
          obtain ⟨pdx7, ep7⟩ := st7.ins
          walk_at "rds"
          refine ⟨_, p1, S6, N, rfl, st7, fun sa H8 sm8 esa => ?_⟩
          have sm08 : Same H H8 := sm06.trans (sm7.trans sm8)
          have ld8 : LdAt H8 ts d' ts' := ld6.keep (fun a zs e => sm8 _ _ (sm7 _ _ e)) fun o e => sm8 _ _ (sm7 _ _ e)
          have led := ld6.le
          walk_at "rds"
          refine ⟨d', ts', rfl, ld8.thAt th sm08, by omega, fun sb H9 sm9 esb => ?_⟩
          walk_at "rds"
          refine ⟨sa, sb, _, _, rfl, rfl, esa.mono fun a zs e => sm9 _ _ e, esb, ?_⟩
          rw [st_perm nd' p6]
          refine x_bF (by simp) ?_
          walk_at "rds"
          have sm69 : Same H6 H9 := (sm7.trans sm8).trans sm9
          refine ⟨d', _, _, _, _, _, _, rfl, sm06.trans sm69, S6, ts', st6.same sm69, of6, f1.trans e1, f2.trans e2, f3, f4, ld6.keep (fun a zs e => sm69 _ _ e) fun o e => sm69 _ _ e, nod6, p6, (step_rp (mv := mv) (rooms := rooms) (stirs := stirs) rp2).perm hby.p.symm, by rw [est]; exact sinN, ?_⟩
          rw [est, ← ey]
          exact hby.r
    · obtain ⟨di, o7, o8, o9, o10, o11, o12, rfl, sm2, _⟩ := h
      walk_at "rds"
      exact q H2 sm2
end
end Wh

/-! ## M9 -/
set_option Elab.async false
set_option linter.all false
namespace Wh
open PySem PySem.Spec PyProof.Rows L2
def LS (ks : List Nat) : Str := ⟨ks.toArray⟩
theorem LS_tl (ks : List Nat) : (LS ks).cps.toList = ks := by simp [LS]
theorem LS_len (ks : List Nat) : (LS ks).length = ks.length := by simp [LS, Str.length]
theorem LS_app (a b : List Nat) : LS a ++ LS b = LS (a ++ b) := by
  show Str.append _ _ = _
  simp [LS, Str.append]
theorem LS_inj {a b : List Nat} (h : LS a = LS b) : a = b := by
  rw [← LS_tl a, ← LS_tl b, h]
theorem LS_one (k : Nat) : (⟨#[k]⟩ : Str) = LS [k] := rfl
theorem LS_cutl (ks : List Nat) (a : Nat) : cutS (LS ks) none (some (a : Int)) = LS (ks.take a) := by
  unfold cutS
  rw [HT.sIx_none, HT.sIx_nat, LS_tl, LS_len, List.drop_zero, Nat.sub_zero]
  show LS _ = LS _
  congr 1
  by_cases h : a ≤ ks.length
  · rw [Nat.min_eq_left h]
  · rw [Nat.min_eq_right (by omega), List.take_of_length_le (Nat.le_refl _), List.take_of_length_le (by omega)]
theorem LS_cutr (ks : List Nat) (a : Nat) : cutS (LS ks) (some (a : Int)) none = LS (ks.drop a) := by
  unfold cutS
  rw [HT.sIx_none, HT.sIx_nat, LS_tl, LS_len]
  show LS _ = LS _
  congr 1
  by_cases h : a ≤ ks.length
  · rw [Nat.min_eq_left h]
    exact List.take_of_length_le (by rw [List.length_drop]; exact Nat.le_refl _)
  · rw [Nat.min_eq_right (by omega), Nat.sub_self, List.take_zero, List.drop_of_length_le (by omega)]
theorem LS_join (ks : List Nat) : Txt.join (Str.ofString "") (ks.map fun k => (⟨#[k]⟩ : Str)) = LS ks := by
  rw [TL.join_eq]
  exact join_ones ks
theorem LS_sum (ks : List Nat) : ((ks.map fun k => (⟨#[k]⟩ : Str)).map (·.length)).sum = ks.length := by
  induction ks with
  | nil => rfl
  | cons k r ih =>
    rw [List.map_cons, List.map_cons, List.sum_cons, ih, List.length_cons]
    show 1 + r.length = r.length + 1
    omega
theorem LET26 : LET.cps.toList.length = 26 := by decide +kernel
theorem LETnd : LET.cps.toList.Nodup := by decide +kernel
def ltr (i : Nat) : Nat := LET.cps.toList.getD i 0
theorem ltr_in {i : Nat} (h : i < 26) : ltr i ∈ LET.cps.toList := by
  unfold ltr
  rw [List.getD_eq_getElem?_getD, List.getElem?_eq_getElem (by rw [LET26]; exact h)]
  exact List.getElem_mem _
theorem ltr_at {i : Nat} (h : i < 26) : LET.cps.toList[i]? = some (ltr i) := by
  unfold ltr
  rw [List.getD_eq_getElem?_getD, List.getElem?_eq_getElem (by rw [LET26]; exact h)]
  rfl
theorem ltr_inj {i j : Nat} (hi : i < 26) (hj : j < 26) (e : ltr i = ltr j) : i = j := by
  have h1 := ltr_at hi
  have h2 := ltr_at hj
  rw [← e] at h2
  obtain ⟨a1, a2⟩ := List.getElem?_eq_some_iff.mp h1
  obtain ⟨b1, b2⟩ := List.getElem?_eq_some_iff.mp h2
  exact (List.getElem_inj LETnd).mp (a2.trans b2.symm)
theorem ltr_ix {v : Int} (h0 : 0 ≤ v) (h1 : v < 26) : atI LET.cps.toList v = some (ltr v.toNat) := by
  unfold atI ixN
  rw [if_pos h0, LET26, if_pos (by exact h1)]
  exact ltr_at (by omega)
theorem LETlen : LET.length ≤ sizeLine := by decide +kernel
/-- a base with a letter put otherwise -/
def nmK (ks : List Nat) (a i : Nat) : Str := LS (ks.take a ++ [ltr i] ++ ks.drop (a + 1))
theorem nmK_len {ks : List Nat} {a i : Nat} (h : a < ks.length) : (nmK ks a i).length = ks.length := by
  unfold nmK
  rw [LS_len, List.length_append, List.length_append, List.length_take, List.length_drop, List.length_singleton]
  omega
theorem nmK_ok {ks : List Nat} {a i : Nat} (h : a < ks.length) (l8 : ks.length ≤ 8) (hi : i < 26) (hk : ∀ k ∈ ks, k ∈ LET.cps.toList) : NameOk (nmK ks a i) := by
  refine ⟨by rw [nmK_len h]; omega, by rw [nmK_len h]; omega, fun c hc => ?_⟩
  unfold nmK at hc
  rw [LS_tl] at hc
  rcases List.mem_append.mp hc with z | z
  · rcases List.mem_append.mp z with y | y
    · exact hk c (List.mem_of_mem_take y)
    · rw [List.mem_singleton.mp y]
      exact ltr_in hi
  · exact hk c (List.mem_of_mem_drop z)
theorem nmK_ne {ks : List Nat} {a i j : Nat} (hi : i < 26) (hj : j < 26) (h : i ≠ j) : nmK ks a i ≠ nmK ks a j := fun e => by
  have := LS_inj e
  rw [List.append_assoc, List.append_assoc] at this
  have h2 := List.append_cancel_left this
  exact h (ltr_inj hi hj (List.cons.inj h2).1)
theorem nmK_snoc {ks : List Nat} {a i j : Nat} (h : a < ks.length) (l8 : ks.length ≤ 7) (hi : i < 26) (hj : j < 26) (hk : ∀ k ∈ ks, k ∈ LET.cps.toList) : NameOk (nmK ks a i ++ LS [ltr j]) := by
  have e : nmK ks a i ++ LS [ltr j] = LS ((ks.take a ++ [ltr i] ++ ks.drop (a + 1)) ++ [ltr j]) := LS_app _ _
  have l := nmK_len (i := i) h
  unfold nmK at l
  rw [LS_len] at l
  rw [e]
  refine ⟨?_, ?_, fun c hc => ?_⟩
  · rw [LS_len, List.length_append, l]; omega
  · rw [LS_len, List.length_append, l, List.length_singleton]; omega
  · rw [LS_tl] at hc
    rcases List.mem_append.mp hc with z | z
    · refine (nmK_ok (i := i) h (by omega) hi hk).le c ?_
      unfold nmK
      rw [LS_tl]
      exact z
    · rw [List.mem_singleton.mp z]
      exact ltr_in hj
end Wh

/-! ## L18 -/
set_option Elab.async false
set_option linter.all false
set_option maxRecDepth 100000
set_option maxHeartbeats 4000000


namespace Wh
open PySem PySem.Spec PyProof.Rows L2
section
variable {P : Program} {wo : World} {K : PySem.W.Frag} {mg : Str → Option Value} {base : Heap}
/-- two unlike names -/
def spNames : Sp := fun vs H Q _ => ∃ b c, vs = [.ref b, .int 2] ∧ BagAt H b c ∧ ∀ a (n0 n1 : Str) H', n0 ≠ n1 → NameOk n0 → NameOk n1 → H' a = some (.lst ([n0, n1].map V.str)) → a ≠ b → BagAt H' b c → ButBag b H H' → Q (.ref a) H'
theorem ok_law_names (T : Tx K mg) : FnOk P wo K mg base CX0 2 (He.ga K "_law_names") (fdA K (He.ga K "_law_names")) ["_law_bag_here", "_law_many"] (spNames) := by
  refine okD (F_law_names T) sc_law_names (fun vs H Q E h => ?_) (fun cdv A outer s H vs Q E hr h => ?_)
  · obtain ⟨b, c, rfl, _⟩ := h
    rfl
  · obtain ⟨b, c, rfl, bag, q⟩ := h
    refine ⟨_, (pss_cons (ps_set (i := 2) sc_law_names.nd rfl (Or.inr rfl) pe_str)
 (pss_cons (ps_set (i := 3) sc_law_names.nd rfl (Or.inl rfl) (pe_op op_add pe_int (pe_call (ok_law_take (P := P) (wo := wo) (K := K) T) (hr.mono (by decide)) rfl (g_law_take T) (F_law_take T).kp (b_law_take T) .nil pass0 (pa_cons (pv 0) (pa_cons pe_int pa_nil)))))
 (pss_cons (ps_set (i := 4) sc_law_names.nd rfl (Or.inr rfl) (pe_join pe_str (pe_lc (own := [("_law_k", 5)]) rfl sc_law_names.nd (pi_range1 rfl (z_range T) (pa_cons (pv 3) pa_nil)) (blkOk_by (N := ["_law_bag_here", "_law_many", "_law_letters", "_law_size", "_law_base", "_law_k", "_law_at", "_law_turn", "_law_names_here"]) (sc := defScope s_law_names) (by decide +kernel)) (fun _ _ _ _ _ => (pg_name (i := 5) sc_law_names.nd rfl (Or.inl rfl))) (fun _ _ _ _ _ => pts_nil) (fun _ _ _ _ _ => (pe_ix ix_str (pv 2) (pe_call (ok_law_take (P := P) (wo := wo) (K := K) T) (hr.mono (by decide)) rfl (g_law_take T) (F_law_take T).kp (b_law_take T) .nil pass0 (pa_cons (pv 0) (pa_cons pe_int pa_nil))) (fun _ _ => rfl))))))
 (pss_cons (ps_set (i := 6) sc_law_names.nd rfl (Or.inr rfl) (pe_call (ok_law_take (P := P) (wo := wo) (K := K) T) (hr.mono (by decide)) rfl (g_law_take T) (F_law_take T).kp (b_law_take T) .nil pass0 (pa_cons (pv 0) (pa_cons (pv 3) pa_nil))))
 (pss_cons (ps_set (i := 7) sc_law_names.nd rfl (Or.inr rfl) (pe_call (ok_law_take (P := P) (wo := wo) (K := K) T) (hr.mono (by decide)) rfl (g_law_take T) (F_law_take T).kp (b_law_take T) .nil pass0 (pa_cons (pv 0) (pa_cons pe_int pa_nil))))
 (pss_cons (ps_set (i := 8) sc_law_names.nd rfl (Or.inr rfl) (pe_lc (own := [("_law_k", 5)]) rfl sc_law_names.nd (pi_range1 rfl (z_range T) (pa_cons (pv 1) pa_nil)) (blkOk_by (N := ["_law_bag_here", "_law_many", "_law_letters", "_law_size", "_law_base", "_law_k", "_law_at", "_law_turn", "_law_names_here"]) (sc := defScope s_law_names) (by decide +kernel)) (fun _ _ _ _ _ => (pg_name (i := 5) sc_law_names.nd rfl (Or.inl rfl))) (fun _ _ _ _ _ => pts_nil) (fun _ _ _ _ _ => (pe_op op_add_str (pe_op op_add_str (pe_slice sl_str (pv 4) po_none (po_some (pv 6))) (pe_ix ix_str (pv 2) (pe_op op_mod (pe_op op_add (pv 7) (pe_op op_mul pe_int (pv 5))) pe_int) (fun _ _ => rfl))) (pe_slice sl_str (pv 4) (po_some (pe_op op_add (pv 6) pe_int)) po_none)))))
 (C8.pss_cut (ps_if (pt_cmpR op_eq (pe_call (ok_law_take (P := P) (wo := wo) (K := K) T) (hr.mono (by decide)) rfl (g_law_take T) (F_law_take T).kp (b_law_take T) .nil pass0 (pa_cons (pv 0) (pa_cons pe_int pa_nil))) pe_int (nomark _)) (pss_one (ps_set (i := 8) sc_law_names.nd rfl (Or.inr rfl) (pe_lc (own := [("_law_k", 5)]) rfl sc_law_names.nd (pi_range1 rfl (z_range T) (pa_cons (pv 1) pa_nil)) (blkOk_by (N := ["_law_bag_here", "_law_many", "_law_letters", "_law_size", "_law_base", "_law_k", "_law_at", "_law_turn", "_law_names_here"]) (sc := defScope s_law_names) (by decide +kernel)) (fun _ _ _ _ _ => (pg_name (i := 5) sc_law_names.nd rfl (Or.inl rfl))) (fun _ _ _ _ _ => pts_nil) (fun _ _ _ _ _ => (pe_op op_add_str (pe_ix (ix_listK (K := K)) (pv 8) (pv 5) (fun _ _ => rfl)) (pe_op op_mulS (pe_ix ix_str (pv 2) (pv 7) (fun _ _ => rfl)) (pe_op op_mod (pv 5) pe_int))))))) pss_nil)
 (pss_one (ps_ret (pv 8)))))))))), ?_⟩
    try dsimp only [cxK, cxP, cxW]
    walk_at "rds"
    refine ⟨b, c, 7, rfl, bag, by decide, by decide, fun v1 H1 a0 a1 bag1 bb1 => ?_⟩
    walk_at "rds"
    refine k_iR (by omega) (by omega) ?_
    have hb1 : H1 b ≠ none := by
      obtain ⟨x0, x1, x2, cells, eb, _⟩ := bag1
      rw [eb]; simp
    have hc1 : H1 c ≠ none := by
      obtain ⟨x0, x1, x2, cells, eb, ec, _⟩ := bag1
      rw [ec]; simp
    refine k_lcI (itx_r 0 (1 + v1).toNat) (fun i acc D H' => BagAt H' b c ∧ ButBag b H1 H' ∧ H1 D = none ∧ ∃ ks : List Nat, acc = ks.map (fun k => V.str ⟨#[k]⟩) ∧ H' D = some (.lst acc) ∧ ks.length = i ∧ i ≤ 7 ∧ ∀ k ∈ ks, k ∈ LET.cps.toList) (fun D hD => ?_) (fun i acc D H' p => trivial) (fun i x acc D H' hx pp => ?_) (fun acc D H2 pp => ?_)
    · exact ⟨bag1.same (same_new hD), ButBag.same (same_new hD), hD, [], rfl, upd_same, rfl, by omega, fun k hk => nomatch hk⟩
    · obtain ⟨bag2, bb2, hD, ks, rfl, eD, kl, k7, kok⟩ := pp
      obtain ⟨hi, rfl⟩ := nth_rng hx
      have nDb : D ≠ b := fun z => hb1 (z ▸ hD)
      have nDc : D ≠ c := fun z => hc1 (z ▸ hD)
      refine el_nameI rfl ?_
      walk_at "rds"
      refine ⟨b, c, 26, rfl, bag2, by decide, by decide, fun v2 H3 c0 c1 bag3 bb3 => ?_⟩
      walk_at "rds"
      refine ⟨LET, v2, _, rfl, rfl, LETlen, ltr_ix c0 c1, ?_⟩
      refine k_el (acc := ks.map fun k => V.str ⟨#[k]⟩) (bb3 _ _ eD nDb) (by rw [List.length_map]; exact sz8 (by omega)) ⟨bag3.keep fun a o e hab => (upd_ne (fun (y : a = D) => hab.elim (fun z => nDb (y.symm.trans z)) fun z => nDc (y.symm.trans z))).trans e, fun a o e n => (upd_ne (ne_of_none e hD)).trans (bb3 _ _ (bb2 _ _ e n) n), hD, ks ++ [ltr v2.toNat], by rw [List.map_append]; rfl, upd_same, by rw [List.length_append, kl]; rfl, by omega, fun k hk => ?_⟩
      rcases List.mem_append.mp hk with z | z
      · exact kok k z
      · rw [List.mem_singleton.mp z]
        exact ltr_in (by omega)
    · obtain ⟨bag2, bb2, hD, ks, rfl, eD, kl, k7, kok⟩ := pp
      rw [List.length_map, List.length_range] at kl k7
      have klI : (ks.length : Int) = 1 + v1 := by omega
      walk_at "rds"
      refine ⟨_, D, ks.map fun k => (⟨#[k]⟩ : Str), rfl, rfl, .inl (SqL.of (by rw [eD, List.map_map]; rfl)), ?_, ?_⟩
      · rw [LS_sum, List.length_map]
        show ks.length + ks.length * 0 ≤ _
        omega
      rw [LS_join]
      walk_at "rds"
      refine ⟨b, c, 1 + v1, rfl, bag2, by omega, by omega, fun v2 H3 c0 c1 bag3 bb3 => ?_⟩
      obtain ⟨a, rfl⟩ : ∃ a : Nat, v2 = (a : Int) := ⟨v2.toNat, by omega⟩
      have hak : a < ks.length := by omega
      walk_at "rds"
      refine ⟨b, c, 26, rfl, bag3, by decide, by decide, fun v3 H4 d0 d1 bag4 bb4 => ?_⟩
      obtain ⟨t, rfl⟩ : ∃ t : Nat, v3 = (t : Int) := ⟨v3.toNat, by omega⟩
      have ht : t < 26 := by omega
      walk_at "rds"
      refine k_iR (by omega) (by omega) ?_
      refine k_lcP (itx_r 0 (2 : Int).toNat) (fun v => match v with
        | .int k => some (.str (nmK ks a (((t : Int) + 3 * k) % 26).toNat))
        | _ => none) (fun _ _ => trivial) (by decide) (fun v H' N' hv k hN => ?_) (fun nl H5 fnl sm5 enl => ?_)
      · obtain ⟨i0, hi0, rfl⟩ := List.mem_map.mp hv
        have hi1 : i0 < 2 := List.mem_range.mp hi0
        refine el_name rfl ?_
        walk_at "rds"
        have lz : ∀ {n : Nat}, n ≤ 60 → n ≤ sizeLine := fun h => sz16 (by omega)
        refine ⟨LS ks, rfl, by rw [LS_len]; exact lz (by omega), ?_⟩
        rw [LS_cutl]
        walk_at "rds"
        refine x_I ?_ ?_
        · exact .inl ⟨by decide, by decide⟩
        walk_at "rds"
        refine x_I (by show (0 : Int) < 26; decide) ?_
        walk_at "rds"
        have m0 := Int.emod_nonneg ((t : Int) + 3 * (0 + (i0 : Int))) (show (26 : Int) ≠ 0 by decide)
        have m1 := Int.emod_lt_of_pos ((t : Int) + 3 * (0 + (i0 : Int))) (show (0 : Int) < 26 by decide)
        refine ⟨LET, _, _, rfl, rfl, LETlen, ltr_ix m0 m1, ?_⟩
        refine ⟨_, _, rfl, rfl, ?_, ?_⟩
        · rw [LS_one, LS_len, LS_len, List.length_take, List.length_singleton]
          exact lz (by omega)
        walk_at "rds"
        refine ⟨LS ks, rfl, by rw [LS_len]; exact lz (by omega), ?_⟩
        rw [show ((a : Int) + 1) = ((a + 1 : Nat) : Int) by omega, LS_cutr, LS_one, LS_app]
        walk_at "rds"
        refine ⟨_, _, rfl, rfl, ?_, ?_⟩
        · rw [LS_len, LS_len, List.length_append, List.length_take, List.length_drop, List.length_singleton]
          exact lz (by omega)
        rw [LS_app]
        exact hN _ (Same.refl _)
      have enl2 : H5 nl = some (.lst ([nmK ks a t, nmK ks a ((t + 3) % 26)].map V.str)) := by
        rw [enl]
        have e0 : (((t : Int) + 3 * (0 + ((0 : Nat) : Int))) % 26).toNat = t := by omega
        have e1 : (((t : Int) + 3 * (0 + ((1 : Nat) : Int))) % 26).toNat = (t + 3) % 26 := by omega
        show some (HO.lst [V.str (nmK ks a (((t : Int) + 3 * (0 + ((0 : Nat) : Int))) % 26).toNat), V.str (nmK ks a (((t : Int) + 3 * (0 + ((1 : Nat) : Int))) % 26).toNat)]) = _
        rw [e0, e1]
        rfl
      have ht2 : (t + 3) % 26 < 26 := Nat.mod_lt _ (by decide)
      have bag5 := bag4.same sm5
      have bb5 : ButBag b H H5 := ((bb1.trans bb2).trans (bb3.trans bb4)).trans (ButBag.same sm5)
      have nnb : nl ≠ b := bag4.ne fnl
      have ne1 : nmK ks a t ≠ nmK ks a ((t + 3) % 26) := nmK_ne ht ht2 (by omega)
      have ok0 := nmK_ok (i := t) hak (by omega) ht kok
      have ok1 := nmK_ok (i := (t + 3) % 26) hak (by omega) ht2 kok
      clear enl
      walk_at "rds"
      refine ⟨fun σ' H' => (∃ nl' o2 o3 o4 o5 o6 o7 n0 n1, σ' = [some (.ref b), some (.int 2), o2, o3, o4, o5, o6, o7, some (.ref nl')] ∧ nl' ≠ b ∧ n0 ≠ n1 ∧ NameOk n0 ∧ NameOk n1 ∧ H' nl' = some (.lst ([n0, n1].map V.str))) ∧ BagAt H' b c ∧ ButBag b H H', ?_, ?_⟩
      · walk_at "rds"
        refine ⟨b, c, 3, rfl, bag5, by decide, by decide, fun v4 H6 f0 f1 bag6 bb6 => ?_⟩
        have enl6 := bb6 _ _ enl2 nnb
        walk_at "rds"
        refine k_if (fun hc => ?_) (fun hc => ?_)
        · walk_at "rds"
          refine k_iR (by omega) (by omega) ?_
          refine k_lcP (itx_r 0 (2 : Int).toNat) (fun v => match v with
            | .int k => if k = 0 then some (.str (nmK ks a t)) else some (.str (nmK ks a ((t + 3) % 26) ++ LS [ltr t]))
            | _ => none) (fun _ _ => trivial) (by decide) (fun v H' N' hv k hN => ?_) (fun nl2 H7 fnl2 sm7 enl7 => ?_)
          · obtain ⟨i0, hi0, rfl⟩ := List.mem_map.mp hv
            have hi1 : i0 < 2 := List.mem_range.mp hi0
            refine el_name rfl ?_
            walk_at "rds"
            have enl8 := k _ _ enl6
            rcases (show i0 = 0 ∨ i0 = 1 by omega) with rfl | rfl
            · refine x_ixL (SqL.of enl8) (atI_nat (v := .str (nmK ks a t)) (by decide) rfl) ?_
              walk_at "rds"
              refine ⟨LET, _, _, rfl, rfl, LETlen, ltr_ix d0 d1, ?_⟩
              walk_at "rds"
              refine x_I (by show (0 : Int) < 2; decide) ?_
              refine ⟨_, _, rfl, rfl, .inl (by decide), ?_⟩
              rw [if_pos (by decide)]
              refine ⟨_, _, rfl, rfl, ?_, ?_⟩
              · rw [nmK_len hak]
                exact sz16 (by show ks.length + 0 ≤ 100; omega)
              rw [show nmK ks a t ++ Str.empty = nmK ks a t from (LS_app _ []).trans (by rw [List.append_nil]; rfl)]
              exact hN _ (Same.refl _)
            · refine x_ixL (SqL.of enl8) (atI_nat (v := .str (nmK ks a ((t + 3) % 26))) (by decide) rfl) ?_
              walk_at "rds"
              refine ⟨LET, _, _, rfl, rfl, LETlen, ltr_ix d0 d1, ?_⟩
              walk_at "rds"
              refine x_I (by show (0 : Int) < 2; decide) ?_
              refine ⟨_, _, rfl, rfl, .inr (by decide), ?_⟩
              rw [if_neg (by decide)]
              refine ⟨_, _, rfl, rfl, ?_, ?_⟩
              · rw [nmK_len hak]
                exact sz16 (by show ks.length + 1 ≤ 100; omega)
              exact hN _ (Same.refl _)
          · have e2 : H7 nl2 = some (.lst ([nmK ks a t, nmK ks a ((t + 3) % 26) ++ LS [ltr t]].map V.str)) := by
              rw [enl7]
              rfl
            have nn2 : nl2 ≠ b := bag6.ne fnl2
            walk_at "rds"
            refine ⟨⟨nl2, _, _, _, _, _, _, _, _, rfl, nn2, fun z => ?_, ok0, nmK_snoc hak (by omega) ht2 ht kok, e2⟩, bag6.same sm7, (bb5.trans bb6).trans (ButBag.same sm7)⟩
            have l := congrArg Str.length z
            have e : nmK ks a ((t + 3) % 26) ++ LS [ltr t] = LS ((ks.take a ++ [ltr ((t + 3) % 26)] ++ ks.drop (a + 1)) ++ [ltr t]) := LS_app _ _
            have l2 := nmK_len (i := (t + 3) % 26) hak
            unfold nmK at l2
            rw [LS_len] at l2
            rw [nmK_len hak, e, LS_len, List.length_append, l2, List.length_singleton] at l
            omega
        · walk_at "rds"
          exact ⟨⟨nl, _, _, _, _, _, _, _, _, rfl, nnb, ne1, ok0, ok1, enl6⟩, bag6, bb5.trans bb6⟩
      · rintro σ' H6 ⟨⟨nl', o2, o3, o4, o5, o6, o7, n0, n1, rfl, nb', ne', k0, k1, e'⟩, bag6, bb6⟩
        walk_at "rds"
        exact q nl' n0 n1 H6 ne' k0 k1 e' nb' bag6 bb6
end
end Wh

/-! ## L19 -/
set_option Elab.async false
set_option linter.all false
set_option maxRecDepth 100000
set_option maxHeartbeats 4000000


namespace Wh
open PySem PySem.Spec PyProof.Rows L2
section
variable {P : Program} {wo : World} {K : PySem.W.Frag} {mg : Str → Option Value} {base : Heap}
/-! ### the world's things -/
structure We where
  nm : Str
  wn : Wn
  kin : Int
  fo : Int
  pl : Addr
  a : Addr
def wV (e : We) : List V := [.ref e.pl, .int e.kin, .int e.fo]
def kvsW (es : List We) : List (Key × V) := es.map fun e => (Sum.inr e.nm, V.ref e.a)
structure WeOk (e : We) : Prop where
  w : e.wn.Ok
  k0 : 0 ≤ e.kin
  k2 : e.kin ≤ 2
  f1 : 1 ≤ e.fo
  fc : e.fo ≤ e.wn.cap
  t9 : ∀ p ∈ e.wn.tl, p.2 ≤ 9
  n : NameOk e.nm
structure WtAt (H : Hp) (td : Addr) (es : List We) : Prop where
  d : H td = some (.dK (kvsW es))
  th : ∀ e ∈ es, H e.a = some (.tup (wV e)) ∧ PlanAt H e.pl e.wn ∧ e.wn.Ok ∧ 0 ≤ e.kin ∧ e.kin ≤ 2 ∧ 1 ≤ e.fo ∧ e.fo ≤ e.wn.cap ∧ NameOk e.nm
  nn : (es.map (·.nm)).Nodup
  l2 : es.length ≤ 2
theorem steps_ne {H : Hp} {b c l : Addr} {ps : List (Int × Int)} (bag : BagAt H b c) (h : StepsAt H l ps) : l ≠ b := fun z => by
  obtain ⟨x0, x1, x2, cells, eb, _⟩ := bag
  obtain ⟨as, e, _⟩ := h
  rw [z, eb] at e
  cases as with
  | nil => cases e
  | cons a r => cases e
theorem ints_ne {H : Hp} {b c l : Addr} {xs : List Int} (bag : BagAt H b c) (h : H l = some (.lst (xs.map V.int))) : l ≠ b := fun z => by
  obtain ⟨x0, x1, x2, cells, eb, _⟩ := bag
  rw [z, eb] at h
  have h2 := congrArg (fun y : List V => y[3]?) (HO.lst.inj (Option.some.inj h))
  simp only [List.getElem?_map] at h2
  cases y : xs[3]? with
  | none => rw [y] at h2; cases h2
  | some v => rw [y] at h2; cases h2
theorem dk_ne {H : Hp} {b c l : Addr} {kvs : List (Key × V)} (bag : BagAt H b c) (h : H l = some (.dK kvs)) : l ≠ b := fun z => by
  obtain ⟨x0, x1, x2, cells, eb, _⟩ := bag
  rw [z, eb] at h
  cases h
theorem PlanAt.bag {H H' : Hp} {b c a : Addr} {w : Wn} (h : PlanAt H a w) (bag : BagAt H b c) (k : ButBag b H H') : PlanAt H' a w := by
  obtain ⟨hl, tl, e, s1, s2⟩ := h
  exact ⟨hl, tl, k _ _ e (bag.tup e), s1.bag (steps_ne bag s1) bag k, s2.bag (steps_ne bag s2) bag k⟩
theorem WtAt.bag {H H' : Hp} {b c td : Addr} {es : List We} (h : WtAt H td es) (bag : BagAt H b c) (k : ButBag b H H') : WtAt H' td es :=
  ⟨k _ _ h.d (dk_ne bag h.d), fun e he => ⟨k _ _ (h.th e he).1 (bag.tup (h.th e he).1), (h.th e he).2.1.bag bag k, (h.th e he).2.2⟩, h.nn, h.l2⟩
theorem WtAt.same {H H' : Hp} {td : Addr} {es : List We} (h : WtAt H td es) (k : Same H H') : WtAt H' td es :=
  ⟨k _ _ h.d, fun e he => ⟨k _ _ (h.th e he).1, (h.th e he).2.1.same k, (h.th e he).2.2⟩, h.nn, h.l2⟩
theorem WorldAt.bag {H H' : Hp} {b c w td : Addr} {rooms stirs : List Int} (h : WorldAt H w td rooms stirs) (bag : BagAt H b c) (k : ButBag b H H') : WorldAt H' w td rooms stirs := by
  obtain ⟨rl, sl, e1, e2, e3⟩ := h.ex
  exact ⟨⟨rl, sl, k _ _ e1 (dk_ne bag e1), k _ _ e2 (ints_ne bag e2), k _ _ e3 (ints_ne bag e3)⟩, h.r1, h.r4, h.rp, h.p10, h.pb⟩
theorem merge3 {u v x : V} : mergeK [] ([(.inr "rooms", u), (.inr "stirs", v), (.inr "things", x)] : List (Key × V)) = ([(.inr "rooms", u), (.inr "stirs", v), (.inr "things", x)] : List (Key × V)) := by
  have h1 : ¬ (("rooms" : Str) = "stirs") := by decide +kernel
  have h2 : ¬ (("rooms" : Str) = "things") := by decide +kernel
  have h3 : ¬ (("stirs" : Str) = "things") := by decide +kernel
  show putK (putK (putK ([] : List (Key × V)) (Sum.inr ("rooms" : Str)) u) (Sum.inr ("stirs" : Str)) v) (Sum.inr ("things" : Str)) x = _
  rw [putK_new (kvs := ([] : List (Key × V))) u rfl, putK_new v (by rw [List.nil_append, valV_neg (fun z => h1 (Sum.inr.inj z))]; rfl), putK_new x (by
    rw [List.nil_append, List.singleton_append, valV_neg (fun z => h2 (Sum.inr.inj z)), valV_neg (fun z => h3 (Sum.inr.inj z))]; rfl)]
  rfl
def RoomsOk (rooms : List Int) : Prop := 1 ≤ rooms.length ∧ rooms.length ≤ 4 ∧ ∀ n ∈ rooms, 1 ≤ n ∧ n ≤ 1000000000000
def spWorld : Sp := fun vs H Q _ => ∃ b c, vs = [.ref b, .int 2, .int 7] ∧ BagAt H b c ∧ ∀ w td rooms stirs es H', WorldAt H' w td rooms stirs → WtAt H' td es → (∀ e ∈ es, ∀ p ∈ e.wn.tl, p.2 ≤ 9) → BagAt H' b c → ButBag b H H' → Q (.ref w) H'
theorem ok_law_world (T : Tx K mg) : FnOk P wo K mg base CX0 4 (He.ga K "_law_world") (fdA K (He.ga K "_law_world")) ["_law_bag_here", "_law_many", "_law_bound"] (spWorld) := by
  refine okD (F_law_world T) sc_law_world (fun vs H Q E h => ?_) (fun cdv A outer s H vs Q E hr h => ?_)
  · obtain ⟨b, c, rfl, _⟩ := h
    rfl
  · obtain ⟨b, c, rfl, bag, q⟩ := h
    refine ⟨_, (pss_cons (ps_set (i := 3) sc_law_world.nd rfl (Or.inl rfl) (pe_slice (sl_listK (K := K)) (pe_lst (pa_cons pe_int (pa_cons pe_int (pa_cons pe_int (pa_cons pe_int pa_nil))))) po_none (po_some (pe_op op_add pe_int (pe_call (ok_law_take (P := P) (wo := wo) (K := K) T) (hr.mono (by decide)) rfl (g_law_take T) (F_law_take T).kp (b_law_take T) .nil pass0 (pa_cons (pv 0) (pa_cons pe_int pa_nil)))))))
 (C8.pss_cut (ps_set (i := 4) sc_law_world.nd rfl (Or.inl rfl) (pe_ix (ix_listK (K := K)) (pe_lst (pa_cons (pe_lst (pa_cons pe_int pa_nil)) (pa_cons (pe_lst (pa_cons (pe_op op_add pe_int (pe_call (ok_law_take (P := P) (wo := wo) (K := K) T) (hr.mono (by decide)) rfl (g_law_take T) (F_law_take T).kp (b_law_take T) .nil pass0 (pa_cons (pv 0) (pa_cons pe_int pa_nil)))) pa_nil)) (pa_cons (pe_lst (pa_cons (pe_op op_add pe_int (pe_call (ok_law_take (P := P) (wo := wo) (K := K) T) (hr.mono (by decide)) rfl (g_law_take T) (F_law_take T).kp (b_law_take T) .nil pass0 (pa_cons (pv 0) (pa_cons pe_int pa_nil)))) (pa_cons pe_int pa_nil))) (pa_cons (pv 3) pa_nil))))) (pe_call (ok_law_take (P := P) (wo := wo) (K := K) T) (hr.mono (by decide)) rfl (g_law_take T) (F_law_take T).kp (b_law_take T) .nil pass0 (pa_cons (pv 0) (pa_cons pe_int pa_nil))) (fun _ _ => rfl)))
 (pss_cons (ps_set (i := 5) sc_law_world.nd rfl (Or.inl rfl) (pe_op op_rep (pe_lst (pa_cons pe_int pa_nil)) pe_int))
 (C8.pss_cut (ps_for PassesOwn.never rfl (pi_range1 rfl (z_range T) (pa_cons (pe_op op_mul pe_int (pe_call (ok_law_take (P := P) (wo := wo) (K := K) T) (hr.mono (by decide)) rfl (g_law_take T) (F_law_take T).kp (b_law_take T) .nil pass0 (pa_cons (pv 0) (pa_cons pe_int pa_nil)))) pa_nil)) (pg_name (i := 6) sc_law_world.nd rfl (Or.inl rfl)) (pss_one (ps_asg (pe_op op_sub (pe_call (ok_law_take (P := P) (wo := wo) (K := K) T) (hr.mono (by decide)) rfl (g_law_take T) (F_law_take T).kp (b_law_take T) .nil pass0 (pa_cons (pv 0) (pa_cons pe_int pa_nil))) pe_int) (pg_sub (pv 5) (pv 6) set_list))))
 (pss_cons (ps_set (i := 7) sc_law_world.nd rfl (Or.inl rfl) pe_dnewK)
 (pss_cons (ps_for PassesOwn.never rfl (pi_list (pe_slice (sl_listK (K := K)) (pe_call (ok_law_names (P := P) (wo := wo) (K := K) T) (hr.mono (by decide)) rfl (g_law_names T) (F_law_names T).kp (b_law_names T) .nil pass0 (pa_cons (pv 0) (pa_cons (pv 1) pa_nil))) po_none (po_some (pe_op op_add pe_int (pe_call (ok_law_take (P := P) (wo := wo) (K := K) T) (hr.mono (by decide)) rfl (g_law_take T) (F_law_take T).kp (b_law_take T) .nil pass0 (pa_cons (pv 0) (pa_cons (pv 1) pa_nil))))))) (pg_name (i := 8) sc_law_world.nd rfl (Or.inl rfl)) (pss_cons (ps_set (i := 9) sc_law_world.nd rfl (Or.inl rfl) (pe_call (ok_law_plan (P := P) (wo := wo) (K := K) T) (hr.mono (by decide)) rfl (g_law_plan T) (F_law_plan T).kp (b_law_plan T) .nil pass0 (pa_cons (pv 0) (pa_cons (pv 2) pa_nil))))
 (pss_one (ps_dput (hu_of hr) (pv 7) (pv 8) (pe_tup (pa_cons (pv 9) (pa_cons (pe_call (ok_law_take (P := P) (wo := wo) (K := K) T) (hr.mono (by decide)) rfl (g_law_take T) (F_law_take T).kp (b_law_take T) .nil pass0 (pa_cons (pv 0) (pa_cons pe_int pa_nil))) (pa_cons (pe_op op_add pe_int (pe_call (ok_law_take (P := P) (wo := wo) (K := K) T) (hr.mono (by decide)) rfl (g_law_take T) (F_law_take T).kp (b_law_take T) .nil pass0 (pa_cons (pv 0) (pa_cons (pe_ix (ix_tupK (K := K)) (pv 9) pe_int (fun _ _ => rfl)) pa_nil)))) pa_nil)))) rfl))))
 (pss_one (ps_ret (pe_disp (pps_cons pe_str (pv 4) (pps_cons pe_str (pv 5) (pps_cons pe_str (pv 7) pps_nil))) (by rfl) (by rfl) (fun z => by cases z) (by decide)))))))))), ?_⟩
    try dsimp only [cxK, cxP, cxW]
    walk_at "rds"
    intro n0 fn0
    have smn := same_new (o := .lst [V.int 1, V.int 3, V.int 9, V.int 4]) fn0
    have en0 : (upd H n0 (.lst [V.int 1, V.int 3, V.int 9, V.int 4])) n0 = some (.lst [V.int 1, V.int 3, V.int 9, V.int 4]) := upd_same
    have bag0 := bag.same smn
    have bb0 := ButBag.same (b := b) smn
    generalize upd H n0 (.lst [V.int 1, V.int 3, V.int 9, V.int 4]) = H0 at *
    walk_at "rds"
    refine ⟨b, c, 2, rfl, bag0, by decide, by decide, fun v0 H1 a0 a1 bag1 bb1 => ?_⟩
    have en1 := bb1 _ _ en0 (fun z => by rw [z] at fn0; obtain ⟨x0, x1, x2, cells, eb, _⟩ := bag; rw [fn0] at eb; cases eb)
    walk_at "rds"
    refine ⟨n0, _, rfl, SqL.of en1, fun nl fnl => ?_⟩
    obtain ⟨k, hk, hk34⟩ : ∃ k : Nat, 3 + v0 = (k : Int) ∧ (k = 3 ∨ k = 4) := ⟨(3 + v0).toNat, by omega, by omega⟩
    have enl : (upd H1 nl (.lst (cutV [V.int 1, V.int 3, V.int 9, V.int 4] none (some (3 + v0))))) nl = some (.lst ((([1, 3, 9, 4] : List Int).take k).map V.int)) := by
      rw [upd_same, hk, cut_to, List.map_take]
      rfl
    have rok3 : RoomsOk (([1, 3, 9, 4] : List Int).take k) := by
      rcases hk34 with rfl | rfl
      · exact ⟨by decide, by decide, by decide⟩
      · exact ⟨by decide, by decide, by decide⟩
    have smn2 := same_new (o := .lst (cutV [V.int 1, V.int 3, V.int 9, V.int 4] none (some (3 + v0)))) fnl
    have bag2 := bag1.same smn2
    have bb2 : ButBag b H _ := (bb0.trans bb1).trans (ButBag.same smn2)
    generalize upd H1 nl (.lst (cutV [V.int 1, V.int 3, V.int 9, V.int 4] none (some (3 + v0)))) = H2 at *
    walk_at "rds"
    refine ⟨fun σ' H' => (∃ o3 rl rooms, σ' = [some (.ref b), some (.int 2), some (.int 7), o3, some (.ref rl), none, none, none, none, none] ∧ H' rl = some (.lst (rooms.map V.int)) ∧ RoomsOk rooms) ∧ BagAt H' b c ∧ ButBag b H H', ?_, ?_⟩
    · walk_at "rds"
      intro q0 fq0
      have sm3 := same_new (o := .lst [V.int 40]) fq0
      have eq0 : (upd H2 q0 (.lst [V.int 40])) q0 = some (.lst (([40] : List Int).map V.int)) := upd_same
      have enl3 := sm3 _ _ enl
      have bag3 := bag2.same sm3
      have bb3 := bb2.trans (ButBag.same sm3)
      generalize upd H2 q0 (.lst [V.int 40]) = H3 at *
      walk_at "rds"
      refine ⟨b, c, 12, rfl, bag3, by decide, by decide, fun v1 H4 b0 b1 bag4 bb4 => ?_⟩
      have enl4 := bb4 _ _ enl3 (ints_ne bag3 enl3)
      have eq04 := bb4 _ _ eq0 (ints_ne bag3 eq0)
      walk_at "rds"
      intro q1 fq1
      have sm5 := same_new (o := .lst [V.int (1 + v1)]) fq1
      have eq1 : (upd H4 q1 (.lst [V.int (1 + v1)])) q1 = some (.lst (([1 + v1] : List Int).map V.int)) := upd_same
      have enl5 := sm5 _ _ enl4
      have eq05 := sm5 _ _ eq04
      have bag5 := bag4.same sm5
      have bb5 := (bb3.trans bb4).trans (ButBag.same sm5)
      generalize upd H4 q1 (.lst [V.int (1 + v1)]) = H5 at *
      walk_at "rds"
      refine ⟨b, c, 4, rfl, bag5, by decide, by decide, fun v2 H6 c0 c1 bag6 bb6 => ?_⟩
      have enl6 := bb6 _ _ enl5 (ints_ne bag5 enl5)
      have eq06 := bb6 _ _ eq05 (ints_ne bag5 eq05)
      have eq16 := bb6 _ _ eq1 (ints_ne bag5 eq1)
      walk_at "rds"
      intro q2 fq2
      have sm7 := same_new (o := .lst [V.int (2 + v2), V.int 8]) fq2
      have eq2 : (upd H6 q2 (.lst [V.int (2 + v2), V.int 8])) q2 = some (.lst (([2 + v2, 8] : List Int).map V.int)) := upd_same
      have enl7 := sm7 _ _ enl6
      have eq07 := sm7 _ _ eq06
      have eq17 := sm7 _ _ eq16
      have bag7 := bag6.same sm7
      have bb7 := (bb5.trans bb6).trans (ButBag.same sm7)
      generalize upd H6 q2 (.lst [V.int (2 + v2), V.int 8]) = H7 at *
      walk_at "rds"
      intro q3 fq3
      have sm8 := same_new (o := .lst [V.ref q0, V.ref q1, V.ref q2, V.ref nl]) fq3
      have eq3 : (upd H7 q3 (.lst [V.ref q0, V.ref q1, V.ref q2, V.ref nl])) q3 = some (.lst [V.ref q0, V.ref q1, V.ref q2, V.ref nl]) := upd_same
      have enl8 := sm8 _ _ enl7
      have eq08 := sm8 _ _ eq07
      have eq18 := sm8 _ _ eq17
      have eq28 := sm8 _ _ eq2
      have bag8 := bag7.same sm8
      have nq3 : q3 ≠ b := bag7.ne fq3
      have bb8 := bb7.trans (ButBag.same sm8)
      generalize upd H7 q3 (.lst [V.ref q0, V.ref q1, V.ref q2, V.ref nl]) = H8 at *
      walk_at "rds"
      refine ⟨b, c, 4, rfl, bag8, by decide, by decide, fun v3 H9 d0 d1 bag9 bb9 => ?_⟩
      have enl9 := bb9 _ _ enl8 (ints_ne bag8 enl8)
      have eq09 := bb9 _ _ eq08 (ints_ne bag8 eq08)
      have eq19 := bb9 _ _ eq18 (ints_ne bag8 eq18)
      have eq29 := bb9 _ _ eq28 (ints_ne bag8 eq28)
      obtain ⟨rl, rooms, hat, erl, rok⟩ : ∃ rl rooms, atI [V.ref q0, V.ref q1, V.ref q2, V.ref nl] v3 = some (V.ref rl) ∧ H9 rl = some (.lst (rooms.map V.int)) ∧ RoomsOk rooms := by
        rcases (show v3 = 0 ∨ v3 = 1 ∨ v3 = 2 ∨ v3 = 3 by omega) with rfl | rfl | rfl | rfl
        · exact ⟨q0, _, atI_nat (by decide) rfl, eq09, by decide, by decide, by decide⟩
        · exact ⟨q1, _, atI_nat (by decide) rfl, eq19, by simp, by simp, fun n hn => by rw [List.mem_singleton.mp hn]; omega⟩
        · exact ⟨q2, _, atI_nat (by decide) rfl, eq29, by simp, by simp, fun n hn => by
            simp only [List.mem_cons, List.not_mem_nil, or_false] at hn
            omega⟩
        · exact ⟨nl, _, atI_nat (by decide) rfl, enl9, rok3⟩
      refine x_ixL (SqL.of (bb9 _ _ eq3 nq3)) hat ?_
      walk_at "rds"
      exact ⟨⟨_, rl, rooms, rfl, erl, rok⟩, bag9, bb8.trans bb9⟩
    · rintro σ' H3 ⟨⟨o3, rl, rooms, rfl, erl, rok⟩, bag3, bb3⟩
      clear bb2 bag2 enl smn2 fnl bb1 bag1 en1 en0 bag0 bb0 smn rok3
      walk_at "rds"
      intro g1 fg1
      have sm4 := same_new (o := .lst [V.int 0]) fg1
      have eg1 : (upd H3 g1 (.lst [V.int 0])) g1 = some (.lst [V.int 0]) := upd_same
      have erl4 := sm4 _ _ erl
      have bag4 := bag3.same sm4
      have bb4 := bb3.trans (ButBag.same sm4)
      generalize upd H3 g1 (.lst [V.int 0]) = H4 at *
      walk_at "rds"
      refine ⟨g1, 10, [.int 0], rfl, rfl, eg1, by decide, by decide, sz16 (by simp only [List.length_cons, List.length_nil]; omega), fun pl fpl => ?_⟩
      rw [rep_flat]
      have sm5 := same_new (o := .lst (List.replicate (10 : Int).toNat (V.int 0))) fpl
      have epl : (upd H4 pl (.lst (List.replicate (10 : Int).toNat (V.int 0)))) pl = some (.lst ((List.replicate 10 (0 : Int)).map V.int)) := by rw [upd_same, List.map_replicate]; rfl
      have erl5 := sm5 _ _ erl4
      have bag5 := bag4.same sm5
      have bb5 := bb4.trans (ButBag.same sm5)
      have nplb : pl ≠ b := bag4.ne fpl
      have nplc : pl ≠ c := fun z => by
        obtain ⟨x0, x1, x2, cells, _, ec, _⟩ := bag4
        rw [z, ec] at fpl
        cases fpl
      have nrp : rl ≠ pl := ne_of_none erl4 fpl
      have fplH : H pl = none := by
        cases y : H pl with
        | none => rfl
        | some o =>
          have := bb4 _ _ y nplb
          rw [fpl] at this
          cases this
      generalize upd H4 pl (.lst (List.replicate (10 : Int).toNat (V.int 0))) = H5 at *
      walk_at "rds"
      refine ⟨fun σ' H' => (∃ o3 o6, ∃ ss : List Int, σ' = [some (.ref b), some (.int 2), some (.int 7), o3, some (.ref rl), some (.ref pl), o6, none, none, none] ∧ H' rl = some (.lst (rooms.map V.int)) ∧ H' pl = some (.lst (ss.map V.int)) ∧ ss.length = 10 ∧ ∀ r ∈ ss, -1000000000 ≤ r ∧ r ≤ 1000000000) ∧ BagAt H' b c ∧ ButBag b H H', ?_, ?_⟩
      · walk_at "rds"
        refine ⟨b, c, 2, rfl, bag5, by decide, by decide, fun v4 H6 e0 e1 bag6 bb6 => ?_⟩
        walk_at "rds"
        refine x_I ?_ ?_
        · exact .inl ⟨by decide, by decide⟩
        walk_at "rds"
        refine k_iR (by omega) (by omega) ?_
        refine k_for (itx_r 0 (3 * v4).toNat) (fun i σ' H' => (∃ o3 o6, ∃ ss : List Int, σ' = [some (.ref b), some (.int 2), some (.int 7), o3, some (.ref rl), some (.ref pl), o6, none, none, none] ∧ H' rl = some (.lst (rooms.map V.int)) ∧ H' pl = some (.lst (ss.map V.int)) ∧ ss.length = 10 ∧ ∀ r ∈ ss, -1000000000 ≤ r ∧ r ≤ 1000000000) ∧ BagAt H' b c ∧ ButBag b H H') ?_ (fun _ _ _ _ _ => trivial) (fun i x σ' H7 hx h => ?_) (fun σ' H7 h => h)
        · exact ⟨⟨_, _, _, rfl, bb6 _ _ erl5 (ints_ne bag5 erl5), bb6 _ _ epl nplb, by decide, by decide⟩, bag6, bb5.trans bb6⟩
        · obtain ⟨⟨o3', o6', ss, rfl, erl7, epl7, sl, sb⟩, bag7, bb7⟩ := h
          obtain ⟨hi, rfl⟩ := nth_rng hx
          walk_at "rds"
          refine ⟨b, c, 7, rfl, bag7, by decide, by decide, fun v5 H8 f0 f1 bag8 bb8 => ?_⟩
          have epl8 := bb8 _ _ epl7 nplb
          walk_at "rds"
          refine k_sub2 (j := i) epl8 ?_ ?_
          · unfold ixN
            rw [if_pos (by omega), List.length_map, if_pos (by omega), Int.toNat_natCast]
          refine ⟨⟨_, _, ss.set i (v5 - 3), rfl, (upd_ne nrp).trans (bb8 _ _ erl7 (ints_ne bag7 erl7)), by rw [upd_same, List.map_set], by rw [List.length_set]; exact sl, fun r hr => ?_⟩, bag8.keep fun a o e hab => (upd_ne (fun (y : a = pl) => hab.elim (fun z => nplb (y.symm.trans z)) fun z => nplc (y.symm.trans z))).trans e, fun a o e n => (upd_ne (ne_of_none e fplH)).trans ((bb7.trans bb8) _ _ e n)⟩
          rcases List.mem_or_eq_of_mem_set hr with z | z
          · exact sb r z
          · omega
      · rintro σ' H6 ⟨⟨o3', o6', ss, rfl, erl6, epl6, sl, sb⟩, bag6, bb6⟩
        walk_at "rds"
        intro td ftd
        have sm7 := same_new (o := .dK []) ftd
        have etd7 : (upd H6 td (.dK [])) td = some (.dK []) := upd_same
        have ntb : td ≠ b := bag6.ne ftd
        have ntc : td ≠ c := fun z => by
          obtain ⟨x0, x1, x2, cells, _, ec, _⟩ := bag6
          rw [z, ec] at ftd
          cases ftd
        have ftdH : H td = none := by
          cases y : H td with
          | none => rfl
          | some o =>
            have := bb6 _ _ y ntb
            rw [ftd] at this
            cases this
        have erl7 := sm7 _ _ erl6
        have epl7 := sm7 _ _ epl6
        have bag7 := bag6.same sm7
        have bb7 := bb6.trans (ButBag.same sm7)
        generalize upd H6 td (.dK []) = H7 at *
        walk_at "rds"
        refine ⟨b, c, rfl, bag7, fun na m0 m1 H8 mne mok0 mok1 ena nab bag8 bb8 => ?_⟩
        have etd8 := bb8 _ _ etd7 ntb
        have erl8 := bb8 _ _ erl7 (ints_ne bag7 erl7)
        have epl8 := bb8 _ _ epl7 (ints_ne bag7 epl7)
        walk_at "rds"
        refine ⟨b, c, 2, rfl, bag8, by decide, by decide, fun v6 H9 g0 g1' bag9 bb9 => ?_⟩
        have etd9 := bb9 _ _ etd8 ntb
        have erl9 := bb9 _ _ erl8 (ints_ne bag8 erl8)
        have epl9 := bb9 _ _ epl8 (ints_ne bag8 epl8)
        have ena9 := bb9 _ _ ena nab
        walk_at "rds"
        refine ⟨na, _, rfl, SqL.of ena9, fun ml fml => ?_⟩
        obtain ⟨kk, hkk⟩ : ∃ k : Nat, 1 + v6 = (k : Int) := ⟨(1 + v6).toNat, by omega⟩
        have eml : (upd H9 ml (.lst (cutV ([m0, m1].map V.str) none (some (1 + v6))))) ml = some (.lst (([m0, m1].take kk).map V.str)) := by
          rw [upd_same, hkk, cut_to, List.map_take]
        have smm := same_new (o := .lst (cutV ([m0, m1].map V.str) none (some (1 + v6)))) fml
        have etdA := smm _ _ etd9
        have erlA := smm _ _ erl9
        have eplA := smm _ _ epl9
        have bagA := bag9.same smm
        have nmb : ml ≠ b := bag9.ne fml
        have nmt : ml ≠ td := (ne_of_none etd9 fml).symm
        have bbA := ((bb7.trans bb8).trans bb9).trans (ButBag.same smm)
        generalize upd H9 ml (.lst (cutV ([m0, m1].map V.str) none (some (1 + v6)))) = HA at *
        have nmsnd : ([m0, m1].take kk).Nodup := (List.take_sublist kk [m0, m1]).nodup (by simp [mne])
        have nmsok : ∀ n ∈ [m0, m1].take kk, NameOk n := fun n hn => by
          have := List.mem_of_mem_take hn
          simp only [List.mem_cons, List.not_mem_nil, or_false] at this
          rcases this with rfl | rfl
          · exact mok0
          · exact mok1
        have nmsl : ([m0, m1].take kk).length ≤ 2 := by rw [List.length_take]; simp only [List.length_cons, List.length_nil]; omega
        generalize [m0, m1].take kk = nms at *
        refine k_iL (SqL.of eml) ?_
        refine k_for (itx_l K ml (nms.map V.str)) (fun i σ' H' => (∃ o3 o6 o8 o9, σ' = [some (.ref b), some (.int 2), some (.int 7), o3, some (.ref rl), some (.ref pl), o6, some (.ref td), o8, o9]) ∧ H' rl = some (.lst (rooms.map V.int)) ∧ H' pl = some (.lst (ss.map V.int)) ∧ H' ml = some (.lst (nms.map V.str)) ∧ BagAt H' b c ∧ ButBag b H H' ∧ ∃ es, WtAt H' td es ∧ es.map (·.nm) = nms.take i ∧ ∀ e ∈ es, ∀ p ∈ e.wn.tl, p.2 ≤ 9) ?_ (fun i σ' H' _ h => SqL.of h.2.2.2.1) (fun i x σ' HB hx h => ?_) (fun σ' HB h => ?_)
        · exact ⟨⟨_, _, _, _, rfl⟩, erlA, eplA, eml, bagA, bbA, [], ⟨etdA, (fun e he => nomatch he), .nil, by decide⟩, rfl, (fun e he => nomatch he)⟩
        · obtain ⟨⟨o3'', o6'', o8, o9, rfl⟩, erlB, eplB, emlB, bagB, bbB, es, wt, en, t9⟩ := h
          obtain ⟨nm, hn, rfl, hi⟩ := nth_str hx
          have el2 : es.length = i := by
            have := congrArg List.length en
            rw [List.length_map, List.length_take] at this
            omega
          walk_at "rds"
          refine ⟨b, c, rfl, bagB, fun a wn HC pa wok w7 wt9 bagC bbC => ?_⟩
          have wtC := wt.bag bagB bbC
          have erlC := bbC _ _ erlB (ints_ne bagB erlB)
          have eplC := bbC _ _ eplB (ints_ne bagB eplB)
          have emlC := bbC _ _ emlB nmb
          walk_at "rds"
          refine ⟨b, c, 3, rfl, bagC, by decide, by decide, fun v7 HD h0 h1 bagD bbD => ?_⟩
          have wtD := wtC.bag bagC bbD
          have erlD := bbD _ _ erlC (ints_ne bagC erlC)
          have eplD := bbD _ _ eplC (ints_ne bagC eplC)
          have emlD := bbD _ _ emlC nmb
          have paD := pa.bag bagC bbD
          obtain ⟨phl, ptl, epa, _⟩ := id paD
          have c1 := wok.c1
          walk_at "rds"
          refine x_ixT (SqT.of epa) (atI_nat (v := .int wn.cap) (by decide) rfl) ?_
          walk_at "rds"
          refine ⟨b, c, wn.cap, rfl, bagD, c1, by omega, fun v8 HE i0 i1 bagE bbE => ?_⟩
          have wtE := wtD.bag bagD bbE
          have erlE := bbE _ _ erlD (ints_ne bagD erlD)
          have eplE := bbE _ _ eplD (ints_ne bagD eplD)
          have emlE := bbE _ _ emlD nmb
          have paE := paD.bag bagD bbE
          walk_at "rds"
          intro r fr
          have smr := same_new (o := .tup [.ref a, .int v7, .int (1 + v8)]) fr
          have er : (upd HE r (.tup [.ref a, .int v7, .int (1 + v8)])) r = some (.tup (wV ⟨nm, wn, v7, 1 + v8, a, r⟩)) := upd_same
          have wtF := wtE.same smr
          have paF := paE.same smr
          have erlF := smr _ _ erlE
          have eplF := smr _ _ eplE
          have emlF := smr _ _ emlE
          have bagF := bagE.same smr
          have bbF := (((bbB.trans bbC).trans bbD).trans bbE).trans (ButBag.same smr)
          generalize upd HE r (.tup [.ref a, .int v7, .int (1 + v8)]) = HF at *
          walk_at "rds"
          have l2 := wtF.l2
          refine k_dp3s wtF.d (by unfold kvsW; rw [List.length_map]; exact sz8 (by omega)) ?_
          have hnew : valV (kvsW es) (Sum.inr nm) = none := by
            cases e : valV (kvsW es) (Sum.inr nm) with
            | none => rfl
            | some v =>
              have := valV_in e
              unfold kvsW at this
              rw [List.map_map] at this
              obtain ⟨m, hm, em⟩ := List.mem_map.mp this
              have h2 : m.nm ∈ es.map (·.nm) := List.mem_map.mpr ⟨m, hm, rfl⟩
              rw [en, Sum.inr.inj em] at h2
              exact absurd h2 (not_take nmsnd hn)
          rw [putK_new _ hnew]
          have ntl : ∀ {q xs}, HF q = some (.lst xs) → q ≠ td := fun {q xs} e z => by rw [z, wtF.d] at e; cases e
          refine ⟨⟨_, _, _, _, rfl⟩, (upd_ne (ntl erlF)).trans erlF, (upd_ne (ntl eplF)).trans eplF, (upd_ne (ntl emlF)).trans emlF, bagF.keep fun a o e hab => (upd_ne (fun (y : a = td) => hab.elim (fun z => ntb (y.symm.trans z)) fun z => ntc (y.symm.trans z))).trans e, fun a o e n => (upd_ne (ne_of_none e ftdH)).trans (bbF _ _ e n), es ++ [⟨nm, wn, v7, 1 + v8, a, r⟩], ⟨?_, fun e he => ?_, ?_, by rw [List.length_append, List.length_singleton]; omega⟩, ?_, fun e he => ?_⟩
          · rw [upd_same]
            unfold kvsW
            rw [List.map_append]
            rfl
          · rcases List.mem_append.mp he with z | z
            · obtain ⟨z1, z2, z3⟩ := wtF.th e z
              exact ⟨tup_put wtF.d z1, z2.put wtF.d, z3⟩
            · obtain rfl := List.mem_singleton.mp z
              exact ⟨tup_put wtF.d er, paF.put wtF.d, wok, h0, by show v7 ≤ 2; omega, by show 1 ≤ 1 + v8; omega, by show 1 + v8 ≤ wn.cap; omega, nmsok nm (List.mem_of_getElem? hn)⟩
          · rw [List.map_append]
            refine List.nodup_append.mpr ⟨wtF.nn, by simp, fun a ha c hc z => ?_⟩
            obtain rfl : c = nm := by simpa using hc
            rw [z, en] at ha
            exact not_take nmsnd hn ha
          · rw [List.map_append, en, List.take_add_one, hn]
            rfl
          · rcases List.mem_append.mp he with z | z
            · exact t9 e z
            · rw [List.mem_singleton.mp z]
              exact wt9
        · obtain ⟨⟨o3'', o6'', o8, o9, rfl⟩, erlB, eplB, emlB, bagB, bbB, es, wt, en, t9⟩ := h
          walk_at "rds"
          intro w fw
          have smw := same_new (o := .dK [(.inr "rooms", .ref rl), (.inr "stirs", .ref pl), (.inr "things", .ref td)]) fw
          refine ⟨_, rfl, _, rfl, _, rfl, upd_same, [(.inr "rooms", .ref rl), (.inr "stirs", .ref pl), (.inr "things", .ref td)], rfl, by simp, ?_⟩
          rw [merge3, upd2]
          exact q w td rooms ss es _ ⟨⟨rl, pl, upd_same, smw _ _ erlB, smw _ _ eplB⟩, rok.1, rok.2.1, rok.2.2, sl, sb⟩ (wt.same smw) t9 (bagB.same smw) (bbB.trans (ButBag.same smw))
end
end Wh

/-! ## L20 -/
set_option Elab.async false
set_option linter.all false
set_option maxRecDepth 100000
set_option maxHeartbeats 4000000


namespace Wh
open PySem PySem.Spec PyProof.Rows L2
section
variable {P : Program} {wo : World} {K : PySem.W.Frag} {mg : Str → Option Value} {base : Heap}
theorem WaneAt.there {G : Addr → Prop} {H : Hp} {a : Addr} {w : Wn} (h : WaneAt K G H a w) : WaneAt K (fun c => G c ∧ H c ≠ none) H a w := by
  obtain ⟨dx, hl, tl, g1, g2, g3, e, s1, s2⟩ := h.ex
  obtain ⟨as, e1, _⟩ := id s1
  obtain ⟨bs, e2, _⟩ := id s2
  exact ⟨dx, hl, tl, ⟨g1, by rw [e]; simp⟩, ⟨g2, by rw [e1]; simp⟩, ⟨g3, by rw [e2]; simp⟩, e, s1, s2⟩
/-- one address is left out of what stays -/
theorem StO.cut {G : Addr → Prop} {H : Hp} {p x : Addr} {S : Sc} {N : Nat} (h : StO K G H p S N) (n1 : ∀ xs : List Int, H x = some (.lst (xs.map V.int)) → False) (n2 : ∀ as : List Addr, H x = some (.lst (as.map V.ref)) → False) (n3 : ∀ C dx fs, H x = some (.ins C dx fs) → False) : StO K (fun a => G a ∧ a ≠ x) H p S N := by
  have sc := h.sc
  refine ⟨h.ins, fun g => h.g g.1, h.o, ⟨fun a g => sc.dm a g.1, sc.ins, fun g => sc.gq g.1, fun g => sc.gbo g.1, fun g => sc.gma g.1, fun g => sc.gda g.1, fun g => sc.gta g.1, ⟨sc.gho, fun z => n1 _ (z ▸ sc.ho)⟩, ⟨sc.gpr, fun z => n1 _ (z ▸ sc.pr)⟩, sc.ho, sc.pr, sc.bo, sc.ma, sc.da, sc.dd, sc.ta, fun b hb => ?_, sc.n1, sc.n2, sc.ok⟩⟩
  obtain ⟨ex, g, w, ok⟩ := sc.bd b hb
  refine ⟨ex, fun g' => g g'.1, ?_, ok⟩
  obtain ⟨dx, hl, tl, g1, g2, g3, e, s1, s2⟩ := w.ex
  obtain ⟨as, e1, _⟩ := id s1
  obtain ⟨bs, e2, _⟩ := id s2
  exact ⟨dx, hl, tl, ⟨g1, fun z => n3 _ _ _ (z ▸ e)⟩, ⟨g2, fun z => n2 _ (z ▸ e1)⟩, ⟨g3, fun z => n2 _ (z ▸ e2)⟩, e, s1, s2⟩
theorem StO.but {G : Addr → Prop} {H H' : Hp} {p x : Addr} {S : Sc} {N : Nat} {o : HO} (h : StO K G H p S N) (hx : H x = some o) (nt : NoTup o) (k : ∀ a u, H a = some u → a ≠ x → H' a = some u) (g : ¬ G x) (no : ¬ own S x) (np : p ≠ x) : StO K G H' p S N := by
  obtain ⟨dx, e⟩ := h.ins
  refine ⟨⟨dx, k _ _ e np⟩, h.g, h.o, h.sc.frame ⟨fun a u ga e => k a u e (fun z => g (z ▸ ga)), fun a xs e => k a _ e (fun z => by rw [z, hx] at e; cases e; exact nt)⟩ fun a oa => ?_⟩
  cases y : H a with
  | none => exact absurd y (h.sc.there oa)
  | some u => exact k a u y (fun z => no (z ▸ oa))
theorem WorldAt.ntd {H : Hp} {w td : Addr} {rooms stirs : List Int} {es : List We} (h : WorldAt H w td rooms stirs) (k : WtAt H td es) : w ≠ td := fun z => by
  obtain ⟨rl, sl, e, _⟩ := h.ex
  have e2 := k.d
  rw [← z, e] at e2
  have l := congrArg List.length (HO.dK.inj (Option.some.inj e2))
  unfold kvsW at l
  rw [List.length_map] at l
  simp only [List.length_cons, List.length_nil] at l
  have := k.l2
  omega
/-- what is fixed of each name -/
def DW (es : List We) : Sta := fun n => match es.find? fun e => decide (e.nm = n) with
  | some e => (e.wn, e.kin)
  | none => (⟨[], [], 1, 0, false⟩, 0)
theorem find_we {es : List We} (nn : (es.map (·.nm)).Nodup) {e : We} (he : e ∈ es) : (es.find? fun x => decide (x.nm = e.nm)) = some e := by
  induction es with
  | nil => cases he
  | cons x r ih =>
    have nd := List.nodup_cons.mp nn
    rw [List.find?_cons]
    rcases List.mem_cons.mp he with z | z
    · rw [z, decide_eq_true rfl]
    · rw [decide_eq_false (fun y => nd.1 (List.mem_map.mpr ⟨e, z, y.symm⟩))]
      exact ih nd.2 z
theorem DW_at {es : List We} (nn : (es.map (·.nm)).Nodup) {e : We} (he : e ∈ es) : DW es e.nm = (e.wn, e.kin) := by
  unfold DW
  rw [find_we nn he]
theorem valV_kvsW {es : List We} (nn : (es.map (·.nm)).Nodup) {e : We} (he : e ∈ es) : valV (kvsW es) (Sum.inr e.nm) = some (.ref e.a) := by
  induction es with
  | nil => cases he
  | cons x r ih =>
    have nd := List.nodup_cons.mp nn
    unfold kvsW at ih ⊢
    rw [List.map_cons]
    rcases List.mem_cons.mp he with z | z
    · rw [z, valV_pos rfl]
    · rw [valV_neg (fun y => nd.1 (List.mem_map.mpr ⟨e, z, (Sum.inr.inj y).symm⟩))]
      exact ih nd.2 z
theorem keys_kvsW (es : List We) : ((kvsW es).map fun kv => kV kv.1) = (es.map (·.nm)).map V.str := by
  unfold kvsW
  rw [List.map_map, List.map_map]
  rfl
def spLStore (K : PySem.W.Frag) : Sp := fun vs H Q _ => ∃ w td rooms stirs es, vs = [.ref w] ∧ WorldAt H w td rooms stirs ∧ WtAt H td es ∧ ∀ p S H', Same H H' → StO K (fun a => H' a ≠ none ∧ ¬ own S a ∧ a ≠ p) H' p S 12 → (∀ a, own S a → H a = none) → H p = none → S.ds = [] → S.mo = 0 → S.hold = rooms → S.pres = stirs →
  S.bl.length ≤ 2 → Rp (DW es) (S.bl.map (·.t)) → (∀ t ∈ S.bl.map (·.t), t.nm ∈ es.map (·.nm)) → Q (.ref p) H'
theorem ok_law_store (T : Tx K mg) : FnOk P wo K mg base CX0 10 (He.ga K "_law_store") (fdA K (He.ga K "_law_store")) ["_law_world_here"] (spLStore K) := by
  refine okD (F_law_store T) sc_law_store (fun vs H Q E h => ?_) (fun cdv A outer s H vs Q E hr h => ?_)
  · obtain ⟨w, td, rooms, stirs, es, rfl, _⟩ := h
    rfl
  · obtain ⟨w, td, rooms, stirs, es, rfl, wo_, wt, q⟩ := h
    obtain ⟨mv, kb⟩ := kb_Store T
    refine ⟨_, (pss_cons (ps_set (i := 1) sc_law_store.nd rfl (Or.inl rfl) (pe_makeK (k_Store (K := K) T) (ok_Store_init (P := P) (wo := wo) (K := K) T) (hr.mono (by decide)) rfl (g_Store (K := K) T) (kb) pass0 (pa_cons (pe_callTy call_list_of (by rfl) (z_list T) (by decide +kernel) (pa_cons (pe_dget (hu_of hr) (pv 0) pe_str (fun _ _ => rfl)) pa_nil)) pa_nil) (pk_cons (pe_callTy call_list_of (by rfl) (z_list T) (by decide +kernel) (pa_cons (pe_dget (hu_of hr) (pv 0) pe_str (fun _ _ => rfl)) pa_nil)) pk_nil)))
 (pss_cons (ps_lock (ps_for PassesOwn.never rfl (pi_keys (pe_dget (hu_of hr) (pv 0) pe_str (fun _ _ => rfl))) (pg_name (i := 2) sc_law_store.nd rfl (Or.inl rfl)) (pss_cons (ps_asg (pe_dget (hu_of hr) (pe_dget (hu_of hr) (pv 0) pe_str (fun _ _ => rfl)) (pv 2) (fun _ _ => rfl)) (pg_tupK (K := K) (n := 3) rfl (pgs_cons (pg_name (i := 3) sc_law_store.nd rfl (Or.inl rfl)) (pgs_cons (pg_name (i := 4) sc_law_store.nd rfl (Or.inl rfl)) (pgs_cons (pg_name (i := 5) sc_law_store.nd rfl (Or.inl rfl)) pgs_nil)))))
 (pss_one (ps_expr (pe_meth (pv 1) (c_Store (K := K) T) (m_Store_put (K := K) T) (ok_Store_put (P := P) (wo := wo) (K := K) T) (hr.mono (by decide)) (b_Store_put T) .nil pass0 (pa_cons (pv 2) (pa_cons (pv 4) (pa_cons (pe_call (ok_law_made (P := P) (wo := wo) (K := K) T) (hr.mono (by decide)) rfl (g_law_made T) (F_law_made T).kp (b_law_made T) .nil pass0 (pa_cons (pv 3) pa_nil)) (pa_cons (pv 5) pa_nil))))))))))
 (pss_one (ps_ret (pv 1))))), ?_⟩
    try dsimp only [cxK, cxP, cxW]
    obtain ⟨rl, sl, ew, erl, esl⟩ := wo_.ex
    walk_at "rds"
    refine k_dg2s (.inl ew) rfl ?_
    walk_at "rds"
    refine ⟨rl, _, rfl, .inl (SqL.of erl), fun l1 f1 => ?_⟩
    have sm1 := same_new (o := .lst (rooms.map V.int)) f1
    have el1 : (upd H l1 (.lst (rooms.map V.int))) l1 = some (.lst (rooms.map V.int)) := upd_same
    have ew1 := sm1 _ _ ew
    have esl1 := sm1 _ _ esl
    generalize upd H l1 (.lst (rooms.map V.int)) = H1 at *
    walk_at "rds"
    refine k_dg2s (.inl ew1) rfl ?_
    walk_at "rds"
    refine ⟨sl, _, rfl, .inl (SqL.of esl1), fun l2 f2 => ?_⟩
    have sm2 := sm1.trans (same_new (o := .lst (stirs.map V.int)) f2)
    have el2 : (upd H1 l2 (.lst (stirs.map V.int))) l2 = some (.lst (stirs.map V.int)) := upd_same
    have el12 := (same_new (o := .lst (stirs.map V.int)) f2) _ _ el1
    generalize upd H1 l2 (.lst (stirs.map V.int)) = H2 at *
    walk_at "rds"
    refine k_mkK2 rfl rfl fun x dx g1 g2 g3 => ?_
    have sm3 : Same H2 (upd (upd H2 dx (.own x)) x (.ins (He.ga K "Store") dx [])) := fun b o hb => by
      rw [upd_ne (ne_of_none hb g1), upd_ne (ne_of_none hb g2)]
      exact hb
    refine ⟨x, dx, l1, rooms, stirs, .ref l2, rfl, upd_same, sm3 _ _ el12, wo_.r1, wo_.r4, wo_.rp, .inr ⟨l2, rfl, sm3 _ _ el2, wo_.p10, wo_.pb⟩, fun S H4 k4 ex4 sc4 fr4 mo4 ho4 pr4 ds4 bl4 => ⟨rfl, ?_⟩⟩
    have sm4 : Same H H4 := fun b o e => k4 _ _ (sm3 _ _ (sm2 _ _ e)) (ne_of_none (sm2 _ _ e) g1)
    have fr4' : ∀ a, own S a → H a = none := fun a o => Same.free (sm2.trans sm3) (fr4 a o)
    have fx : H x = none := Same.free sm2 g1
    have nox : ¬ own S x := fun o => by
      have := fr4 x o
      rw [upd_same] at this
      cases this
    have st4 : StO K (fun a => H4 a ≠ none ∧ ¬ own S a ∧ a ≠ x) H4 x S 0 := ⟨⟨dx, ex4⟩, fun g => g.2.2 rfl, nox, sc4⟩
    clear k4 ex4 sc4 fr4 sm3 el12 el2 el1 ew1 esl1 sm2 sm1
    walk_at "rds"
    have wt4 := wt.same sm4
    have etd4 := wt4.d
    refine r_lock (d := td) etd4 trivial fun od => ?_
    have ew4 := sm4 _ _ ew
    have nwt := wo_.ntd wt
    walk_at "rds"
    refine k_dg2s (.inl ((upd_ne nwt).trans ew4)) rfl ?_
    refine k_iK (d := td) (o := od) (kvs := kvsW es) upd_same ?_
    have tdH : H td ≠ none := by rw [wt.d]; simp
    have ntx : td ≠ x := fun z => tdH (z ▸ fx)
    have stf : StO K (fun a => (upd H4 td (.frz od (.dK (kvsW es)))) a ≠ none ∧ ¬ own S a ∧ a ≠ x) (upd H4 td (.frz od (.dK (kvsW es)))) x S 0 := by
      have c := st4.cut (x := td) (fun xs z => by rw [etd4] at z; cases z) (fun as z => by rw [etd4] at z; cases z) (fun C dx fs z => by rw [etd4] at z; cases z)
      exact (c.but etd4 trivial (fun a u e n => (upd_ne n).trans e) (fun g => g.2 rfl) (fun o => tdH (fr4' _ o)) ntx.symm).all
    refine k_for (itx_k td od (kvsW es)) (fun i σ' H' => (∃ o2 o3 o4 o5, σ' = [some (.ref w), some (.ref x), o2, o3, o4, o5]) ∧ (∀ b o, H b = some o → b ≠ td → H' b = some o) ∧ H' td = some (.frz od (.dK (kvsW es))) ∧
      ∃ S, StO K (fun a => H' a ≠ none ∧ ¬ own S a ∧ a ≠ x) H' x S (6 * i) ∧ (∀ a, own S a → H a = none) ∧ S.ds = [] ∧ S.mo = 0 ∧ S.hold = rooms ∧ S.pres = stirs ∧ S.bl.length ≤ i ∧ Rp (DW es) (S.bl.map (·.t)) ∧ ∀ t ∈ S.bl.map (·.t), t.nm ∈ (es.take i).map (·.nm)) ?_ (fun i σ' H' _ h => h.2.2.1) (fun i v σ' H5 hx h => ?_) (fun σ' H5 h => ?_)
    · refine ⟨⟨_, _, _, _, rfl⟩, fun b o e n => (upd_ne n).trans (sm4 _ _ e), upd_same, S, stf, fr4', ds4, mo4, ho4, pr4, by rw [bl4]; exact Nat.le_refl _, ?_, ?_⟩
      · rw [bl4]
        exact ⟨⟨.nil, (fun t ht => nomatch ht)⟩, (fun t ht => nomatch ht)⟩
      · rw [bl4]
        exact fun t ht => nomatch ht
    · obtain ⟨⟨o2, o3, o4, o5, rfl⟩, k5, etd5, S5, st5, fr5, ds5, mo5, ho5, pr5, bl5, rp5, nm5⟩ := h
      rw [keys_kvsW] at hx
      obtain ⟨nm, hn, rfl, hi⟩ := nth_str hx
      rw [List.length_map] at hi
      have hei : es[i]? = some es[i] := List.getElem?_eq_getElem hi
      rw [List.getElem?_map, hei] at hn
      obtain rfl := Option.some.inj hn
      have heM := List.getElem_mem hi
      generalize es[i] = e at *
      obtain ⟨eea, epl, wok, k0, k2, f1', fc, nok⟩ := wt.th e heM
      have tpk : ∀ {a xs}, H a = some (.tup xs) → H5 a = some (.tup xs) := fun {a xs} z => k5 _ _ z (fun y => by rw [y, wt.d] at z; cases z)
      have eea5 := tpk eea
      have pl5 : PlanAt H5 e.pl e.wn := epl.keepd wt.d k5
      unfold wV at eea5
      have ew5 := k5 _ _ ew nwt
      obtain ⟨sdx, es5⟩ := st5.ins
      have es_l2 := wt.l2
      walk_at "rds"
      refine k_dg2s (.inl ew5) rfl ?_
      walk_at "rds"
      refine k_dg2s (v := .ref e.a) (.inr ⟨od, etd5⟩) (valV_kvsW wt.nn heM) ?_
      walk_at "rds"
      refine ⟨e.pl, e.wn, rfl, pl5, wok, fun wx H6 sm6 wa6 => ?_⟩
      walk_at "rds"
      have st6 := (st5.same sm6).all
      have nnew : e.nm ∉ S5.bl.map (·.t.nm) := fun z => by
        obtain ⟨b, hb, eb⟩ := List.mem_map.mp z
        have := nm5 b.t (List.mem_map.mpr ⟨b, hb, rfl⟩)
        rw [eb] at this
        have ynd := wt.nn
        have hni : (es.map (·.nm))[i]? = some e.nm := by rw [List.getElem?_map, hei]; rfl
        rw [List.map_take] at this
        exact not_take ynd hni this
      have hwa : WaneAt K (fun a => H6 a ≠ none ∧ ¬ own S5 a ∧ a ≠ x) H6 wx e.wn := wa6.there.mono fun c g => ⟨g.2, fun o => st5.sc.there o g.1, fun z => by rw [z, es5] at g; cases g.1⟩
      have tok : (⟨e.nm, e.wn, e.kin, 0, e.fo, 0⟩ : Wh.T).Ok := ⟨wok, k0, by show e.kin ≤ 9; omega, Int.le_refl 0, f1', fc, Int.le_refl 0⟩
      refine ⟨_, x, S5, 6 * i, wx, ⟨e.nm, e.wn, e.kin, 0, e.fo, 0⟩, rfl, st6, by omega, by rw [mo5]; decide, hwa, tok, rfl, rfl, by omega, nnew, nok, fun S7 H7 kp7 st7 mo7 ho7 pr7 ds7 bl7 => ?_⟩
      have k6 : ∀ b o, H b = some o → b ≠ td → H6 b = some o := fun b o z n => sm6 _ _ (k5 _ _ z n)
      have hall6 : ∀ b, H b ≠ none → H6 b ≠ none := fun b hb => by
        by_cases y : b = td
        · rw [y, sm6 _ _ etd5]; simp
        · cases z : H b with
          | none => exact absurd z hb
          | some o => rw [k6 _ _ z y]; simp
      have hG : ∀ b, H b ≠ none → (H6 b ≠ none ∧ ¬ own S5 b ∧ b ≠ x) := fun b hb => ⟨hall6 b hb, fun o => hb (fr5 b o), fun z => hb (z ▸ fx)⟩
      have fr7 : ∀ a, own S7 a → H a = none := fun a o => by
        cases z : H a with
        | none => rfl
        | some u => exact absurd (hG a (by rw [z]; simp)) (st7.sc.notG o)
      rw [ho5] at bl7
      walk_at "rds"
      have hrp : Rp (DW es) (S5.bl.map (·.t) ++ [(⟨e.nm, e.wn, e.kin, 0, e.fo, 0⟩ : Wh.T)]) := by
        refine ⟨⟨?_, fun t ht => ?_⟩, fun t ht => ?_⟩
        · unfold Nd
          rw [List.map_append]
          refine List.nodup_append.mpr ⟨rp5.1.1, by simp, fun a ha c hc z => ?_⟩
          obtain rfl : c = e.nm := by simpa using hc
          rw [List.map_map] at ha
          exact nnew (z ▸ ha)
        · rcases List.mem_append.mp ht with z | z
          · exact rp5.1.2 t z
          · rw [List.mem_singleton.mp z]; exact tok
        · rcases List.mem_append.mp ht with z | z
          · exact rp5.2 t z
          · rw [List.mem_singleton.mp z]
            exact (DW_at wt.nn heM).symm
      have hsub := crowdFrom_sub (rooms := rooms) rooms.length 0 (S5.bl.map (·.t) ++ [(⟨e.nm, e.wn, e.kin, 0, e.fo, 0⟩ : Wh.T)])
      refine ⟨⟨_, _, _, _, rfl⟩, fun b o z n => kp7.g _ _ (hG b (by rw [z]; simp)) (k6 _ _ z n), kp7.g _ _ (hG td tdH) (sm6 _ _ etd5), S7, st7.all, fr7, ds7.trans ds5, mo7.trans mo5, ho7.trans ho5, pr7.trans pr5, ?_, ?_, fun t ht => ?_⟩
      · have l := hsub.length_le
        have l2 := congrArg List.length bl7
        rw [List.length_map] at l2
        rw [List.length_map, List.length_map, List.length_append, List.length_map, List.length_singleton] at l
        unfold crowdL at l2
        omega
      · rw [bl7]
        exact ⟨crowd_okL hrp.1, crowdFrom_sta _ _ hrp.2⟩
      · rw [bl7] at ht
        have := hsub.subset (List.mem_map.mpr ⟨t, ht, rfl⟩)
        rw [List.map_append] at this
        rw [List.take_add_one, hei, List.map_append]
        rcases List.mem_append.mp this with z | z
        · obtain ⟨u, hu, eu⟩ := List.mem_map.mp z
          rw [← eu]
          exact List.mem_append.mpr (.inl (nm5 u hu))
        · exact List.mem_append.mpr (.inr z)
    · obtain ⟨⟨o2, o3, o4, o5, rfl⟩, k5, etd5, S5, st5, fr5, ds5, mo5, ho5, pr5, bl5, rp5, nm5⟩ := h
      refine ⟨etd5, ?_⟩
      have hl : ((kvsW es).map fun kv => kV kv.1).length = es.length := by
        unfold kvsW
        rw [List.length_map, List.length_map]
      rw [hl] at st5 bl5 nm5
      rw [List.take_length] at nm5
      have l2 := wt.l2
      have stg : StO K (fun a => (upd H5 td (.dK (kvsW es))) a ≠ none ∧ ¬ own S5 a ∧ a ≠ x) (upd H5 td (.dK (kvsW es))) x S5 12 := by
        have c := st5.cut (x := td) (fun xs z => by rw [etd5] at z; cases z) (fun as z => by rw [etd5] at z; cases z) (fun C dx fs z => by rw [etd5] at z; cases z)
        have d := (c.but (H' := upd H5 td (.dK (kvsW es))) etd5 trivial (fun a u e n => (upd_ne n).trans e) (fun g => g.2 rfl) (fun o => tdH (fr5 _ o)) ntx.symm).all
        exact ⟨d.ins, d.g, d.o, d.sc.le (by omega)⟩
      walk_at "rds"
      refine q x S5 _ (fun b o e => ?_) stg fr5 fx ds5 mo5 ho5 pr5 (by omega) rp5 nm5
      by_cases y : b = td
      · subst y
        rw [upd_same, ← wt.d]
        exact e
      · exact (upd_ne y).trans (k5 _ _ e y)
end
end Wh

/-! ## L21 -/
set_option Elab.async false
set_option linter.all false
set_option maxRecDepth 100000
set_option maxHeartbeats 4000000


namespace Wh
open PySem PySem.Spec PyProof.Rows L2
section
variable {P : Program} {wo : World} {K : PySem.W.Frag} {mg : Str → Option Value} {base : Heap}
def spLSeen (K : PySem.W.Frag) : Sp := fun vs H Q _ => ∃ w td rooms stirs es G p S N, vs = [.ref w, .ref p] ∧ WorldAt H w td rooms stirs ∧ WtAt H td es ∧ StO K G H p S N ∧ Rp (DW es) (S.bl.map (·.t)) ∧ (∀ t ∈ S.bl.map (·.t), t.nm ∈ es.map (·.nm)) ∧
  ∀ d ts H', Same H H' → ThAt H' d ts → (ts.map (·.t)).Perm (S.bl.map (·.t)) → Q (.ref d) H'
theorem ok_law_seen (T : Tx K mg) : FnOk P wo K mg base CX0 4 (He.ga K "_law_seen") (fdA K (He.ga K "_law_seen")) ["_law_world_here", "_law_store_here"] (spLSeen K) := by
  refine okD (F_law_seen T) sc_law_seen (fun vs H Q E h => ?_) (fun cdv A outer s H vs Q E hr h => ?_)
  · obtain ⟨w, td, rooms, stirs, es, G, p, S, N, rfl, _⟩ := h
    rfl
  · obtain ⟨w, td, rooms, stirs, es, G, p, S, N, rfl, wo_, wt, st, rp, nme, q⟩ := h
    refine ⟨_, (pss_cons (ps_set (i := 2) sc_law_seen.nd rfl (Or.inl rfl) pe_dnewK)
 (pss_cons (ps_for PassesOwn.never rfl (pi_list (pe_meth0 (pv 1) (c_Store (K := K) T) (m_Store_there (K := K) T) (ok_Store_there (P := P) (wo := wo) (K := K) T) (hr.mono (by decide)) (b_Store_there T) .nil pass0)) (pg_name (i := 3) sc_law_seen.nd rfl (Or.inl rfl)) (pss_one (ps_dput (hu_of hr) (pv 2) (pv 3) (pe_op (op_catAK (K := K)) (pe_tup (pa_cons (pe_ix (ix_tupK (K := K)) (pe_dget (hu_of hr) (pe_dget (hu_of hr) (pv 0) pe_str (fun _ _ => rfl)) (pv 3) (fun _ _ => rfl)) pe_int (fun _ _ => rfl)) pa_nil)) (pe_slice (sl_tupAK (K := K)) (pe_meth (pv 1) (c_Store (K := K) T) (m_Store_thing (K := K) T) (ok_Store_thing (P := P) (wo := wo) (K := K) T) (hr.mono (by decide)) (b_Store_thing T) .nil pass0 (pa_cons (pv 3) pa_nil)) po_none (po_some pe_int))) rfl)))
 (pss_one (ps_ret (pv 2))))), ?_⟩
    try dsimp only [cxK, cxP, cxW]
    walk_at "rds"
    intro d fd
    have sm1 := same_new (o := .dK []) fd
    have st1 := st.same sm1
    have ed1 : (upd H d (.dK [])) d = some (.dK []) := upd_same
    generalize upd H d (.dK []) = H1 at *
    obtain ⟨sdx, es1⟩ := st1.ins
    walk_at "rds"
    refine ⟨G, p, S, N, rfl, st1, fun l H2 fl sm2 el => ?_⟩
    have sm02 := sm1.trans sm2
    have ed2 := sm2 _ _ ed1
    have nld : l ≠ d := (ne_of_none ed1 fl).symm
    have sl8 := st.sc.ok.l8
    have ylen : (sortS (S.bl.map (·.t.nm))).length = S.bl.length := by rw [sortS_length, List.length_map]
    have ynd := sortS_nodup st.sc.ok.nn
    refine k_iL (SqL.of el) ?_
    refine k_for (itx_l K l ((sortS (S.bl.map (·.t.nm))).map V.str)) (fun i σ' H' => (∃ o3, σ' = [some (.ref w), some (.ref p), some (.ref d), o3]) ∧ (∀ b o, H2 b = some o → b ≠ d → H' b = some o) ∧
      ∃ ts1, ThAt H' d ts1 ∧ ts1.length ≤ i ∧ ts1.map (·.t) = ((sortS (S.bl.map (·.t.nm))).take i).filterMap fun n => Wh.look (S.bl.map (·.t)) n) ?_ (fun i σ' H' _ h => SqL.of (h.2.1 _ _ el nld)) (fun i x σ' H3 hx h => ?_) (fun σ' H3 h => ?_)
    · exact ⟨⟨_, rfl⟩, fun _ _ e _ => e, [], ⟨ed2, (fun x hx => nomatch hx), .nil⟩, Nat.le_refl _, rfl⟩
    · obtain ⟨⟨o3, rfl⟩, k3, ts1, th3, le3, et3⟩ := h
      obtain ⟨nm, hn, rfl, hi⟩ := nth_str hx
      obtain ⟨b, hb, rfl⟩ := List.mem_map.mp (sortS_mem.mp (List.mem_of_getElem? hn))
      have sm3 : Same H H3 := fun a o e => k3 _ _ (sm02 _ _ e) (ne_of_none e fd)
      have hbt : b.t ∈ S.bl.map (·.t) := List.mem_map.mpr ⟨b, hb, rfl⟩
      obtain ⟨e, he, een⟩ := List.mem_map.mp (nme b.t hbt)
      have hwn : e.wn = b.t.wn := by
        have h1 := rp.2 b.t hbt
        rw [← een, DW_at wt.nn he] at h1
        exact (congrArg Prod.fst h1).symm
      have wt3 := wt.same sm3
      obtain ⟨eea, epl, wok, k0, k2, f1', fc, nok⟩ := wt3.th e he
      unfold wV at eea
      have wo3 := wo_.same sm3
      obtain ⟨rl, sl, ew, erl, esl⟩ := wo3.ex
      have st3 := st.same sm3
      obtain ⟨sdx3, es3⟩ := st3.ins
      walk_at "rds"
      refine k_dg2s (.inl ew) rfl ?_
      walk_at "rds"
      refine k_dg2s (v := .ref e.a) (.inl wt3.d) (by rw [← een]; exact valV_kvsW wt.nn he) ?_
      walk_at "rds"
      refine x_ixT (SqT.of eea) (atI_nat (v := .ref e.pl) (by decide) rfl) ?_
      walk_at "rds"
      intro p1 f1
      have sm4 := same_new (o := .tup [.ref e.pl]) f1
      have ep1 : (upd H3 p1 (.tup [.ref e.pl])) p1 = some (.tup [.ref e.pl]) := upd_same
      have st4 := st3.same sm4
      generalize upd H3 p1 (.tup [.ref e.pl]) = H4 at *
      obtain ⟨sdx4, es4⟩ := st4.ins
      walk_at "rds"
      refine ⟨G, p, S, N, b, rfl, st4, hb, by rw [← een]; exact nok, fun r H5 as sm5 er => ?_⟩
      have sm35 := sm4.trans sm5
      walk_at "rds"
      refine x_slA (SqT.of er) (by show ¬ (HT.sIx 5 0 none = 0 ∧ HT.sIx 5 5 (some 4) = 5); decide) fun p3 f3 => ?_
      have sm6 := sm35.trans (same_new (o := .tup (cutV [.int b.t.sp, .int b.t.kin, .int b.t.fo, .int b.t.si, .int as] none (some 4))) f3)
      have ep3 : (upd H5 p3 (.tup (cutV [.int b.t.sp, .int b.t.kin, .int b.t.fo, .int b.t.si, .int as] none (some 4)))) p3 = some (.tup [.int b.t.sp, .int b.t.kin, .int b.t.fo, .int b.t.si]) := upd_same
      have ep1' := (same_new (o := .tup (cutV [.int b.t.sp, .int b.t.kin, .int b.t.fo, .int b.t.si, .int as] none (some 4))) f3) _ _ (sm5 _ _ ep1)
      generalize upd H5 p3 (.tup (cutV [.int b.t.sp, .int b.t.kin, .int b.t.fo, .int b.t.si, .int as] none (some 4))) = H6 at *
      walk_at "rds"
      refine x_catA (SqT.of ep1') (SqT.of ep3) (by simp) (by simp) (sz16 (by simp)) fun p5 f5 => ?_
      have sm7 := sm6.trans (same_new (o := .tup ([.ref e.pl] ++ [.int b.t.sp, .int b.t.kin, .int b.t.fo, .int b.t.si])) f5)
      have ep5 : (upd H6 p5 (.tup ([.ref e.pl] ++ [.int b.t.sp, .int b.t.kin, .int b.t.fo, .int b.t.si]))) p5 = some (.tup (thV ⟨b.t, p5, e.pl⟩)) := upd_same
      generalize upd H6 p5 (.tup ([.ref e.pl] ++ [.int b.t.sp, .int b.t.kin, .int b.t.fo, .int b.t.si])) = H7 at *
      have th7 := th3.same sm7
      walk_at "rds"
      refine k_dp3s th7.d (by unfold kvsT; rw [List.length_map]; exact sz8 (by omega)) ?_
      have lk : Wh.look (S.bl.map (·.t)) b.t.nm = some b.t := look_bl st.sc.ok.nn hb
      have hnt : b.t.nm ∉ ts1.map (·.t.nm) := fun z => by
        rw [nm_lth, et3] at z
        obtain ⟨t, ht, e'⟩ := List.mem_map.mp z
        obtain ⟨n, hn2, en⟩ := List.mem_filterMap.mp ht
        have h1 := (look_some en).2
        rw [← e', h1] at hn
        exact not_take ynd hn hn2
      have thZ := th7.add ep5 hnt (by show PlanAt H7 e.pl b.t.wn; rw [← hwn]; exact epl.same sm7) (rp.1.2 b.t hbt)
      refine ⟨⟨_, rfl⟩, fun a o z n => (upd_ne n).trans (sm7 _ _ (k3 _ _ z n)), _, thZ, by rw [List.length_append, List.length_singleton]; omega, ?_⟩
      rw [List.map_append, et3, List.take_add_one, hn, List.filterMap_append]
      simp only [Option.toList_some, List.filterMap_cons, List.filterMap_nil, lk]
      rfl
    · obtain ⟨⟨o3, rfl⟩, k3, ts1, th3, le3, et3⟩ := h
      rw [List.length_map, List.take_length] at et3
      walk_at "rds"
      refine q d ts1 H3 (fun a o e => k3 _ _ (sm02 _ _ e) (ne_of_none e fd)) th3 ?_
      rw [et3]
      have h2 := look_bind (nd_bl st.sc.ok) (fun t => some t) _ fun t h => h
      rw [List.filterMap_some] at h2
      have h3 : ((S.bl.map (·.t)).map (·.nm)).filterMap (fun n => Wh.look (S.bl.map (·.t)) n) = S.bl.map (·.t) := by
        refine Eq.trans (fm_congr fun n _ => ?_) h2
        cases Wh.look (S.bl.map (·.t)) n <;> rfl
      refine List.Perm.trans ((sortS_perm _).filterMap _) ?_
      rw [show S.bl.map (·.t.nm) = (S.bl.map (·.t)).map (·.nm) by rw [List.map_map]; rfl, h3]
end
end Wh

/-! ## L22 -/
set_option Elab.async false
set_option linter.all false
set_option maxRecDepth 100000
set_option maxHeartbeats 4000000


namespace Wh
open PySem PySem.Spec PyProof.Rows L2
section
variable {P : Program} {wo : World} {K : PySem.W.Frag} {mg : Str → Option Value} {base : Heap}
def setWs (n : Str) (wn : Wn) (pl r : Addr) (es : List We) : List We := es.map fun y => if y.nm = n then { y with wn := wn, pl := pl, a := r } else y
theorem setWs_nm (n : Str) (wn : Wn) (pl r : Addr) (es : List We) : (setWs n wn pl r es).map (·.nm) = es.map (·.nm) := by
  unfold setWs
  rw [List.map_map]
  refine List.map_congr_left fun y _ => ?_
  simp only [Function.comp]
  by_cases e : y.nm = n
  · rw [if_pos e]
  · rw [if_neg e]
theorem kvs_setW {n : Str} {wn : Wn} {pl r : Addr} {es : List We} (h : n ∈ es.map (·.nm)) : putK (kvsW es) (Sum.inr n) (V.ref r) = kvsW (setWs n wn pl r es) := by
  have ha : ((kvsW es).any fun kv => decide (kv.1 = Sum.inr n)) = true := by
    obtain ⟨x, hx, e⟩ := List.mem_map.mp h
    exact List.any_eq_true.mpr ⟨_, List.mem_map.mpr ⟨x, hx, rfl⟩, decide_eq_true (by simp only; rw [e])⟩
  unfold putK
  rw [if_pos ha]
  unfold kvsW setWs
  rw [List.map_map, List.map_map]
  refine List.map_congr_left fun y hy => ?_
  simp only [Function.comp]
  by_cases e : y.nm = n
  · rw [if_pos (by rw [e]), if_pos e]
  · rw [if_neg (fun z => e (Sum.inr.inj z)), if_neg e]
theorem we_uq {es : List We} (nn : (es.map (·.nm)).Nodup) {x y : We} (hx : x ∈ es) (hy : y ∈ es) (e : y.nm = x.nm) : y = x := by
  have h1 := find_we nn hx
  have h2 := find_we nn hy
  rw [e, h1] at h2
  exact (Option.some.inj h2).symm
theorem WtAt.set {H : Hp} {td : Addr} {es : List We} (h : WtAt H td es) {x : We} (hx : x ∈ es) {wn : Wn} {pl r : Addr} (er : H r = some (.tup [.ref pl, .int x.kin, .int x.fo])) (hp : PlanAt H pl wn) (ok : wn.Ok) (cap : wn.cap = x.wn.cap) :
    WtAt (upd H td (.dK (putK (kvsW es) (.inr x.nm) (.ref r)))) td (setWs x.nm wn pl r es) := by
  refine ⟨by rw [upd_same, kvs_setW (List.mem_map.mpr ⟨x, hx, rfl⟩)], fun y hy => ?_, by rw [setWs_nm]; exact h.nn, by unfold setWs; rw [List.length_map]; exact h.l2⟩
  obtain ⟨z, hz, rfl⟩ := List.mem_map.mp hy
  by_cases e : z.nm = x.nm
  · rw [if_pos e]
    obtain rfl := we_uq h.nn hx hz e
    obtain ⟨_, _, _, k0, k2, f1, fc, nok⟩ := h.th z hz
    exact ⟨tup_put h.d er, hp.put h.d, ok, k0, k2, f1, by show z.fo ≤ wn.cap; rw [cap]; exact fc, nok⟩
  · rw [if_neg e]
    obtain ⟨p1, p2, p3⟩ := h.th z hz
    exact ⟨tup_put h.d p1, p2.put h.d, p3⟩
theorem BagAt.putd {H : Hp} {b c td : Addr} {kvs : List (Key × V)} {o : HO} (h : BagAt H b c) (hd : H td = some (.dK kvs)) : BagAt (upd H td o) b c := by
  have h1 := dk_ne h hd
  obtain ⟨x0, x1, x2, cells, eb, ec, r⟩ := h
  exact ⟨x0, x1, x2, cells, (upd_ne h1.symm).trans eb, (upd_ne (fun z => by rw [z, hd] at ec; cases ec)).trans ec, r⟩
theorem ThAt.bag {H H' : Hp} {b c d : Addr} {ts : List LTh} (h : ThAt H d ts) (bag : BagAt H b c) (k : ButBag b H H') : ThAt H' d ts :=
  ⟨k _ _ h.d (dk_ne bag h.d), fun x hx => ⟨k _ _ (h.th x hx).1 (bag.tup (h.th x hx).1), (h.th x hx).2.1.bag bag k, (h.th x hx).2.2⟩, h.nn⟩
theorem StO.cutb {G : Addr → Prop} {H : Hp} {b c p : Addr} {S : Sc} {N : Nat} (h : StO K G H p S N) (bag : BagAt H b c) : StO K (fun a => G a ∧ a ≠ b) H p S N := by
  obtain ⟨x0, x1, x2, cells, eb, _⟩ := id bag
  refine h.cut (fun xs z => ints_ne bag z rfl) (fun as z => ?_) (fun C dx fs z => by rw [eb] at z; cases z)
  rw [eb] at z
  cases as with
  | nil => cases z
  | cons a r => cases z
theorem StO.bagAll {G : Addr → Prop} {H H' : Hp} {b c p : Addr} {S : Sc} {N : Nat} (h : StO K G H p S N) (bag : BagAt H b c) (no : ¬ own S b) (k : ButBag b H H') : StO K (fun a => H' a ≠ none ∧ ¬ own S a ∧ a ≠ p) H' p S N := by
  obtain ⟨x0, x1, x2, cells, eb, _⟩ := id bag
  obtain ⟨dx, e⟩ := h.ins
  have np : p ≠ b := fun z => by rw [z, eb] at e; cases e
  exact ((h.cutb bag).but (H' := H') eb trivial k (fun g => g.2 rfl) no np).all
/-- what the law plays with -/
structure LossyAt (P : Program) (wW : World) (K : PySem.W.Frag) (H : Hp) (w p d l : Addr) (gv : V) (td : Addr) (rooms stirs : List Int) (S : Sc) (ts : List LTh) (ns : List Str) (D : Sta) : Prop where
  wo : WorldAt H w td rooms stirs
  st : StO K (fun a => H a ≠ none ∧ ¬ own S a ∧ a ≠ p) H p S 12
  ds : S.ds = []
  mo : S.mo = 0
  ho : S.hold = rooms
  pr : S.pres = stirs
  th : ThAt H d ts
  pm : (ts.map (·.t)).Perm (S.bl.map (·.t))
  rp : Rp D (ts.map (·.t))
  nok : ∀ t ∈ ts.map (·.t), NameOk t.nm
  l2 : ts.length ≤ 2
  el : H l = some (.lst (ns.map V.str))
  nl : ns.length ≤ 8
  ni : ∀ n ∈ ns, n ∈ (ts.map (·.t)).map (·.nm)
  g : gv = .non ∨ ∃ wd xs, gv = .ref wd ∧ GameAt P wW (succS D rooms stirs ns) H wd xs ∧ xs.length ≤ 60 ∧ (∀ e ∈ xs, ∀ q ∈ succS D rooms stirs ns e.1, q.2 ∈ xs.map (·.1)) ∧ stL (ts.map (·.t)) ∈ xs.map (·.1) ∧ ∀ e ∈ xs, e.1.length ≤ ts.length
def spLossy (P : Program) (wo : World) (K : PySem.W.Frag) : Sp := fun vs H Q _ => ∃ b c, vs = [.ref b] ∧ BagAt H b c ∧ ∀ r w p d l gv td rooms stirs S ts ns D H', H' r = some (.tup [.ref w, .ref p, .ref d, .ref l, gv]) → LossyAt P wo K H' w p d l gv td rooms stirs S ts ns D → ¬ own S b → BagAt H' b c → Q (.ref r) H'
theorem ok_law_lossy (T : Tx K mg) : FnOk P wo K mg base CX0 11 (He.ga K "_law_lossy") (fdA K (He.ga K "_law_lossy")) ["_law_bag_here"] (spLossy P wo K) := by
  refine okD (F_law_lossy T) sc_law_lossy (fun vs H Q E h => ?_) (fun cdv A outer s H vs Q E hr h => ?_)
  · obtain ⟨b, c, rfl, _⟩ := h
    rfl
  · obtain ⟨b, c, rfl, bag, q⟩ := h
    refine ⟨_, (pss_cons (ps_set (i := 1) sc_law_lossy.nd rfl (Or.inl rfl) (pe_call (ok_law_world (P := P) (wo := wo) (K := K) T) (hr.mono (by decide)) rfl (g_law_world T) (F_law_world T).kp (b_law_world T) .nil pass0 (pa_cons (pv 0) (pa_cons pe_int (pa_cons pe_int pa_nil)))))
 (pss_cons (ps_for PassesOwn.never rfl (pi_list (pe_callB (call_sortedD rfl) (by rfl) (z_sorted T) (by decide +kernel) (pa_cons (pe_dget (hu_of hr) (pv 1) pe_str (fun _ _ => rfl)) pa_nil))) (pg_name (i := 2) sc_law_lossy.nd rfl (Or.inl rfl)) (pss_cons (ps_asg (pe_dget (hu_of hr) (pe_dget (hu_of hr) (pv 1) pe_str (fun _ _ => rfl)) (pv 2) (fun _ _ => rfl)) (pg_tupK (K := K) (n := 3) rfl (pgs_cons (pg_name (i := 3) sc_law_lossy.nd rfl (Or.inl rfl)) (pgs_cons (pg_name (i := 4) sc_law_lossy.nd rfl (Or.inl rfl)) (pgs_cons (pg_name (i := 5) sc_law_lossy.nd rfl (Or.inl rfl)) pgs_nil)))))
 (pss_cons (ps_set (i := 6) sc_law_lossy.nd rfl (Or.inl rfl) (pe_callB (call_min2 rfl) (by rfl) (z_min T) (by decide +kernel) (pa_cons (pe_ix (ix_tupK (K := K)) (pv 3) pe_int (fun _ _ => rfl)) (pa_cons (pe_call (ok_law_take (P := P) (wo := wo) (K := K) T) (hr.mono (by decide)) rfl (g_law_take T) (F_law_take T).kp (b_law_take T) .nil pass0 (pa_cons (pv 0) (pa_cons pe_int pa_nil))) pa_nil))))
 (pss_cons (ps_setLc (i := 7) (own := [("_law_by", 8), ("_law_take_here", 9)]) rfl sc_law_lossy.nd rfl rfl (sw_true rfl rfl rfl (by decide +kernel)) (pi_list (pe_ix (ix_tupK (K := K)) (pv 3) pe_int (fun _ _ => rfl))) (blkOk_by (N := ["_law_bag_here", "_law_world_here", "_law_name", "_law_plan_here", "_law_sort", "_law_strength", "_law_up", "_law_steps_here", "_law_by", "_law_take_here", "_law_store_here", "_law_things", "_law_names_here"]) (sc := defScope s_law_lossy) (by decide +kernel)) (fun _ _ _ _ _ => (pg_tupK (K := K) (n := 2) rfl (pgs_cons (pg_name (i := 8) sc_law_lossy.nd rfl (Or.inl rfl)) (pgs_cons (pg_name (i := 9) sc_law_lossy.nd rfl (Or.inl rfl)) pgs_nil)))) (fun _ _ _ _ _ => pts_nil) (fun _ _ _ _ _ => (pe_tup (pa_cons (pv 8) (pa_cons (pe_op op_add (pv 9) (pe_call (ok_law_take (P := P) (wo := wo) (K := K) T) (hr.mono (by decide)) rfl (g_law_take T) (F_law_take T).kp (b_law_take T) .nil pass0 (pa_cons (pv 0) (pa_cons pe_int pa_nil)))) pa_nil)))))
 (pss_one (ps_dput (hu_of hr) (pe_dget (hu_of hr) (pv 1) pe_str (fun _ _ => rfl)) (pv 2) (pe_tup (pa_cons (pe_tup (pa_cons (pe_ix (ix_tupK (K := K)) (pv 3) pe_int (fun _ _ => rfl)) (pa_cons (pv 7) (pa_cons (pe_ix (ix_tupK (K := K)) (pv 3) pe_int (fun _ _ => rfl)) (pa_cons (pv 6) (pa_cons (pe_ix (ix_tupK (K := K)) (pv 3) pe_int (fun _ _ => rfl)) pa_nil)))))) (pa_cons (pv 4) (pa_cons (pv 5) pa_nil)))) rfl))))))
 (pss_cons (ps_set (i := 10) sc_law_lossy.nd rfl (Or.inl rfl) (pe_call (ok_law_store (P := P) (wo := wo) (K := K) T) (hr.mono (by decide)) rfl (g_law_store T) (F_law_store T).kp (b_law_store T) .nil pass0 (pa_cons (pv 1) pa_nil)))
 (pss_cons (ps_set (i := 11) sc_law_lossy.nd rfl (Or.inl rfl) (pe_call (ok_law_seen (P := P) (wo := wo) (K := K) T) (hr.mono (by decide)) rfl (g_law_seen T) (F_law_seen T).kp (b_law_seen T) .nil pass0 (pa_cons (pv 1) (pa_cons (pv 10) pa_nil))))
 (pss_cons (ps_setLc (i := 12) (own := [("_law_name", 2)]) rfl sc_law_lossy.nd rfl rfl (sw_true rfl rfl rfl (by decide +kernel)) (pi_list (pe_callB (call_sortedD rfl) (by rfl) (z_sorted T) (by decide +kernel) (pa_cons (pv 11) pa_nil))) (blkOk_by (N := ["_law_bag_here", "_law_world_here", "_law_name", "_law_plan_here", "_law_sort", "_law_strength", "_law_up", "_law_steps_here", "_law_by", "_law_take_here", "_law_store_here", "_law_things", "_law_names_here"]) (sc := defScope s_law_lossy) (by decide +kernel)) (fun _ _ _ _ _ => (pg_name (i := 2) sc_law_lossy.nd rfl (Or.inl rfl))) (fun _ _ _ _ _ => (pts_one (pt_cmpR op_gt (pe_call (ok_law_take (P := P) (wo := wo) (K := K) T) (hr.mono (by decide)) rfl (g_law_take T) (F_law_take T).kp (b_law_take T) .nil pass0 (pa_cons (pv 0) (pa_cons pe_int pa_nil))) pe_int (nomark _)))) (fun _ _ _ _ _ => (pv 2)))
 (pss_one (ps_ret (pe_tup (pa_cons (pv 1) (pa_cons (pv 10) (pa_cons (pv 11) (pa_cons (pv 12) (pa_cons (pe_call (ok_law_game (P := P) (wo := wo) (K := K) T) (hr.mono (by decide)) rfl (g_law_game T) (F_law_game T).kp (b_law_game T) .nil pass0 (pa_cons (pv 1) (pa_cons (pv 11) (pa_cons (pv 12) (pa_cons pe_int pa_nil))))) pa_nil))))))))))))), ?_⟩
    try dsimp only [cxK, cxP, cxW]
    walk_at "rds"
    refine ⟨b, c, rfl, bag, fun w td rooms stirs es H1 wo1 wt1 t91 bag1 bb1 => ?_⟩
    have nwt := wo1.ntd wt1
    obtain ⟨rl1, sl1, ew1, _⟩ := id wo1.ex
    walk_at "rds"
    refine k_dg2s (.inl ew1) rfl ?_
    walk_at "rds"
    refine ⟨td, kvsW es, es.map (·.nm), rfl, .inl wt1.d, by unfold kvsW; rw [List.map_map, List.map_map]; rfl, by rw [List.length_map]; have := wt1.l2; omega, fun ys p hperm hsort fp => ?_⟩
    have sm2 := same_new (o := .lst (ys.map V.str)) fp
    have eyp : (upd H1 p (.lst (ys.map V.str))) p = some (.lst (ys.map V.str)) := upd_same
    have npb : p ≠ b := bag1.ne fp
    have npt : p ≠ td := (ne_of_none wt1.d fp).symm
    have wo2 := wo1.same sm2
    have wt2 := wt1.same sm2
    have bag2 := bag1.same sm2
    generalize upd H1 p (.lst (ys.map V.str)) = H2 at *
    have yl2 : ys.length ≤ 2 := by rw [hperm.length_eq, List.length_map]; exact wt1.l2
    walk_at "rds"
    refine k_iL (SqL.of eyp) ?_
    refine k_for (itx_l K p (ys.map V.str)) (fun i σ' H' => (∃ o2 o3 o4 o5 o6 o7 o8 o9, σ' = [some (.ref b), some (.ref w), o2, o3, o4, o5, o6, o7, o8, o9, none, none, none]) ∧ H' p = some (.lst (ys.map V.str)) ∧ BagAt H' b c ∧ WorldAt H' w td rooms stirs ∧ ∃ es', WtAt H' td es' ∧ es'.map (·.nm) = es.map (·.nm) ∧ ∀ e ∈ es', ∀ q ∈ e.wn.tl, q.2 ≤ 9 + (i : Int)) ?_ (fun i σ' H' _ h => SqL.of h.2.1) (fun i x σ' H3 hx h => ?_) (fun σ' H3 h => ?_)
    · exact ⟨⟨_, _, _, _, _, _, _, _, rfl⟩, eyp, bag2, wo2, es, wt2, rfl, fun e he q hq => by have := t91 e he q hq; omega⟩
    · obtain ⟨⟨o2, o3, o4, o5, o6, o7, o8, o9, rfl⟩, eyp3, bag3, wo3, es', wt3, en3, t93⟩ := h
      obtain ⟨nm, hn, rfl, hi⟩ := nth_str hx
      obtain ⟨e, he, rfl⟩ : ∃ e ∈ es', e.nm = nm := by
        have := hperm.mem_iff.mp (List.mem_of_getElem? hn)
        rw [← en3] at this
        obtain ⟨e, he, ee⟩ := List.mem_map.mp this
        exact ⟨e, he, ee⟩
      obtain ⟨eea, epl, wok, k0, k2, f1', fc, nok⟩ := wt3.th e he
      unfold wV at eea
      obtain ⟨rl3, sl3, ew3, _⟩ := id wo3.ex
      obtain ⟨phl, ptl, ep, _⟩ := id epl
      walk_at "rds"
      refine k_dg2s (.inl ew3) rfl ?_
      walk_at "rds"
      refine k_dg2s (v := .ref e.a) (.inl wt3.d) (valV_kvsW wt3.nn he) ?_
      walk_at "rds"
      refine x_ixT (SqT.of ep) (atI_nat (v := .int e.wn.lift) (by decide) rfl) ?_
      walk_at "rds"
      refine ⟨b, c, 3, rfl, bag3, by decide, by decide, fun v1 H4 a0 a1 bag4 bb4 => ?_⟩
      have wt4 := wt3.bag bag3 bb4
      have wo4 := wo3.bag bag3 bb4
      have eyp4 := bb4 _ _ eyp3 npb
      have epl4 := epl.bag bag3 bb4
      obtain ⟨hl, tl, ep4, ⟨has, ehl, phl'⟩, ⟨tas, etl, ptl'⟩⟩ := id epl4
      walk_at "rds"
      refine ⟨_, _, rfl, ?_⟩
      rw [min_if]
      walk_at "rds"
      refine x_ixT (SqT.of ep4) (atI_nat (v := .ref tl) (by decide) rfl) ?_
      have ntlb : tl ≠ b := steps_ne bag4 ⟨tas, etl, ptl'⟩
      have tal : tas.length = e.wn.tl.length := Paired.length ptl'
      have tl24 := wok.tl0
      have hb4 : H4 b ≠ none := by
        obtain ⟨x0, x1, x2, cells, eb, _⟩ := bag4
        rw [eb]; simp
      have hc4 : H4 c ≠ none := by
        obtain ⟨x0, x1, x2, cells, eb, ec, _⟩ := bag4
        rw [ec]; simp
      refine k_iL (SqL.of etl) ?_
      refine k_lcI (itx_l K tl (tas.map V.ref)) (fun j acc D H' => BagAt H' b c ∧ ButBag b H4 H' ∧ H4 D = none ∧ ∃ (rs : List Addr) (qs : List (Int × Int)), acc = rs.map V.ref ∧ H' D = some (.lst acc) ∧ Paired (fun a (q : Int × Int) => H' a = some (.tup [.int q.1, .int q.2])) rs qs ∧ qs.length = j ∧ j ≤ 24 ∧ ∀ q ∈ qs, 1 ≤ q.1 ∧ q.1 ≤ 9 ∧ 0 ≤ q.2 ∧ q.2 ≤ 10 + (i : Int)) (fun D hD => ?_) (fun j acc D H' p => SqL.of (p.2.1 _ _ etl ntlb)) (fun j x acc D H' hx pp => ?_) (fun acc D H5 pp => ?_)
      · exact ⟨bag4.same (same_new hD), ButBag.same (same_new hD), hD, [], [], rfl, upd_same, .nil, rfl, by omega, fun q hq => nomatch hq⟩
      · obtain ⟨bag', bb', hD, rs, qs, rfl, eD, pq, ql, j24, qok⟩ := pp
        obtain ⟨t, ht, rfl, hj⟩ := nth_ref hx
        obtain ⟨q0, hq0, et0⟩ := Paired.getL ptl' j t ht
        have nDb : D ≠ b := fun z => hb4 (z ▸ hD)
        have nDc : D ≠ c := fun z => hc4 (z ▸ hD)
        have et0' := bb' _ _ et0 (bag4.tup et0)
        have q0m := List.mem_of_getElem? hq0
        have q0ok := wok.st q0 q0m
        have q09 := t93 e he q0 q0m
        have rl' : rs.length = qs.length := Paired.length pq
        walk_at "rds"
        refine ⟨rfl, yesI ?_⟩
        walk_at "rds"
        refine ⟨b, c, 2, rfl, bag', by decide, by decide, fun v2 H'' c0 c1 bag'' bb'' => ?_⟩
        walk_at "rds"
        intro r fr
        have smr := same_new (o := .tup [.int q0.1, .int (q0.2 + v2)]) fr
        have er : (upd H'' r (.tup [.int q0.1, .int (q0.2 + v2)])) r = some (.tup [.int q0.1, .int (q0.2 + v2)]) := upd_same
        have eD'' := smr _ _ (bb'' _ _ eD nDb)
        have bagr := bag''.same smr
        have bbr := (bb'.trans bb'').trans (ButBag.same smr)
        have pq' := Paired.mapP pq fun a q z => smr _ _ (bb'' _ _ z (bag'.tup z))
        generalize upd H'' r (.tup [.int q0.1, .int (q0.2 + v2)]) = H6 at *
        have tupk : ∀ {a xs}, H6 a = some (.tup xs) → (upd H6 D (.lst (rs.map V.ref ++ [V.ref r]))) a = some (.tup xs) := fun {a xs} z => (upd_ne (fun (y : a = D) => by rw [y, eD''] at z; cases z)).trans z
        refine k_el (acc := rs.map V.ref) eD'' (by rw [List.length_map]; exact sz8 (by omega)) ⟨bagr.keep fun a o e hab => (upd_ne (fun (y : a = D) => hab.elim (fun z => nDb (y.symm.trans z)) fun z => nDc (y.symm.trans z))).trans e, fun a o e n => (upd_ne (ne_of_none e hD)).trans (bbr _ _ e n), hD, rs ++ [r], qs ++ [(q0.1, q0.2 + v2)], by rw [List.map_append]; rfl, upd_same, Paired.snoc (Paired.mapP pq' fun a q z => tupk z) (tupk er), by rw [List.length_append, ql]; rfl, by omega, fun q hq => ?_⟩
        rcases List.mem_append.mp hq with z | z
        · exact qok q z
        · rw [List.mem_singleton.mp z]
          exact ⟨q0ok.1, q0ok.2.1, by show 0 ≤ q0.2 + v2; have := q0ok.2.2.1; omega, by show q0.2 + v2 ≤ 10 + (i : Int); omega⟩
      · obtain ⟨bag5, bb5, hD, rs, qs, rfl, eD, pq, ql, _, qok⟩ := pp
        rw [List.length_map, tal] at ql
        have wt5 := wt4.bag bag4 bb5
        have wo5 := wo4.bag bag4 bb5
        have eyp5 := bb5 _ _ eyp4 npb
        have nhlb : hl ≠ b := steps_ne bag4 ⟨has, ehl, phl'⟩
        have ep5 := bb5 _ _ ep4 (bag4.tup ep4)
        have sh5 : StepsAt H5 hl e.wn.hd := StepsAt.bag (⟨has, ehl, phl'⟩ : StepsAt H4 hl e.wn.hd) nhlb bag4 bb5
        have sd5 : StepsAt H5 D qs := ⟨rs, eD, pq⟩
        have eea5 := (wt5.th e he).1
        have i2 : i < 2 := by omega
        walk_at "rds"
        refine x_ixT (SqT.of ep5) (atI_nat (v := .ref hl) (by decide) rfl) ?_
        walk_at "rds"
        refine x_ixT (SqT.of ep5) (atI_nat (v := .int e.wn.cap) (by decide) rfl) ?_
        walk_at "rds"
        refine x_ixT (SqT.of ep5) (atI_nat (v := .bl e.wn.anew) (by decide) rfl) ?_
        walk_at "rds"
        intro p1 f1
        have sm6 := same_new (o := .tup [.ref hl, .ref D, .int e.wn.cap, .int (min e.wn.lift v1), .bl e.wn.anew]) f1
        have ep1 : (upd H5 p1 (.tup [.ref hl, .ref D, .int e.wn.cap, .int (min e.wn.lift v1), .bl e.wn.anew])) p1 = some (.tup [.ref hl, .ref D, .int e.wn.cap, .int (min e.wn.lift v1), .bl e.wn.anew]) := upd_same
        generalize upd H5 p1 (.tup [.ref hl, .ref D, .int e.wn.cap, .int (min e.wn.lift v1), .bl e.wn.anew]) = H6 at *
        have pl6 : PlanAt H6 p1 ⟨e.wn.hd, qs, e.wn.cap, min e.wn.lift v1, e.wn.anew⟩ := ⟨hl, D, ep1, sh5.same sm6, sd5.same sm6⟩
        have wok' : (⟨e.wn.hd, qs, e.wn.cap, min e.wn.lift v1, e.wn.anew⟩ : Wn).Ok := by
          have l1 := wok.l1
          have l2 := wok.l2
          refine ⟨wok.hl, ?_, wok.sh, fun q hq => ?_, wok.c1, wok.c2, by show 0 ≤ min e.wn.lift v1; omega, by show min e.wn.lift v1 ≤ 1000000000; omega⟩
          · show qs.length = 1 ∨ _
            rw [ql]
            exact wok.tl
          · have := qok q hq
            exact ⟨this.1, this.2.1, this.2.2.1, by omega⟩
        walk_at "rds"
        intro r2 fr2
        have sm7 := sm6.trans (same_new (o := .tup [.ref p1, .int e.kin, .int e.fo]) fr2)
        have er2 : (upd H6 r2 (.tup [.ref p1, .int e.kin, .int e.fo])) r2 = some (.tup [.ref p1, .int e.kin, .int e.fo]) := upd_same
        have pl7 := pl6.same (same_new (o := .tup [.ref p1, .int e.kin, .int e.fo]) fr2)
        generalize upd H6 r2 (.tup [.ref p1, .int e.kin, .int e.fo]) = H7 at *
        have wt7 := wt5.same sm7
        have wo7 := wo5.same sm7
        have bag7 := bag5.same sm7
        have eyp7 := sm7 _ _ eyp5
        obtain ⟨rl7, sl7, ew7, _⟩ := id wo7.ex
        walk_at "rds"
        refine k_dg2s (.inl ew7) rfl ?_
        walk_at "rds"
        have esl := wt7.l2
        refine k_dp3s wt7.d (by unfold kvsW; rw [List.length_map]; exact sz8 (by omega)) ?_
        have wt8 := wt7.set he er2 pl7 wok' rfl
        have wo8 := wo7.keep (H' := upd H7 td (.dK (putK (kvsW es') (.inr e.nm) (.ref r2)))) wt7.d nwt fun a o z n => (upd_ne n).trans z
        refine ⟨⟨_, _, _, _, _, _, _, _, rfl⟩, (upd_ne npt).trans eyp7, bag7.putd wt7.d, wo8, _, wt8, (setWs_nm ..).trans en3, fun y hy q hq => ?_⟩
        obtain ⟨z, hz, rfl⟩ := List.mem_map.mp hy
        by_cases ez : z.nm = e.nm
        · rw [if_pos ez] at hq
          have := qok q hq
          omega
        · rw [if_neg ez] at hq
          have := t93 z hz q hq
          omega
    · obtain ⟨⟨o2, o3, o4, o5, o6, o7, o8, o9, rfl⟩, eyp3, bag3, wo3, es', wt3, en3, t93⟩ := h
      walk_at "rds"
      refine ⟨w, td, rooms, stirs, es', rfl, wo3, wt3, fun p1 S H4 sm4 st4 fr4 fp4 ds4 mo4 ho4 pr4 bl4 rp4 nm4 => ?_⟩
      have wo4 := wo3.same sm4
      have wt4 := wt3.same sm4
      have bag4 := bag3.same sm4
      walk_at "rds"
      refine ⟨w, td, rooms, stirs, es', _, p1, S, 12, rfl, wo4, wt4, st4, rp4, nm4, fun d ts H5 sm5 th5 pm5 => ?_⟩
      have wo5 := wo4.same sm5
      have bag5 := bag4.same sm5
      have st5 := (st4.same sm5).all
      have rp5 : Rp (DW es') (ts.map (·.t)) := rp4.perm pm5.symm
      have tl2 : ts.length ≤ 2 := by
        have := pm5.length_eq
        rw [List.length_map, List.length_map] at this
        omega
      have nok5 : ∀ t ∈ ts.map (·.t), NameOk t.nm := fun t ht => by
        obtain ⟨e, he, ee⟩ := List.mem_map.mp (nm4 t (pm5.mem_iff.mp ht))
        rw [← ee]
        exact (wt3.th e he).2.2.2.2.2.2.2
      walk_at "rds"
      refine ⟨d, kvsT ts, ts.map (·.t.nm), rfl, .inl th5.d, keys_kvsT _, by rw [List.length_map]; omega, fun zs pz hpz hsz fpz => ?_⟩
      have sm6 := same_new (o := .lst (zs.map V.str)) fpz
      have ezp : (upd H5 pz (.lst (zs.map V.str))) pz = some (.lst (zs.map V.str)) := upd_same
      have nzb : pz ≠ b := bag5.ne fpz
      have wo6 := wo5.same sm6
      have bag6 := bag5.same sm6
      have st6 := (st5.same sm6).all
      have th6 := th5.same sm6
      have zl : zs.length = ts.length := by rw [hpz.length_eq, List.length_map]
      generalize upd H5 pz (.lst (zs.map V.str)) = H6 at *
      have hb6 : H6 b ≠ none := by
        obtain ⟨x0, x1, x2, cells, eb, _⟩ := bag6
        rw [eb]; simp
      have hc6 : H6 c ≠ none := by
        obtain ⟨x0, x1, x2, cells, eb, ec, _⟩ := bag6
        rw [ec]; simp
      refine k_iL (SqL.of ezp) ?_
      refine k_lcI (itx_l K pz (zs.map V.str)) (fun j acc D H' => BagAt H' b c ∧ ButBag b H6 H' ∧ H6 D = none ∧ ∃ ns : List Str, acc = ns.map V.str ∧ H' D = some (.lst acc) ∧ ns.length ≤ j ∧ ∀ n ∈ ns, n ∈ zs) (fun D hD => ?_) (fun j acc D H' p => SqL.of (p.2.1 _ _ ezp nzb)) (fun j x acc D H' hx pp => ?_) (fun acc D H7 pp => ?_)
      · exact ⟨bag6.same (same_new hD), ButBag.same (same_new hD), hD, [], rfl, upd_same, Nat.le_refl _, fun n hn => nomatch hn⟩
      · obtain ⟨bag', bb', hD, ns, rfl, eD, nl, nin⟩ := pp
        obtain ⟨nm, hn, rfl, hj⟩ := nth_str hx
        have nDb : D ≠ b := fun z => hb6 (z ▸ hD)
        have nDc : D ≠ c := fun z => hc6 (z ▸ hD)
        walk_at "rds"
        refine ⟨rfl, testI ?_⟩
        walk_at "rds"
        refine ⟨b, c, 4, rfl, bag', by decide, by decide, fun v2 H'' c0 c1 bag'' bb'' => ?_⟩
        have eD'' := bb'' _ _ eD nDb
        walk_at "rds"
        refine k_TI (fun hc => ?_) (fun hc => ?_)
        · walk_at "rds"
          refine k_el (acc := ns.map V.str) eD'' (by rw [List.length_map]; exact sz8 (by omega)) ⟨bag''.keep fun a o e hab => (upd_ne (fun (y : a = D) => hab.elim (fun z => nDb (y.symm.trans z)) fun z => nDc (y.symm.trans z))).trans e, fun a o e n => (upd_ne (ne_of_none e hD)).trans ((bb'.trans bb'') _ _ e n), hD, ns ++ [nm], by rw [List.map_append]; rfl, upd_same, by rw [List.length_append, List.length_singleton]; omega, fun n hn' => ?_⟩
          rcases List.mem_append.mp hn' with z | z
          · exact nin n z
          · rw [List.mem_singleton.mp z]
            exact List.mem_of_getElem? hn
        · exact ⟨_, bag'', bb'.trans bb'', hD, ns, rfl, eD'', by omega, nin⟩
      · obtain ⟨bag7, bb7, hD, ns, rfl, eD, nl, nin⟩ := pp
        rw [List.length_map] at nl
        have fb4 : H3 b ≠ none := by
          obtain ⟨x0, x1, x2, cells, eb, _⟩ := bag3
          rw [eb]; simp
        have nob : ¬ own S b := fun o => fb4 (fr4 b o)
        have st7 := st6.bagAll bag6 nob bb7
        have wo7 := wo6.bag bag6 bb7
        have th7 := th6.bag bag6 bb7
        have ni : ∀ n ∈ ns, n ∈ (ts.map (·.t)).map (·.nm) := fun n hn => by
          rw [← nm_lth]
          exact hpz.mem_iff.mp (nin n hn)
        have mk : ∀ (gv : V) (H8 : Hp), Same H7 H8 → (gv = .non ∨ ∃ wd xs, gv = .ref wd ∧ GameAt P wo (succS (DW es') rooms stirs ns) H8 wd xs ∧ xs.length ≤ 60 ∧ (∀ e ∈ xs, ∀ q ∈ succS (DW es') rooms stirs ns e.1, q.2 ∈ xs.map (·.1)) ∧ stL (ts.map (·.t)) ∈ xs.map (·.1) ∧ ∀ e ∈ xs, e.1.length ≤ ts.length) →
            LossyAt P wo K H8 w p1 d D gv td rooms stirs S ts ns (DW es') := fun gv H8 sm8 g =>
          ⟨wo7.same sm8, (st7.same sm8).all, ds4, mo4, ho4, pr4, th7.same sm8, pm5, rp5, nok5, tl2, sm8 _ _ eD, by omega, ni, g⟩
        walk_at "rds"
        refine ⟨w, td, rooms, stirs, d, ts, D, ns, DW es', rfl, wo7, th7, by omega, eD, by omega, rp5, fun H8 sm8 => ?_, fun wd xs H8 sm8 ga x60 cl s0 xl => ?_⟩
        · walk_at "rds"
          intro r fr
          have smr := same_new (o := .tup [.ref w, .ref p1, .ref d, .ref D, .non]) fr
          exact q r w p1 d D .non td rooms stirs S ts ns (DW es') _ upd_same (mk _ _ (sm8.trans smr) (.inl rfl)) nob ((bag7.same sm8).same smr)
        · walk_at "rds"
          intro r fr
          have smr := same_new (o := .tup [.ref w, .ref p1, .ref d, .ref D, .ref wd]) fr
          refine q r w p1 d D (.ref wd) td rooms stirs S ts ns (DW es') _ upd_same (mk _ _ (sm8.trans smr) (.inr ⟨wd, xs, rfl, ⟨smr _ _ ga.d, ga.k.mono fun a zs e => smr _ _ e, ga.nn, fun e he => ?_⟩, x60, cl, s0, xl⟩)) nob ((bag7.same sm8).same smr)
          obtain ⟨ra, e1, e2⟩ := ga.r e he
          exact ⟨ra, e1, e2.keep (fun a zs e => smr _ _ e) fun o y => smr _ _ y⟩
end
end Wh

/-! ## M10 -/
set_option Elab.async false
set_option linter.all false
namespace Wh
open PySem
/-- a rank is at most the number of states -/
theorem rk_list {su : AS → List (Option Str × AS)} {C : List AS} (cl : ∀ s ∈ C, ∀ q ∈ su s, q.2 ∈ C) : ∀ (n : Nat) {s : AS}, s ∈ C → Rk su s (n + 1) → ∃ l : List AS, l.Nodup ∧ (∀ x ∈ l, x ∈ C ∧ ∃ m, Rk su x m ∧ m ≤ n + 1) ∧ l.length = n + 1
  | 0, s, hs, h => ⟨[s], by simp, fun x hx => by
    rw [List.mem_singleton.mp hx]
    exact ⟨hs, 1, h, Nat.le_refl _⟩, rfl⟩
  | n + 1, s, hs, h => by
    obtain ⟨q, hq, hr⟩ := h.best
    obtain ⟨l, nd, hl, len⟩ := rk_list cl n (cl s hs q hq) hr
    refine ⟨s :: l, List.nodup_cons.mpr ⟨fun z => ?_, nd⟩, fun x hx => ?_, by rw [List.length_cons, len]⟩
    · obtain ⟨_, m, hm, le⟩ := hl s z
      have := hm.uniq h
      omega
    · rcases List.mem_cons.mp hx with z | z
      · rw [z]
        exact ⟨hs, _, h, Nat.le_refl _⟩
      · obtain ⟨a, m, hm, le⟩ := hl x z
        exact ⟨a, m, hm, by omega⟩
theorem php3 {α : Type} [DecidableEq α] : ∀ {l m : List α}, l.Nodup → (∀ x ∈ l, x ∈ m) → l.length ≤ m.length
  | [], _, _, _ => Nat.zero_le _
  | x :: r, m, nd, h => by
    have nd2 := List.nodup_cons.mp nd
    have hx := h x (List.mem_cons_self ..)
    have := php3 (l := r) (m := m.erase x) nd2.2 fun y hy => (List.mem_erase_of_ne (fun (z : y = x) => nd2.1 (z ▸ hy))).mpr (h y (List.mem_cons_of_mem _ hy))
    rw [List.length_erase_of_mem hx] at this
    have : 0 < m.length := List.length_pos_of_mem hx
    rw [List.length_cons]
    omega
theorem rk_le {su : AS → List (Option Str × AS)} {C : List AS} (cl : ∀ s ∈ C, ∀ q ∈ su s, q.2 ∈ C) {s : AS} (hs : s ∈ C) {n : Nat} (h : Rk su s n) : n ≤ C.length := by
  have := h.pos
  obtain ⟨m, rfl⟩ : ∃ m, n = m + 1 := ⟨n - 1, by omega⟩
  obtain ⟨l, nd, hl, len⟩ := rk_list cl m hs h
  rw [← len]
  exact php3 nd fun x hx => (hl x hx).1
/-- just one of the rows has the key -/
theorem one_key {β : Type} {s : AS} : ∀ {qs : List (β × AS × Nat)}, (qs.map (·.2.1)).Nodup → s ∈ qs.map (·.2.1) → ∃ x ∈ qs, x.2.1 = s ∧ qs.filter (fun z => decide (z.2.1 = s)) = [x]
  | [], _, h => nomatch h
  | y :: r, nd, h => by
    have nd2 := List.nodup_cons.mp nd
    by_cases e : y.2.1 = s
    · refine ⟨y, List.mem_cons_self .., e, ?_⟩
      rw [List.filter_cons, if_pos (decide_eq_true e)]
      congr 1
      refine List.filter_eq_nil_iff.mpr fun z hz c => nd2.1 ?_
      exact List.mem_map.mpr ⟨z, hz, (of_decide_eq_true c).trans e.symm⟩
    · have hs : s ∈ r.map (·.2.1) := by
        rcases List.mem_cons.mp h with z | z
        · exact absurd z.symm e
        · exact z
      obtain ⟨x, hx, e1, e2⟩ := one_key nd2.2 hs
      refine ⟨x, List.mem_cons_of_mem _ hx, e1, ?_⟩
      rw [List.filter_cons, if_neg (fun c => e (of_decide_eq_true c)), e2]
end Wh

/-! ## L23 -/
set_option Elab.async false
set_option linter.all false
set_option maxRecDepth 100000
set_option maxHeartbeats 4000000


namespace Wh
open PySem PySem.Spec PyProof.Rows L2
section
variable {P : Program} {wo : World} {K : PySem.W.Frag} {mg : Str → Option Value} {base : Heap}
theorem strs_ne {H : Hp} {b c l : Addr} {xs : List Str} (bag : BagAt H b c) (h : H l = some (.lst (xs.map V.str))) : l ≠ b := fun z => by
  obtain ⟨x0, x1, x2, cells, eb, _⟩ := bag
  rw [z, eb] at h
  cases xs with
  | nil => cases h
  | cons a r => cases h
theorem FoundAt.bag {P : Program} {w : World} {su : AS → List (Option Str × AS)} {H H' : Hp} {b c fd : Addr} {xs ys : List NE} (h : FoundAt P w su H fd xs ys) (bag : BagAt H b c) (k : ButBag b H H') : FoundAt P w su H' fd xs ys := by
  refine ⟨k _ _ h.d (fun z => ?_), h.k.mono fun a zs e => k _ _ e (bag.tup e), h.v, h.c, h.x, h.nn⟩
  obtain ⟨x0, x1, x2, cells, eb, _⟩ := bag
  have := h.d
  rw [z, eb] at this
  cases this
theorem paired_zip {α β : Type} {F : α → β → Prop} : ∀ {xs : List α} {ys : List β}, Paired F xs ys → (xs.zip ys).map (·.2) = ys ∧ (xs.zip ys).length = xs.length ∧ ∀ z ∈ xs.zip ys, F z.1 z.2
  | _, _, .nil => ⟨rfl, rfl, fun z hz => nomatch hz⟩
  | _, _, .cons r t => by
    obtain ⟨h1, h2, h3⟩ := paired_zip t
    refine ⟨by simp only [List.zip_cons_cons, List.map_cons]; rw [h1], by simp only [List.zip_cons_cons, List.length_cons]; rw [h2], fun z hz => ?_⟩
    rcases List.mem_cons.mp hz with e | e
    · rw [e]; exact r
    · exact h3 z e
def spLaw (K : PySem.W.Frag) : Sp := fun vs H Q _ => ∃ (a : Addr) (ns : List Int), vs = [.ref a] ∧ SqL K H a (ns.map V.int) ∧ ∀ H', Q (.bl true) H'
theorem ok_law (T : Tx K mg) : FnOk P wo K mg base CX0 12 (He.ga K "law") (fdA K (He.ga K "law")) ["_law_script"] (spLaw K) := by
  refine okD (F_law T) sc_law (fun vs H Q E h => ?_) (fun cdv A outer s H vs Q E hr h => ?_)
  · obtain ⟨a, ns, rfl, _⟩ := h
    rfl
  · obtain ⟨a, cells, rfl, ea, q⟩ := h
    obtain ⟨ds, hv, hb⟩ := bd_keep T
    refine ⟨_, (pss_cons (ps_set (i := 1) sc_law.nd rfl (Or.inl rfl) (pe_call (ok_law_bag (P := P) (wo := wo) (K := K) T) (hr.mono (by decide)) rfl (g_law_bag T) (F_law_bag T).kp (b_law_bag T) .nil pass0 (pa_cons (pv 0) pa_nil)))
 (pss_cons (ps_for PassesOwn.never rfl (pi_range1 rfl (z_range T) (pa_cons pe_int pa_nil)) (pg_name (i := 2) sc_law.nd rfl (Or.inl rfl)) (pss_cons (ps_asg (pe_call (ok_law_lossy (P := P) (wo := wo) (K := K) T) (hr.mono (by decide)) rfl (g_law_lossy T) (F_law_lossy T).kp (b_law_lossy T) .nil pass0 (pa_cons (pv 1) pa_nil)) (pg_tupK (K := K) (n := 5) rfl (pgs_cons (pg_name (i := 3) sc_law.nd rfl (Or.inl rfl)) (pgs_cons (pg_name (i := 4) sc_law.nd rfl (Or.inl rfl)) (pgs_cons (pg_name (i := 5) sc_law.nd rfl (Or.inl rfl)) (pgs_cons (pg_name (i := 6) sc_law.nd rfl (Or.inl rfl)) (pgs_cons (pg_name (i := 7) sc_law.nd rfl (Or.inl rfl)) pgs_nil)))))))
 (pss_cons (ps_set (i := 8) sc_law.nd rfl (Or.inl rfl) pe_dnewN)
 (pss_cons (ps_if (pt_cmp (pc_notN (pv 7))) (pss_one (ps_set (i := 8) sc_law.nd rfl (Or.inl rfl) (pe_call (ok_law_lost (P := P) (wo := wo) (K := K) T) (hr.mono (by decide)) rfl (g_law_lost T) (F_law_lost T).kp (b_law_lost T) .nil pass0 (pa_cons (pv 7) pa_nil)))) pss_nil)
 (pss_cons (ps_set (i := 9) sc_law.nd rfl (Or.inr rfl) (pe_call (ok_law_state (P := P) (wo := wo) (K := K) T) (hr.mono (by decide)) rfl (g_law_state T) (F_law_state T).kp (b_law_state T) .nil pass0 (pa_cons (pv 5) pa_nil)))
 (pss_one (ps_if (pt_cmpR (op_ninK (P := P) (w := wo) hr.units) (pv 9) (pv 8) (by rfl)) (pss_cons (ps_set (i := 10) sc_law.nd rfl (Or.inl rfl) (pe_call (ok_keep (P := P) (wo := wo) (K := K) T) (hr.mono (by decide)) rfl (g_keep T) (F_keep T).kp hb hv pass0 (pa_cons (pv 4) (pa_cons (pe_callTy call_list_of (by rfl) (z_list T) (by decide +kernel) (pa_cons (pv 6) pa_nil)) pa_nil))))
 (pss_cons (ps_if (pt_cmpR op_ne (pe_ix (ix_tupK (K := K)) (pv 10) pe_int (fun _ _ => rfl)) pe_str (nomark _)) (pss_one (ps_ret pe_bl)) pss_nil)
 (pss_cons (ps_setLc (i := 11) (own := [("_law_row", 12)]) rfl sc_law.nd rfl rfl (sw_true rfl rfl rfl (by decide +kernel)) (pi_list (pe_ix (ix_tupK (K := K)) (pv 10) pe_int (fun _ _ => rfl))) (blkOk_by (N := ["_law_script", "_law_bag_here", "_law_again", "_law_world_here", "_law_store_here", "_law_things", "_law_names_here", "_law_ways", "_law_lost_here", "_law_state_here", "_law_told_here", "_law_rows", "_law_row", "_law_turn"]) (sc := defScope s_law) (by decide +kernel)) (fun _ _ _ _ _ => (pg_name (i := 12) sc_law.nd rfl (Or.inl rfl))) (fun _ _ _ _ _ => (pts_one (pt_cmpR (op_eqSK (K := K) hr.units) (pe_ix (ix_tupK (K := K)) (pv 12) pe_int (fun _ _ => rfl)) (pv 9) (nomark _)))) (fun _ _ _ _ _ => (pv 12)))
 (pss_cons (ps_if (pt_cmpR (op_neTK (K := K) (α := List (PySem.W.T3 TSt Str Int)) hr.units (by decide)) (pv 11) (pe_lst (pa_cons (pe_tup (pa_cons (pv 9) (pa_cons pe_str (pa_cons (pe_ix (ix_nkK (P := P) (w := wo) hr.units) (pv 8) (pv 9) (fun _ _ => rfl)) pa_nil)))) pa_nil)) (nomark _)) (pss_one (ps_ret pe_bl)) pss_nil)
 (pss_cons (ps_for PassesOwn.never rfl (pi_range1 rfl (z_range T) (pa_cons pe_int pa_nil)) (pg_name (i := 13) sc_law.nd rfl (Or.inl rfl)) (pss_one (ps_if (pt_not (pt_val (pe_call (ok_law_drawn (P := P) (wo := wo) (K := K) T) (hr.mono (by decide)) rfl (g_law_drawn T) (F_law_drawn T).kp (b_law_drawn T) .nil pass0 (pa_cons (pv 1) (pa_cons (pv 4) (pa_cons (pv 5) (pa_cons (pv 6) (pa_cons (pe_ix (ix_nkK (P := P) (w := wo) hr.units) (pv 8) (pv 9) (fun _ _ => rfl)) pa_nil)))))))) (pss_one (ps_ret pe_bl)) pss_nil)))
 (pss_one (ps_if (pt_not (pt_val (pe_call (ok_law_longest (P := P) (wo := wo) (K := K) T) (hr.mono (by decide)) rfl (g_law_longest T) (F_law_longest T).kp (b_law_longest T) .nil pass0 (pa_cons (pv 3) (pa_cons (pv 4) (pa_cons (pv 5) (pa_cons (pv 6) (pa_cons (pv 8) (pa_cons (pe_ix (ix_nkK (P := P) (w := wo) hr.units) (pv 8) (pv 9) (fun _ _ => rfl)) pa_nil))))))))) (pss_one (ps_ret pe_bl)) pss_nil))))))) pss_nil)))))))
 (pss_one (ps_ret pe_bl)))), ?_⟩
    try dsimp only [cxK, cxP, cxW]
    walk_at "rds"
    refine ⟨a, cells, rfl, ea, fun b c H1 sm1 fb bag1 => ?_⟩
    walk_at "rds"
    refine k_iR (by omega) (by omega) ?_
    refine k_for (itx_r 0 (3 : Int).toNat) (fun i σ' H' => (∃ o2 o3 o4 o5 o6 o7 o8 o9 o10 o11 o12 o13, σ' = [some (.ref a), some (.ref b), o2, o3, o4, o5, o6, o7, o8, o9, o10, o11, o12, o13]) ∧ BagAt H' b c) ?_ (fun _ _ _ _ _ => trivial) (fun i x σ' H2 hx h => ?_) (fun σ' H2 h => ?_)
    · exact ⟨⟨_, _, _, _, _, _, _, _, _, _, _, _, rfl⟩, bag1⟩
    · obtain ⟨⟨o2, o3, o4, o5, o6, o7, o8, o9, o10, o11, o12, o13, rfl⟩, bag2⟩ := h
      walk_at "rds"
      refine ⟨b, c, rfl, bag2, fun r w p d l gv td rooms stirs S ts ns D H3 er la nob bag3 => ?_⟩
      obtain ⟨wo3, st3, hds, hmo, hho, hpr, th3, pm, rp, nok, l2, el3, nl8, nin, g3⟩ := la
      subst hho hpr
      walk_at "rds"
      intro e0 fe0
      have sm4 := same_new (o := nkD P wo e0 []) fe0
      have ee0 : (upd H3 e0 (nkD P wo e0 [])) e0 = some (nkD P wo e0 []) := upd_same
      have bag4 := bag3.same sm4
      have th4 := th3.same sm4
      have st4 := (st3.same sm4).all
      have wo4 := wo3.same sm4
      have el4 := sm4 _ _ el3
      rcases g3 with rfl | ⟨wd, xs, rfl, ga, x60, cl, s0, xl⟩
      · generalize upd H3 e0 (nkD P wo e0 []) = H4 at *
        walk_at "rds"
        refine ⟨d, ts, rfl, th4, by omega, fun sa H5 sm5 esa => ?_⟩
        walk_at "rds"
        refine ⟨sa, e0, _, [], rfl, rfl, esa, .inl (sm5 _ _ ee0), (fun e he => nomatch he), ?_⟩
        refine x_bF (by rfl) ?_
        walk_at "rds"
        exact ⟨⟨_, _, _, _, _, _, _, _, _, _, _, _, rfl⟩, bag4.same sm5⟩
      · have ga4 : GameAt P wo (succS D S.hold S.pres ns) (upd H3 e0 (nkD P wo e0 [])) wd xs := ⟨sm4 _ _ ga.d, ga.k.mono fun a zs e => sm4 _ _ e, ga.nn, fun e he => by
          obtain ⟨ra, e1, e2⟩ := ga.r e he
          exact ⟨ra, e1, e2.keep (fun a zs e => sm4 _ _ e) fun o y => sm4 _ _ y⟩⟩
        generalize upd H3 e0 (nkD P wo e0 []) = H4 at *
        walk_at "rds"
        refine ⟨wd, xs, _, rfl, ga4, x60, fun e he => ?_, fun fd ys H5 sm5 fnd5 => ?_⟩
        · have h1 := ways_len (D := D) (rooms := S.hold) (stirs := S.pres) (ns := ns) (s := e.1)
          have h2 := xl e he
          omega
        have bag5 := bag4.same sm5
        have th5 := th4.same sm5
        have st5 := (st4.same sm5).all
        have wo5 := wo4.same sm5
        have el5 := sm5 _ _ el4
        walk_at "rds"
        refine ⟨d, ts, rfl, th5, by omega, fun sa H6 sm6 esa => ?_⟩
        have bag6 := bag5.same sm6
        have th6 := th5.same sm6
        have st6 := (st5.same sm6).all
        have wo6 := wo5.same sm6
        have el6 := sm6 _ _ el5
        have fnd6 := fnd5.same sm6
        clear ga4 sm4 ee0
        walk_at "rds"
        refine ⟨sa, fd, _, ys, rfl, rfl, esa, .inl fnd6.d, fnd6.k, ?_⟩
        by_cases hin : stL (ts.map (·.t)) ∈ ys.map (·.1)
        · obtain ⟨n, hval, hrk⟩ := fnd6.val hin
          rw [hval]
          refine x_bT (by rfl) ?_
          have yc : ∀ s ∈ ys.map (·.1), ∀ q ∈ succS D S.hold S.pres ns s, q.2 ∈ ys.map (·.1) := fun s hs q hq => by
            obtain ⟨e, he, rfl⟩ := List.mem_map.mp hs
            exact fnd6.c e he q hq
          have y60 : (ys.map (·.1)).length ≤ 60 := by
            have := fnd6.le
            rw [List.length_map]
            omega
          have n60 : n ≤ 60 := Nat.le_trans (rk_le yc hin hrk) y60
          have est : stL (S.bl.map (·.t)) = stL (ts.map (·.t)) := (st_perm th6.nd pm).symm
          have rpS : Rp D (S.bl.map (·.t)) := rp.perm pm
          have nokS : ∀ t ∈ S.bl.map (·.t), NameOk t.nm := fun t ht => nok t (pm.mem_iff.mpr ht)
          have nameOf : ∀ m ∈ ns, ∃ t ∈ ts.map (·.t), t.nm = m := fun m hm => List.mem_map.mp (nin m hm)
          walk_at "rds"
          refine ⟨l, _, rfl, .inl (SqL.of el6), fun l2 f2 => ?_⟩
          have sm7 := same_new (o := .lst (ns.map V.str)) f2
          have el7 : (upd H6 l2 (.lst (ns.map V.str))) l2 = some (.lst (ns.map V.str)) := upd_same
          have st7 := (st6.same sm7).all
          have bag7 := bag6.same sm7
          generalize upd H6 l2 (.lst (ns.map V.str)) = H7 at *
          walk_at "rds"
          refine ⟨_, p, S, 12, l2, ns, D, ys.map (·.1), rfl, st7, by decide, hds, by rw [hmo]; decide, el7, nl8, fun m hm => ?_, fun m hm => ?_, rpS, nokS, by rw [est]; exact hin, y60, yc, fun s hs => ?_, fun s hs => ?_, fun r2 rl rs qs H8 sm8 er2 erl pap qnd qin qrk => ?_⟩
          · obtain ⟨t, ht, rfl⟩ := nameOf m hm
            exact nok t ht
          · obtain ⟨t, ht, rfl⟩ := nameOf m hm
            obtain ⟨bb, hbb, e⟩ := List.mem_map.mp (pm.mem_iff.mp ht)
            rw [← e]
            exact List.mem_map.mpr ⟨bb, hbb, rfl⟩
          · obtain ⟨m, _, hm⟩ := fnd6.val hs
            exact ⟨m, hm⟩
          · obtain ⟨e, he, rfl⟩ := List.mem_map.mp hs
            obtain ⟨e', he', ee⟩ := List.mem_map.mp (fnd6.x e he)
            rw [← ee]
            have := xl e' he'
            omega
          rw [est] at qin
          have sm68 := sm7.trans sm8
          walk_at "rds"
          refine x_ixT (SqT.of er2) (atI_nat (v := .str "lost") (by decide) rfl) ?_
          walk_at "rds"
          refine k_if (fun hc => by simp at hc) (fun _ => ?_)
          walk_at "rds"
          refine x_ixT (SqT.of er2) (atI_nat (v := .ref rl) (by decide) rfl) ?_
          walk_at "rds"
          obtain ⟨zz1, zz2, zz3⟩ := paired_zip pap
          obtain ⟨x0, hx0, kx0, fx0⟩ := one_key (s := stL (ts.map (·.t))) (qs := rs.zip qs) (by rw [← zz1, List.map_map] at qnd; exact qnd) (by rw [← zz1, List.map_map] at qin; exact qin)
          have esa8 := esa.mono (fun a zs e => sm68 _ _ e : Tups H6 H8)
          refine k_iL (SqL.of erl) ?_
          refine k_lcI (itx_l K rl (rs.map V.ref)) (fun j acc D' H' => H8 D' = none ∧ Same H8 H' ∧ H' D' = some (.lst acc) ∧ acc = (((rs.zip qs).take j).filter fun z => decide (z.2.1 = stL (ts.map (·.t)))).map fun z => V.ref z.1) (fun D' hD => ⟨hD, same_new hD, upd_same, by simp⟩) (fun j acc D' H' p => SqL.of (p.2.1 _ _ erl)) (fun j x acc D' H' hx pp => ?_) (fun acc D' H9 pp => ?_)
          · obtain ⟨hD, sm, eD, ea'⟩ := pp
            obtain ⟨ri, hri, rfl, hj⟩ := nth_ref hx
            obtain ⟨qi, hqi, ai, eri, sti⟩ := Paired.getL pap j ri hri
            have hz : (rs.zip qs)[j]? = some (ri, qi) := List.getElem?_zip_eq_some.mpr ⟨hri, hqi⟩
            have eri' := sm _ _ eri
            have hal : acc.length ≤ 60 := by
              rw [ea', List.length_map]
              have h1 := ((List.take_sublist j (rs.zip qs)).filter fun z => decide (z.2.1 = stL (ts.map (·.t)))).length_le
              rw [fx0, List.length_singleton] at h1
              omega
            walk_at "rds"
            refine ⟨rfl, testI ?_⟩
            walk_at "rds"
            refine x_ixT (SqT.of eri') (atI_nat (v := .ref ai) (by decide) rfl) ?_
            walk_at "rds"
            refine ⟨ai, sa, _, _, rfl, rfl, sti.mono fun a zs e => sm _ _ e, esa8.mono fun a zs e => sm _ _ e, ?_⟩
            show kT _ (V.bl (decide (qi.1 = stL (ts.map (·.t))))) _
            walk_at "rds"
            refine k_TI (fun hc => ?_) (fun hc => ?_)
            · walk_at "rds"
              refine k_el eD (sz8 (by omega)) ⟨hD, fun b o hb => (upd_ne (ne_of_none hb hD)).trans (sm _ _ hb), upd_same, ?_⟩
              rw [List.take_add_one, hz, List.filter_append, List.map_append, ea']
              simp [hc]
            · refine ⟨acc, hD, sm, eD, ?_⟩
              rw [List.take_add_one, hz, List.filter_append, ea']
              simp [hc]
          · obtain ⟨hD, sm9, eD, rfl⟩ := pp
            rw [List.length_map, ← zz2, List.take_length] at eD
            rw [fx0] at eD
            obtain ⟨a0, ex0, st0⟩ := zz3 x0 hx0
            have rk0 := qrk x0.2 (by rw [← zz1]; exact List.mem_map.mpr ⟨x0, hx0, rfl⟩)
            rw [kx0] at rk0 st0
            have en := rk0.uniq hrk
            rw [en] at ex0
            have sm69 := sm68.trans sm9
            have fnd9 := fnd6.same sm69
            have esa9 := esa8.mono (fun a zs e => sm9 _ _ e : Tups H8 H9)
            have ex09 := sm9 _ _ ex0
            have st09 := st0.mono (fun a zs e => sm9 _ _ e : Tups H8 H9)
            walk_at "rds"
            refine ⟨sa, fd, _, ys, _, rfl, rfl, esa9, .inl fnd9.d, fnd9.k, hval, ?_⟩
            walk_at "rds"
            intro t1 ft1
            have smt := same_new (o := .tup [.ref sa, .str "lost", .int (n : Nat)]) ft1
            have et1 : (upd H9 t1 (.tup [.ref sa, .str "lost", .int (n : Nat)])) t1 = some (.tup [.ref sa, .str "lost", .int (n : Nat)]) := upd_same
            have sm610 := sm69.trans smt
            have eDt := smt _ _ eD
            have esat := esa9.mono (fun a zs e => smt _ _ e : Tups H9 _)
            have ex0t := smt _ _ ex09
            have st0t := st09.mono (fun a zs e => smt _ _ e : Tups H9 _)
            generalize upd H9 t1 (.tup [.ref sa, .str "lost", .int (n : Nat)]) = H10 at *
            walk_at "rds"
            intro t2 ft2
            have smu := same_new (o := .lst [.ref t1]) ft2
            have et2 : (upd H10 t2 (.lst [.ref t1])) t2 = some (.lst [.ref t1]) := upd_same
            have sm611 := sm610.trans smu
            have eDu := smu _ _ eDt
            have esau := esat.mono (fun a zs e => smu _ _ e : Tups H10 _)
            have ex0u := smu _ _ ex0t
            have st0u := st0t.mono (fun a zs e => smu _ _ e : Tups H10 _)
            have et1u := smu _ _ et1
            generalize upd H10 t2 (.lst [.ref t1]) = H11 at *
            have bag11 := bag6.same sm611
            walk_at "rds"
            refine ⟨[⟨toTS (stL (ts.map (·.t))), "lost", (n : Int)⟩], [⟨toTS (stL (ts.map (·.t))), "lost", (n : Int)⟩], .lst (SqL.of eDu) (.cons (.tup (SqT.of ex0u) (.cons st0u.dp (.cons (.str _) (.cons (.int _) .nil)))) .nil), .lst (SqL.of et2) (.cons (.tup (SqT.of et1u) (.cons esau.dp (.cons (.str _) (.cons (.int _) .nil)))) .nil), ?_⟩
            refine x_bF (by simp) ?_
            walk_at "rds"
            have st11 := (st6.same sm611).all
            have el11 := sm611 _ _ el6
            have fnd11 := fnd6.same sm611
            have wo11 := wo6.same sm611
            have th11 := th6.same sm611
            have nlb : l ≠ b := strs_ne bag11 el11
            refine k_iR (by omega) (by omega) ?_
            refine k_for (itx_r 0 (3 : Int).toNat) (fun j σ' H' => (∃ o2 o12 o13, σ' = [some (.ref a), some (.ref b), o2, some (.ref w), some (.ref p), some (.ref d), some (.ref l), some (.ref wd), some (.ref fd), some (.ref sa), some (.ref r2), some (.ref D'), o12, o13]) ∧ BagAt H' b c ∧ ButBag b H11 H') ?_ (fun _ _ _ _ _ => trivial) (fun j x σ' H12 hx h => ?_) (fun σ' H12 h => ?_)
            · exact ⟨⟨_, _, _, rfl⟩, bag11, ButBag.refl _ _⟩
            · obtain ⟨⟨o2', o12', o13', rfl⟩, bag12, bb12⟩ := h
              have st12 := st11.bagAll bag11 nob bb12
              have fnd12 := fnd11.bag bag11 bb12
              have esa12 := esau.mono (fun a zs e => bb12 _ _ e (bag11.tup e) : Tups H11 H12)
              have el12 := bb12 _ _ el11 nlb
              walk_at "rds"
              refine ⟨sa, fd, _, ys, _, rfl, rfl, esa12, .inl fnd12.d, fnd12.k, hval, ?_⟩
              walk_at "rds"
              refine ⟨_, b, c, p, S, 12, .ref d, l, ns, n, D, rfl, bag12, fun g => g.2 rfl, st12.cutb bag12, by decide, hds, by rw [hmo]; decide, el12, nlb, nl8, by omega, rpS, nokS, by rw [est]; exact hrk, fun H13 bag13 bb13 => ?_⟩
              walk_at "rds"
              exact ⟨⟨_, _, _, rfl⟩, bag13, bb12.trans bb13⟩
            · obtain ⟨⟨o2', o12', o13', rfl⟩, bag12, bb12⟩ := h
              have st12 := st11.bagAll bag11 nob bb12
              have fnd12 := fnd11.bag bag11 bb12
              have esa12 := esau.mono (fun a zs e => bb12 _ _ e (bag11.tup e) : Tups H11 H12)
              have el12 := bb12 _ _ el11 nlb
              walk_at "rds"
              refine ⟨sa, fd, _, ys, _, rfl, rfl, esa12, .inl fnd12.d, fnd12.k, hval, ?_⟩
              walk_at "rds"
              refine ⟨w, td, S.hold, S.pres, _, p, S, 12, d, ts, l, fd, xs, ys, ns, D, n, rfl, wo11.bag bag11 bb12, st12, by decide, hds, by rw [hmo]; decide, rfl, rfl, th11.bag bag11 bb12, by omega, pm, rp, nok, el12, nl8, fnd12, hin, hrk, by omega, fun H13 sm13 => ?_⟩
              walk_at "rds"
              exact ⟨⟨_, _, _, _, _, _, _, _, _, _, _, _, rfl⟩, bag12.same sm13⟩
        · rw [valN_none.mpr hin]
          refine x_bF (by rfl) ?_
          walk_at "rds"
          exact ⟨⟨_, _, _, _, _, _, _, _, _, _, _, _, rfl⟩, bag6⟩
    · obtain ⟨⟨o2, o3, o4, o5, o6, o7, o8, o9, o10, o11, o12, o13, rfl⟩, bag2⟩ := h
      walk_at "rds"
      exact q H2
end
end Wh

/-! ## Hd -/
set_option Elab.async false
set_option linter.all false
set_option maxRecDepth 100000
set_option maxHeartbeats 0
namespace Wh
open PySem PySem.Spec PyProof.Rows L2
theorem facts {P : Program} {w : World} {K : PySem.W.Frag} {h : Heap} {mg : Str → Option Value} {f : Addr} (X : K.In h) (G : h.Ns mainGlobals mg) (hfa : mg ("law" : Str) = some (.ref f)) (c : He.SaysD fa fn K) (e : exB K = true) :
    ∃ fd : FuncData, (∀ (s : Shared) (v : Value), BindsTo s fd ⟨[v], []⟩ [("_law_script", v)]) ∧ ∀ base : Heap, K.In base → base.Ns mainGlobals mg → FnOk P w K mg base CX0 12 f fd ["_law_script"] (spLaw K) := by
  have T : Tx K mg := ⟨⟨h, X, G⟩, c, e⟩
  have e2 := hfa.symm.trans (g_law (K := K) T)
  cases e2
  have F := F_law T
  have b := FunD.bindsA (ps := ["_law_script"]) F fun _ _ _ _ _ _ us hl => match us, hl with | [_], _ => rfl
  exact ⟨_, fun s v => b s [v] rfl, fun base _ _ => ok_law T⟩
end Wh
open PySem PySem.W PySem.Calls PyProof.Rows
set_option maxRecDepth 100000 in
set_option maxHeartbeats 0 in
theorem PySem.Challenge.cw_wanehold_k63_whole_lost_in_time_holds : PySem.Challenge.rw_wanehold_k63_whole_lost_in_time.Holds := by
  w_on; o_law
  refine HandSHeadRun.head_any (r := OpenLaw.row PySem.Challenge.rw_wanehold_k63_whole_lost_in_time) (q := view (OpenLaw.row PySem.Challenge.rw_wanehold_k63_whole_lost_in_time).prog [106]) (H := Wh.hk) (ob := Wh.ob) (M := 20000) (loose := Wh.names) (d := HandSHeadRun.topDef (OpenLaw.row PySem.Challenge.rw_wanehold_k63_whole_lost_in_time).prog 106) (kwd := []) Wh.ob_eq
    (by kernel_rfl) (fun s => by kernel_rfl) Wh.run (by kernel_rfl) (by kernel_rfl) (by kernel_rfl) (by rfl) (by first | assumption | decide +kernel) (by decide +kernel) ⟨rfl, rfl, rfl, rfl, rfl, by decide +kernel⟩ ?hw ?hc
  case hw => w_witness2
  case hc =>
    refine L2.walk_ofE (l := PySem.Challenge.rw_wanehold_k63_whole_lost_in_time) (n := 63) (k := 12) (x := "_law_script") (CX := L2.CX0) rfl (by decide) (by kernel_rfl) ⟨rfl, by decide, by decide⟩ ?F (fun _ _ _ _ z => z)
    intro w mg fa h Y G hmg0
    obtain ⟨K, KX, c, e⟩ := Y
    have hmg : mg ("law" : PySem.Str) = some (.ref fa) := by
      have e : (HandSHeadRun.topDef (OpenLaw.row PySem.Challenge.rw_wanehold_k63_whole_lost_in_time).prog 106).name = ("law" : PySem.Str) := by kernel_rfl
      rw [← e]
      exact hmg0
    obtain ⟨fd, hb, hF⟩ := Wh.facts (P := (PySem.Challenge.rw_wanehold_k63_whole_lost_in_time).prog) (w := w) KX G hmg c e
    exact ⟨K, fd, Wh.spLaw K, KX, hb, fun H a ns hl _ hS => ⟨a, ns, rfl, hS, fun _ => rfl⟩, hF⟩
