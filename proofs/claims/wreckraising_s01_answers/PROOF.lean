import PyProof.Rows.All
import Wide.All
import OpenK.AllK
import Wide.FinOn
import KE.KStateDown
import Lean
import Open.SpecLaws
import KE.OsGo
import HandS.ForSpec
import HandS.Comp
import HandS.Iter
import HandS.Dict
import HandS.More
import HandS.NoneIn
import HandS.Evl
import HandS.Sort
import HandS.SortRule
import HandS.CallLocal
import HandS.Defaults
import HandS.Style
import HandS.Head0
import HandS.Head1
import HandS.Head2
import HandS.Head3
import HandS.Head4
import HandS.HeadHook1
import HandS.HeadHook2
import PySem.Challenge.RW_wreckraising_s01_answers
import PyKm420
import KE.BitLaws
/-! ### part: Text -/
set_option Elab.async false
set_option linter.all false
set_option maxRecDepth 100000
set_option maxHeartbeats 4000000
namespace Wr
open PySem PySem.Spec PyProof.Rows L2
/-! ## The text by its places -/
def top (i : Nat) : Stmt := PySem.Challenge.pw_wreckraising_s01_answers.main.body.getD i (.Pass ⟨0, 0, 0, 0⟩)
abbrev s_new_room : Stmt := top 3
abbrev s_patched_room : Stmt := top 4
abbrev s_pumped_room : Stmt := top 5
abbrev s_room_with : Stmt := top 6
abbrev s_water_in : Stmt := top 7
abbrev s_air_grams : Stmt := top 8
abbrev s_leaking_in : Stmt := top 9
abbrev s_after_minute : Stmt := top 10
abbrev s_minutes_till_dry : Stmt := top 11
abbrev s_borne : Stmt := top 13
abbrev s_poured : Stmt := top 14
abbrev s_poured_back : Stmt := top 15
abbrev s_moment_of : Stmt := top 16
abbrev s_least_moment : Stmt := top 17
abbrev s_greatest_moment : Stmt := top 18
abbrev s_can_hang : Stmt := top 19
abbrev s_first_pulling : Stmt := top 20
abbrev s_last_bearing : Stmt := top 21
abbrev s_to_move : Stmt := top 22
abbrev s_level_pulls : Stmt := top 23
abbrev s_Stand_init : Stmt := inClass (top 28) 0
abbrev s_twin : Stmt := top 29
abbrev s_left_with : Stmt := top 30
abbrev s_moment_with : Stmt := top 31
abbrev s_left_of : Stmt := top 32
abbrev s_moment_now : Stmt := top 33
abbrev s_told_moment : Stmt := top 34
abbrev s_loads_of : Stmt := top 35
abbrev s_hooked_lines : Stmt := top 36
abbrev s_hooked_loads : Stmt := top 37
abbrev s_hangs_with : Stmt := top 38
abbrev s_hangs : Stmt := top 39
abbrev s_pulls_now : Stmt := top 40
abbrev s_pass_minute : Stmt := top 41
abbrev s_is_place : Stmt := top 48
abbrev s_is_within : Stmt := top 49
abbrev s_refused : Stmt := top 50
abbrev s_put_room : Stmt := top 51
abbrev s_put_line : Stmt := top 52
abbrev s_patch : Stmt := top 53
abbrev s_pump : Stmt := top 54
abbrev s_hook : Stmt := top 55
abbrev s_minutes : Stmt := top 56
abbrev s_haul : Stmt := top 57
abbrev s_lower : Stmt := top 58
abbrev s_has_bit : Stmt := top 60
abbrev s_chosen : Stmt := top 61
abbrev s_dried : Stmt := top 62
abbrev s_hangs_dried : Stmt := top 63
abbrev s_least_work : Stmt := top 64
abbrev s_fewest_lines : Stmt := top 65
abbrev s_tell_can : Stmt := top 70
abbrev s_tell_net : Stmt := top 71
abbrev s_tell_bears : Stmt := top 72
abbrev s_tell_pull : Stmt := top 73
abbrev s_tell_pulls : Stmt := top 74
abbrev s_tell_range : Stmt := top 75
abbrev s_tell_work : Stmt := top 76
abbrev s_tell_would : Stmt := top 77
abbrev s_tell_few : Stmt := top 78
abbrev s_tell_without : Stmt := top 79
abbrev s_tell_dry : Stmt := top 80
abbrev s_tell_look : Stmt := top 81
abbrev s_tell_see : Stmt := top 82
abbrev s_tell_lifts : Stmt := top 83
abbrev s_tell_here : Stmt := top 84
abbrev s_tell_water : Stmt := top 85
abbrev s_patched_bits : Stmt := top 86
abbrev s_Desk_init : Stmt := inClass (top 89) 0
abbrev s_Desk_start : Stmt := inClass (top 89) 1
abbrev s_Desk_go_on : Stmt := inClass (top 89) 2
abbrev s_Desk_take_back : Stmt := inClass (top 89) 3
abbrev s_Desk_do_again : Stmt := inClass (top 89) 4
abbrev s_Desk_tell_state : Stmt := inClass (top 89) 5
abbrev s_changed : Stmt := top 98
abbrev s_looked : Stmt := top 99
abbrev s_answered : Stmt := top 100
abbrev s_answers : Stmt := top 101
theorem sc_new_room : FnScope ["most", "place", "leak"] ["most", "place", "leak"] (defScope s_new_room) := ⟨rfl, rfl, rfl, by decide +kernel, rfl, by decide +kernel, by decide +kernel⟩
theorem sc_patched_room : FnScope ["room"] ["room"] (defScope s_patched_room) := ⟨rfl, rfl, rfl, by decide +kernel, rfl, by decide +kernel, by decide +kernel⟩
theorem sc_pumped_room : FnScope ["room", "rate"] ["room", "rate"] (defScope s_pumped_room) := ⟨rfl, rfl, rfl, by decide +kernel, rfl, by decide +kernel, by decide +kernel⟩
theorem sc_room_with : FnScope ["room", "water"] ["room", "water"] (defScope s_room_with) := ⟨rfl, rfl, rfl, by decide +kernel, rfl, by decide +kernel, by decide +kernel⟩
theorem sc_water_in : FnScope ["rooms", "room"] ["rooms"] (defScope s_water_in) := ⟨rfl, rfl, rfl, by decide +kernel, rfl, by decide +kernel, by decide +kernel⟩
theorem sc_air_grams : FnScope ["room"] ["room"] (defScope s_air_grams) := ⟨rfl, rfl, rfl, by decide +kernel, rfl, by decide +kernel, by decide +kernel⟩
theorem sc_leaking_in : FnScope ["room"] ["room"] (defScope s_leaking_in) := ⟨rfl, rfl, rfl, by decide +kernel, rfl, by decide +kernel, by decide +kernel⟩
theorem sc_after_minute : FnScope ["room", "leaked", "full", "pumped"] ["room"] (defScope s_after_minute) := ⟨rfl, rfl, rfl, by decide +kernel, rfl, by decide +kernel, by decide +kernel⟩
theorem sc_minutes_till_dry : FnScope ["room", "here", "minute"] ["room"] (defScope s_minutes_till_dry) := ⟨rfl, rfl, rfl, by decide +kernel, rfl, by decide +kernel, by decide +kernel⟩
theorem sc_borne : FnScope ["loads", "place", "grams"] ["loads"] (defScope s_borne) := ⟨rfl, rfl, rfl, by decide +kernel, rfl, by decide +kernel, by decide +kernel⟩
theorem sc_poured : FnScope ["loads", "need", "pulls", "rest", "place", "grams", "pull"] ["loads", "need"] (defScope s_poured) := ⟨rfl, rfl, rfl, by decide +kernel, rfl, by decide +kernel, by decide +kernel⟩
theorem sc_poured_back : FnScope ["loads", "need", "pulls"] ["loads", "need"] (defScope s_poured_back) := ⟨rfl, rfl, rfl, by decide +kernel, rfl, by decide +kernel, by decide +kernel⟩
theorem sc_moment_of : FnScope ["loads", "pulls", "k"] ["loads", "pulls"] (defScope s_moment_of) := ⟨rfl, rfl, rfl, by decide +kernel, rfl, by decide +kernel, by decide +kernel⟩
theorem sc_least_moment : FnScope ["loads", "left"] ["loads", "left"] (defScope s_least_moment) := ⟨rfl, rfl, rfl, by decide +kernel, rfl, by decide +kernel, by decide +kernel⟩
theorem sc_greatest_moment : FnScope ["loads", "left"] ["loads", "left"] (defScope s_greatest_moment) := ⟨rfl, rfl, rfl, by decide +kernel, rfl, by decide +kernel, by decide +kernel⟩
theorem sc_can_hang : FnScope ["loads", "left", "moment", "tilt"] ["loads", "left", "moment", "tilt"] (defScope s_can_hang) := ⟨rfl, rfl, rfl, by decide +kernel, rfl, by decide +kernel, by decide +kernel⟩
theorem sc_first_pulling : FnScope ["pulls", "k"] ["pulls"] (defScope s_first_pulling) := ⟨rfl, rfl, rfl, by decide +kernel, rfl, by decide +kernel, by decide +kernel⟩
theorem sc_last_bearing : FnScope ["loads", "pulls", "k"] ["loads", "pulls"] (defScope s_last_bearing) := ⟨rfl, rfl, rfl, by decide +kernel, rfl, by decide +kernel, by decide +kernel⟩
theorem sc_to_move : FnScope ["loads", "pulls", "first", "last", "lack", "way"] ["loads", "pulls", "first", "last", "lack"] (defScope s_to_move) := ⟨rfl, rfl, rfl, by decide +kernel, rfl, by decide +kernel, by decide +kernel⟩
theorem sc_level_pulls : FnScope ["loads", "left", "moment", "pulls", "turn", "first", "last", "grams"] ["loads", "left", "moment"] (defScope s_level_pulls) := ⟨rfl, rfl, rfl, by decide +kernel, rfl, by decide +kernel, by decide +kernel⟩
theorem sc_Stand_init : FnScope ["self", "kg", "place", "tilt", "depth"] ["self", "kg", "place", "tilt", "depth"] (defScope s_Stand_init) := ⟨rfl, rfl, rfl, by decide +kernel, rfl, by decide +kernel, by decide +kernel⟩
theorem sc_twin : FnScope ["stand", "other"] ["stand"] (defScope s_twin) := ⟨rfl, rfl, rfl, by decide +kernel, rfl, by decide +kernel, by decide +kernel⟩
theorem sc_left_with : FnScope ["stand", "rooms", "room"] ["stand", "rooms"] (defScope s_left_with) := ⟨rfl, rfl, rfl, by decide +kernel, rfl, by decide +kernel, by decide +kernel⟩
theorem sc_moment_with : FnScope ["stand", "rooms", "room"] ["stand", "rooms"] (defScope s_moment_with) := ⟨rfl, rfl, rfl, by decide +kernel, rfl, by decide +kernel, by decide +kernel⟩
theorem sc_left_of : FnScope ["stand"] ["stand"] (defScope s_left_of) := ⟨rfl, rfl, rfl, by decide +kernel, rfl, by decide +kernel, by decide +kernel⟩
theorem sc_moment_now : FnScope ["stand"] ["stand"] (defScope s_moment_now) := ⟨rfl, rfl, rfl, by decide +kernel, rfl, by decide +kernel, by decide +kernel⟩
theorem sc_told_moment : FnScope ["moment"] ["moment"] (defScope s_told_moment) := ⟨rfl, rfl, rfl, by decide +kernel, rfl, by decide +kernel, by decide +kernel⟩
theorem sc_loads_of : FnScope ["lines", "place", "kg", "hooked"] ["lines"] (defScope s_loads_of) := ⟨rfl, rfl, rfl, by decide +kernel, rfl, by decide +kernel, by decide +kernel⟩
theorem sc_hooked_lines : FnScope ["stand", "line"] ["stand"] (defScope s_hooked_lines) := ⟨rfl, rfl, rfl, by decide +kernel, rfl, by decide +kernel, by decide +kernel⟩
theorem sc_hooked_loads : FnScope ["stand"] ["stand"] (defScope s_hooked_loads) := ⟨rfl, rfl, rfl, by decide +kernel, rfl, by decide +kernel, by decide +kernel⟩
theorem sc_hangs_with : FnScope ["stand", "rooms", "lines"] ["stand", "rooms", "lines"] (defScope s_hangs_with) := ⟨rfl, rfl, rfl, by decide +kernel, rfl, by decide +kernel, by decide +kernel⟩
theorem sc_hangs : FnScope ["stand"] ["stand"] (defScope s_hangs) := ⟨rfl, rfl, rfl, by decide +kernel, rfl, by decide +kernel, by decide +kernel⟩
theorem sc_pulls_now : FnScope ["stand"] ["stand"] (defScope s_pulls_now) := ⟨rfl, rfl, rfl, by decide +kernel, rfl, by decide +kernel, by decide +kernel⟩
theorem sc_pass_minute : FnScope ["stand", "rooms", "room", "later", "leaked", "pumped"] ["stand"] (defScope s_pass_minute) := ⟨rfl, rfl, rfl, by decide +kernel, rfl, by decide +kernel, by decide +kernel⟩
theorem sc_is_place : FnScope ["place"] ["place"] (defScope s_is_place) := ⟨rfl, rfl, rfl, by decide +kernel, rfl, by decide +kernel, by decide +kernel⟩
theorem sc_is_within : FnScope ["number", "least", "most"] ["number", "least", "most"] (defScope s_is_within) := ⟨rfl, rfl, rfl, by decide +kernel, rfl, by decide +kernel, by decide +kernel⟩
theorem sc_refused : FnScope ["number"] ["number"] (defScope s_refused) := ⟨rfl, rfl, rfl, by decide +kernel, rfl, by decide +kernel, by decide +kernel⟩
theorem sc_put_room : FnScope ["stand", "numbers", "most", "place", "leak", "later"] ["stand", "numbers"] (defScope s_put_room) := ⟨rfl, rfl, rfl, by decide +kernel, rfl, by decide +kernel, by decide +kernel⟩
theorem sc_put_line : FnScope ["stand", "numbers", "place", "kg", "later", "line"] ["stand", "numbers"] (defScope s_put_line) := ⟨rfl, rfl, rfl, by decide +kernel, rfl, by decide +kernel, by decide +kernel⟩
theorem sc_patch : FnScope ["stand", "numbers", "k", "room", "later"] ["stand", "numbers"] (defScope s_patch) := ⟨rfl, rfl, rfl, by decide +kernel, rfl, by decide +kernel, by decide +kernel⟩
theorem sc_pump : FnScope ["stand", "numbers", "k", "rate", "room", "later"] ["stand", "numbers"] (defScope s_pump) := ⟨rfl, rfl, rfl, by decide +kernel, rfl, by decide +kernel, by decide +kernel⟩
theorem sc_hook : FnScope ["stand", "numbers", "k", "on", "place", "kg", "hooked", "later"] ["stand", "numbers"] (defScope s_hook) := ⟨rfl, rfl, rfl, by decide +kernel, rfl, by decide +kernel, by decide +kernel⟩
theorem sc_minutes : FnScope ["stand", "numbers", "many", "later", "turn"] ["stand", "numbers"] (defScope s_minutes) := ⟨rfl, rfl, rfl, by decide +kernel, rfl, by decide +kernel, by decide +kernel⟩
theorem sc_haul : FnScope ["stand", "numbers", "metres", "later"] ["stand", "numbers"] (defScope s_haul) := ⟨rfl, rfl, rfl, by decide +kernel, rfl, by decide +kernel, by decide +kernel⟩
theorem sc_lower : FnScope ["stand", "numbers", "metres", "later"] ["stand", "numbers"] (defScope s_lower) := ⟨rfl, rfl, rfl, by decide +kernel, rfl, by decide +kernel, by decide +kernel⟩
theorem sc_has_bit : FnScope ["bits", "k"] ["bits", "k"] (defScope s_has_bit) := ⟨rfl, rfl, rfl, by decide +kernel, rfl, by decide +kernel, by decide +kernel⟩
theorem sc_chosen : FnScope ["things", "bits", "k"] ["things", "bits"] (defScope s_chosen) := ⟨rfl, rfl, rfl, by decide +kernel, rfl, by decide +kernel, by decide +kernel⟩
theorem sc_dried : FnScope ["rooms", "bits", "k"] ["rooms", "bits"] (defScope s_dried) := ⟨rfl, rfl, rfl, by decide +kernel, rfl, by decide +kernel, by decide +kernel⟩
theorem sc_hangs_dried : FnScope ["stand", "bits"] ["stand", "bits"] (defScope s_hangs_dried) := ⟨rfl, rfl, rfl, by decide +kernel, rfl, by decide +kernel, by decide +kernel⟩
theorem sc_least_work : FnScope ["stand", "best", "bits", "litres"] ["stand"] (defScope s_least_work) := ⟨rfl, rfl, rfl, by decide +kernel, rfl, by decide +kernel, by decide +kernel⟩
theorem sc_fewest_lines : FnScope ["stand", "best", "bits", "lines"] ["stand"] (defScope s_fewest_lines) := ⟨rfl, rfl, rfl, by decide +kernel, rfl, by decide +kernel, by decide +kernel⟩
theorem sc_tell_can : FnScope ["stand", "numbers", "left"] ["stand", "numbers"] (defScope s_tell_can) := ⟨rfl, rfl, rfl, by decide +kernel, rfl, by decide +kernel, by decide +kernel⟩
theorem sc_tell_net : FnScope ["stand", "numbers"] ["stand", "numbers"] (defScope s_tell_net) := ⟨rfl, rfl, rfl, by decide +kernel, rfl, by decide +kernel, by decide +kernel⟩
theorem sc_tell_bears : FnScope ["stand", "numbers", "lines", "line"] ["stand", "numbers"] (defScope s_tell_bears) := ⟨rfl, rfl, rfl, by decide +kernel, rfl, by decide +kernel, by decide +kernel⟩
theorem sc_tell_pull : FnScope ["stand", "numbers", "k", "places", "place", "grams"] ["stand", "numbers"] (defScope s_tell_pull) := ⟨rfl, rfl, rfl, by decide +kernel, rfl, by decide +kernel, by decide +kernel⟩
theorem sc_tell_pulls : FnScope ["stand", "numbers", "pulls"] ["stand", "numbers"] (defScope s_tell_pulls) := ⟨rfl, rfl, rfl, by decide +kernel, rfl, by decide +kernel, by decide +kernel⟩
theorem sc_tell_range : FnScope ["stand", "numbers", "loads", "left"] ["stand", "numbers"] (defScope s_tell_range) := ⟨rfl, rfl, rfl, by decide +kernel, rfl, by decide +kernel, by decide +kernel⟩
theorem sc_tell_work : FnScope ["stand", "numbers", "found"] ["stand", "numbers"] (defScope s_tell_work) := ⟨rfl, rfl, rfl, by decide +kernel, rfl, by decide +kernel, by decide +kernel⟩
theorem sc_tell_would : FnScope ["stand", "numbers", "bits"] ["stand", "numbers"] (defScope s_tell_would) := ⟨rfl, rfl, rfl, by decide +kernel, rfl, by decide +kernel, by decide +kernel⟩
theorem sc_tell_few : FnScope ["stand", "numbers", "found"] ["stand", "numbers"] (defScope s_tell_few) := ⟨rfl, rfl, rfl, by decide +kernel, rfl, by decide +kernel, by decide +kernel⟩
theorem sc_tell_without : FnScope ["stand", "numbers", "k", "others", "j"] ["stand", "numbers"] (defScope s_tell_without) := ⟨rfl, rfl, rfl, by decide +kernel, rfl, by decide +kernel, by decide +kernel⟩
theorem sc_tell_dry : FnScope ["stand", "numbers", "k", "found"] ["stand", "numbers"] (defScope s_tell_dry) := ⟨rfl, rfl, rfl, by decide +kernel, rfl, by decide +kernel, by decide +kernel⟩
theorem sc_tell_look : FnScope ["stand", "numbers", "k", "most", "place", "leak", "patched", "rate", "water"] ["stand", "numbers"] (defScope s_tell_look) := ⟨rfl, rfl, rfl, by decide +kernel, rfl, by decide +kernel, by decide +kernel⟩
theorem sc_tell_see : FnScope ["stand", "numbers", "k", "place", "kg", "hooked"] ["stand", "numbers"] (defScope s_tell_see) := ⟨rfl, rfl, rfl, by decide +kernel, rfl, by decide +kernel, by decide +kernel⟩
theorem sc_tell_lifts : FnScope ["stand", "numbers", "k"] ["stand", "numbers"] (defScope s_tell_lifts) := ⟨rfl, rfl, rfl, by decide +kernel, rfl, by decide +kernel, by decide +kernel⟩
theorem sc_tell_here : FnScope ["stand", "numbers"] ["stand", "numbers"] (defScope s_tell_here) := ⟨rfl, rfl, rfl, by decide +kernel, rfl, by decide +kernel, by decide +kernel⟩
theorem sc_tell_water : FnScope ["stand", "numbers", "first", "room"] ["stand", "numbers"] (defScope s_tell_water) := ⟨rfl, rfl, rfl, by decide +kernel, rfl, by decide +kernel, by decide +kernel⟩
theorem sc_patched_bits : FnScope ["rooms", "bits", "k"] ["rooms"] (defScope s_patched_bits) := ⟨rfl, rfl, rfl, by decide +kernel, rfl, by decide +kernel, by decide +kernel⟩
theorem sc_Desk_init : FnScope ["self"] ["self"] (defScope s_Desk_init) := ⟨rfl, rfl, rfl, by decide +kernel, rfl, by decide +kernel, by decide +kernel⟩
theorem sc_Desk_start : FnScope ["self", "numbers", "kg", "place", "tilt", "depth"] ["self", "numbers"] (defScope s_Desk_start) := ⟨rfl, rfl, rfl, by decide +kernel, rfl, by decide +kernel, by decide +kernel⟩
theorem sc_Desk_go_on : FnScope ["self", "later"] ["self", "later"] (defScope s_Desk_go_on) := ⟨rfl, rfl, rfl, by decide +kernel, rfl, by decide +kernel, by decide +kernel⟩
theorem sc_Desk_take_back : FnScope ["self"] ["self"] (defScope s_Desk_take_back) := ⟨rfl, rfl, rfl, by decide +kernel, rfl, by decide +kernel, by decide +kernel⟩
theorem sc_Desk_do_again : FnScope ["self"] ["self"] (defScope s_Desk_do_again) := ⟨rfl, rfl, rfl, by decide +kernel, rfl, by decide +kernel, by decide +kernel⟩
theorem sc_Desk_tell_state : FnScope ["self", "stand"] ["self"] (defScope s_Desk_tell_state) := ⟨rfl, rfl, rfl, by decide +kernel, rfl, by decide +kernel, by decide +kernel⟩
theorem sc_changed : FnScope ["desk", "word", "numbers", "change", "found", "later"] ["desk", "word", "numbers"] (defScope s_changed) := ⟨rfl, rfl, rfl, by decide +kernel, rfl, by decide +kernel, by decide +kernel⟩
theorem sc_looked : FnScope ["desk", "word", "numbers", "look"] ["desk", "word", "numbers"] (defScope s_looked) := ⟨rfl, rfl, rfl, by decide +kernel, rfl, by decide +kernel, by decide +kernel⟩
theorem sc_answered : FnScope ["desk", "word", "numbers"] ["desk", "word", "numbers"] (defScope s_answered) := ⟨rfl, rfl, rfl, by decide +kernel, rfl, by decide +kernel, by decide +kernel⟩
theorem sc_answers : FnScope ["calls", "desk", "told", "at", "word", "behind", "found"] ["calls"] (defScope s_answers) := ⟨rfl, rfl, rfl, by decide +kernel, rfl, by decide +kernel, by decide +kernel⟩
/-! ## The facts -/
def d_new_room : He.DefD := ⟨("new_room", none), "new_room", "new_room", defArgs s_new_room, defBody s_new_room, defScope s_new_room, [], []⟩
def d_patched_room : He.DefD := ⟨("patched_room", none), "patched_room", "patched_room", defArgs s_patched_room, defBody s_patched_room, defScope s_patched_room, [], []⟩
def d_pumped_room : He.DefD := ⟨("pumped_room", none), "pumped_room", "pumped_room", defArgs s_pumped_room, defBody s_pumped_room, defScope s_pumped_room, [], []⟩
def d_room_with : He.DefD := ⟨("room_with", none), "room_with", "room_with", defArgs s_room_with, defBody s_room_with, defScope s_room_with, [], []⟩
def d_water_in : He.DefD := ⟨("water_in", none), "water_in", "water_in", defArgs s_water_in, defBody s_water_in, defScope s_water_in, [], []⟩
def d_air_grams : He.DefD := ⟨("air_grams", none), "air_grams", "air_grams", defArgs s_air_grams, defBody s_air_grams, defScope s_air_grams, [], []⟩
def d_leaking_in : He.DefD := ⟨("leaking_in", none), "leaking_in", "leaking_in", defArgs s_leaking_in, defBody s_leaking_in, defScope s_leaking_in, [], []⟩
def d_after_minute : He.DefD := ⟨("after_minute", none), "after_minute", "after_minute", defArgs s_after_minute, defBody s_after_minute, defScope s_after_minute, [], []⟩
def d_minutes_till_dry : He.DefD := ⟨("minutes_till_dry", none), "minutes_till_dry", "minutes_till_dry", defArgs s_minutes_till_dry, defBody s_minutes_till_dry, defScope s_minutes_till_dry, [], []⟩
def d_borne : He.DefD := ⟨("borne", none), "borne", "borne", defArgs s_borne, defBody s_borne, defScope s_borne, [], []⟩
def d_poured : He.DefD := ⟨("poured", none), "poured", "poured", defArgs s_poured, defBody s_poured, defScope s_poured, [], []⟩
def d_poured_back : He.DefD := ⟨("poured_back", none), "poured_back", "poured_back", defArgs s_poured_back, defBody s_poured_back, defScope s_poured_back, [], []⟩
def d_moment_of : He.DefD := ⟨("moment_of", none), "moment_of", "moment_of", defArgs s_moment_of, defBody s_moment_of, defScope s_moment_of, [], []⟩
def d_least_moment : He.DefD := ⟨("least_moment", none), "least_moment", "least_moment", defArgs s_least_moment, defBody s_least_moment, defScope s_least_moment, [], []⟩
def d_greatest_moment : He.DefD := ⟨("greatest_moment", none), "greatest_moment", "greatest_moment", defArgs s_greatest_moment, defBody s_greatest_moment, defScope s_greatest_moment, [], []⟩
def d_can_hang : He.DefD := ⟨("can_hang", none), "can_hang", "can_hang", defArgs s_can_hang, defBody s_can_hang, defScope s_can_hang, [], []⟩
def d_first_pulling : He.DefD := ⟨("first_pulling", none), "first_pulling", "first_pulling", defArgs s_first_pulling, defBody s_first_pulling, defScope s_first_pulling, [], []⟩
def d_last_bearing : He.DefD := ⟨("last_bearing", none), "last_bearing", "last_bearing", defArgs s_last_bearing, defBody s_last_bearing, defScope s_last_bearing, [], []⟩
def d_to_move : He.DefD := ⟨("to_move", none), "to_move", "to_move", defArgs s_to_move, defBody s_to_move, defScope s_to_move, [], []⟩
def d_level_pulls : He.DefD := ⟨("level_pulls", none), "level_pulls", "level_pulls", defArgs s_level_pulls, defBody s_level_pulls, defScope s_level_pulls, [], []⟩
def d_Stand_init : He.DefD := ⟨("Stand", some "__init__"), "__init__", "Stand.__init__", defArgs s_Stand_init, defBody s_Stand_init, defScope s_Stand_init, [], []⟩
def d_twin : He.DefD := ⟨("twin", none), "twin", "twin", defArgs s_twin, defBody s_twin, defScope s_twin, [], []⟩
def d_left_with : He.DefD := ⟨("left_with", none), "left_with", "left_with", defArgs s_left_with, defBody s_left_with, defScope s_left_with, [], []⟩
def d_moment_with : He.DefD := ⟨("moment_with", none), "moment_with", "moment_with", defArgs s_moment_with, defBody s_moment_with, defScope s_moment_with, [], []⟩
def d_left_of : He.DefD := ⟨("left_of", none), "left_of", "left_of", defArgs s_left_of, defBody s_left_of, defScope s_left_of, [], []⟩
def d_moment_now : He.DefD := ⟨("moment_now", none), "moment_now", "moment_now", defArgs s_moment_now, defBody s_moment_now, defScope s_moment_now, [], []⟩
def d_told_moment : He.DefD := ⟨("told_moment", none), "told_moment", "told_moment", defArgs s_told_moment, defBody s_told_moment, defScope s_told_moment, [], []⟩
def d_loads_of : He.DefD := ⟨("loads_of", none), "loads_of", "loads_of", defArgs s_loads_of, defBody s_loads_of, defScope s_loads_of, [], []⟩
def d_hooked_lines : He.DefD := ⟨("hooked_lines", none), "hooked_lines", "hooked_lines", defArgs s_hooked_lines, defBody s_hooked_lines, defScope s_hooked_lines, [], []⟩
def d_hooked_loads : He.DefD := ⟨("hooked_loads", none), "hooked_loads", "hooked_loads", defArgs s_hooked_loads, defBody s_hooked_loads, defScope s_hooked_loads, [], []⟩
def d_hangs_with : He.DefD := ⟨("hangs_with", none), "hangs_with", "hangs_with", defArgs s_hangs_with, defBody s_hangs_with, defScope s_hangs_with, [], []⟩
def d_hangs : He.DefD := ⟨("hangs", none), "hangs", "hangs", defArgs s_hangs, defBody s_hangs, defScope s_hangs, [], []⟩
def d_pulls_now : He.DefD := ⟨("pulls_now", none), "pulls_now", "pulls_now", defArgs s_pulls_now, defBody s_pulls_now, defScope s_pulls_now, [], []⟩
def d_pass_minute : He.DefD := ⟨("pass_minute", none), "pass_minute", "pass_minute", defArgs s_pass_minute, defBody s_pass_minute, defScope s_pass_minute, [], []⟩
def d_is_place : He.DefD := ⟨("is_place", none), "is_place", "is_place", defArgs s_is_place, defBody s_is_place, defScope s_is_place, [], []⟩
def d_is_within : He.DefD := ⟨("is_within", none), "is_within", "is_within", defArgs s_is_within, defBody s_is_within, defScope s_is_within, [], []⟩
def d_refused : He.DefD := ⟨("refused", none), "refused", "refused", defArgs s_refused, defBody s_refused, defScope s_refused, [], []⟩
def d_put_room : He.DefD := ⟨("put_room", none), "put_room", "put_room", defArgs s_put_room, defBody s_put_room, defScope s_put_room, [], []⟩
def d_put_line : He.DefD := ⟨("put_line", none), "put_line", "put_line", defArgs s_put_line, defBody s_put_line, defScope s_put_line, [], []⟩
def d_patch : He.DefD := ⟨("patch", none), "patch", "patch", defArgs s_patch, defBody s_patch, defScope s_patch, [], []⟩
def d_pump : He.DefD := ⟨("pump", none), "pump", "pump", defArgs s_pump, defBody s_pump, defScope s_pump, [], []⟩
def d_hook : He.DefD := ⟨("hook", none), "hook", "hook", defArgs s_hook, defBody s_hook, defScope s_hook, [], []⟩
def d_minutes : He.DefD := ⟨("minutes", none), "minutes", "minutes", defArgs s_minutes, defBody s_minutes, defScope s_minutes, [], []⟩
def d_haul : He.DefD := ⟨("haul", none), "haul", "haul", defArgs s_haul, defBody s_haul, defScope s_haul, [], []⟩
def d_lower : He.DefD := ⟨("lower", none), "lower", "lower", defArgs s_lower, defBody s_lower, defScope s_lower, [], []⟩
def d_has_bit : He.DefD := ⟨("has_bit", none), "has_bit", "has_bit", defArgs s_has_bit, defBody s_has_bit, defScope s_has_bit, [], []⟩
def d_chosen : He.DefD := ⟨("chosen", none), "chosen", "chosen", defArgs s_chosen, defBody s_chosen, defScope s_chosen, [], []⟩
def d_dried : He.DefD := ⟨("dried", none), "dried", "dried", defArgs s_dried, defBody s_dried, defScope s_dried, [], []⟩
def d_hangs_dried : He.DefD := ⟨("hangs_dried", none), "hangs_dried", "hangs_dried", defArgs s_hangs_dried, defBody s_hangs_dried, defScope s_hangs_dried, [], []⟩
def d_least_work : He.DefD := ⟨("least_work", none), "least_work", "least_work", defArgs s_least_work, defBody s_least_work, defScope s_least_work, [], []⟩
def d_fewest_lines : He.DefD := ⟨("fewest_lines", none), "fewest_lines", "fewest_lines", defArgs s_fewest_lines, defBody s_fewest_lines, defScope s_fewest_lines, [], []⟩
def d_tell_can : He.DefD := ⟨("tell_can", none), "tell_can", "tell_can", defArgs s_tell_can, defBody s_tell_can, defScope s_tell_can, [], []⟩
def d_tell_net : He.DefD := ⟨("tell_net", none), "tell_net", "tell_net", defArgs s_tell_net, defBody s_tell_net, defScope s_tell_net, [], []⟩
def d_tell_bears : He.DefD := ⟨("tell_bears", none), "tell_bears", "tell_bears", defArgs s_tell_bears, defBody s_tell_bears, defScope s_tell_bears, [], []⟩
def d_tell_pull : He.DefD := ⟨("tell_pull", none), "tell_pull", "tell_pull", defArgs s_tell_pull, defBody s_tell_pull, defScope s_tell_pull, [], []⟩
def d_tell_pulls : He.DefD := ⟨("tell_pulls", none), "tell_pulls", "tell_pulls", defArgs s_tell_pulls, defBody s_tell_pulls, defScope s_tell_pulls, [], []⟩
def d_tell_range : He.DefD := ⟨("tell_range", none), "tell_range", "tell_range", defArgs s_tell_range, defBody s_tell_range, defScope s_tell_range, [], []⟩
def d_tell_work : He.DefD := ⟨("tell_work", none), "tell_work", "tell_work", defArgs s_tell_work, defBody s_tell_work, defScope s_tell_work, [], []⟩
def d_tell_would : He.DefD := ⟨("tell_would", none), "tell_would", "tell_would", defArgs s_tell_would, defBody s_tell_would, defScope s_tell_would, [], []⟩
def d_tell_few : He.DefD := ⟨("tell_few", none), "tell_few", "tell_few", defArgs s_tell_few, defBody s_tell_few, defScope s_tell_few, [], []⟩
def d_tell_without : He.DefD := ⟨("tell_without", none), "tell_without", "tell_without", defArgs s_tell_without, defBody s_tell_without, defScope s_tell_without, [], []⟩
def d_tell_dry : He.DefD := ⟨("tell_dry", none), "tell_dry", "tell_dry", defArgs s_tell_dry, defBody s_tell_dry, defScope s_tell_dry, [], []⟩
def d_tell_look : He.DefD := ⟨("tell_look", none), "tell_look", "tell_look", defArgs s_tell_look, defBody s_tell_look, defScope s_tell_look, [], []⟩
def d_tell_see : He.DefD := ⟨("tell_see", none), "tell_see", "tell_see", defArgs s_tell_see, defBody s_tell_see, defScope s_tell_see, [], []⟩
def d_tell_lifts : He.DefD := ⟨("tell_lifts", none), "tell_lifts", "tell_lifts", defArgs s_tell_lifts, defBody s_tell_lifts, defScope s_tell_lifts, [], []⟩
def d_tell_here : He.DefD := ⟨("tell_here", none), "tell_here", "tell_here", defArgs s_tell_here, defBody s_tell_here, defScope s_tell_here, [], []⟩
def d_tell_water : He.DefD := ⟨("tell_water", none), "tell_water", "tell_water", defArgs s_tell_water, defBody s_tell_water, defScope s_tell_water, [], []⟩
def d_patched_bits : He.DefD := ⟨("patched_bits", none), "patched_bits", "patched_bits", defArgs s_patched_bits, defBody s_patched_bits, defScope s_patched_bits, [], []⟩
def d_Desk_init : He.DefD := ⟨("Desk", some "__init__"), "__init__", "Desk.__init__", defArgs s_Desk_init, defBody s_Desk_init, defScope s_Desk_init, [], []⟩
def d_Desk_start : He.DefD := ⟨("Desk", some "start"), "start", "Desk.start", defArgs s_Desk_start, defBody s_Desk_start, defScope s_Desk_start, [], []⟩
def d_Desk_go_on : He.DefD := ⟨("Desk", some "go_on"), "go_on", "Desk.go_on", defArgs s_Desk_go_on, defBody s_Desk_go_on, defScope s_Desk_go_on, [], []⟩
def d_Desk_take_back : He.DefD := ⟨("Desk", some "take_back"), "take_back", "Desk.take_back", defArgs s_Desk_take_back, defBody s_Desk_take_back, defScope s_Desk_take_back, [], []⟩
def d_Desk_do_again : He.DefD := ⟨("Desk", some "do_again"), "do_again", "Desk.do_again", defArgs s_Desk_do_again, defBody s_Desk_do_again, defScope s_Desk_do_again, [], []⟩
def d_Desk_tell_state : He.DefD := ⟨("Desk", some "tell_state"), "tell_state", "Desk.tell_state", defArgs s_Desk_tell_state, defBody s_Desk_tell_state, defScope s_Desk_tell_state, [], []⟩
def d_changed : He.DefD := ⟨("changed", none), "changed", "changed", defArgs s_changed, defBody s_changed, defScope s_changed, [], []⟩
def d_looked : He.DefD := ⟨("looked", none), "looked", "looked", defArgs s_looked, defBody s_looked, defScope s_looked, [], []⟩
def d_answered : He.DefD := ⟨("answered", none), "answered", "answered", defArgs s_answered, defBody s_answered, defScope s_answered, [], []⟩
def d_answers : He.DefD := ⟨("answers", none), "answers", "answers", defArgs s_answers, defBody s_answers, defScope s_answers, [], []⟩
def fnL : List He.DefD := [d_new_room, d_patched_room, d_pumped_room, d_room_with, d_water_in, d_air_grams, d_leaking_in, d_after_minute, d_minutes_till_dry, d_borne, d_poured, d_poured_back, d_moment_of, d_least_moment, d_greatest_moment, d_can_hang, d_first_pulling, d_last_bearing, d_to_move, d_level_pulls, d_Stand_init, d_twin, d_left_with, d_moment_with, d_left_of, d_moment_now, d_told_moment, d_loads_of, d_hooked_lines, d_hooked_loads, d_hangs_with, d_hangs, d_pulls_now, d_pass_minute, d_is_place, d_is_within, d_refused, d_put_room, d_put_line, d_patch, d_pump, d_hook, d_minutes, d_haul, d_lower, d_has_bit, d_chosen, d_dried, d_hangs_dried, d_least_work, d_fewest_lines, d_tell_can, d_tell_net, d_tell_bears, d_tell_pull, d_tell_pulls, d_tell_range, d_tell_work, d_tell_would, d_tell_few, d_tell_without, d_tell_dry, d_tell_look, d_tell_see, d_tell_lifts, d_tell_here, d_tell_water, d_patched_bits, d_Desk_init, d_Desk_start, d_Desk_go_on, d_Desk_take_back, d_Desk_do_again, d_Desk_tell_state, d_changed, d_looked, d_answered, d_answers]
def faL0 : List He.Fa := [.glo "new_room", .glo "patched_room", .glo "pumped_room", .glo "room_with", .glo "water_in", .glo "air_grams", .glo "leaking_in", .glo "after_minute", .glo "minutes_till_dry", .glo "borne", .glo "poured", .glo "poured_back", .glo "moment_of", .glo "least_moment", .glo "greatest_moment", .glo "can_hang", .glo "first_pulling", .glo "last_bearing", .glo "to_move", .glo "level_pulls", .glo "twin", .glo "left_with", .glo "moment_with", .glo "left_of", .glo "moment_now", .glo "told_moment", .glo "loads_of", .glo "hooked_lines", .glo "hooked_loads", .glo "hangs_with", .glo "hangs", .glo "pulls_now", .glo "pass_minute", .glo "is_place", .glo "is_within", .glo "refused", .glo "put_room", .glo "put_line", .glo "patch", .glo "pump"]
def faL1 : List He.Fa := [.glo "hook", .glo "minutes", .glo "haul", .glo "lower", .glo "has_bit", .glo "chosen", .glo "dried", .glo "hangs_dried", .glo "least_work", .glo "fewest_lines", .glo "tell_can", .glo "tell_net", .glo "tell_bears", .glo "tell_pull", .glo "tell_pulls", .glo "tell_range", .glo "tell_work", .glo "tell_would", .glo "tell_few", .glo "tell_without", .glo "tell_dry", .glo "tell_look", .glo "tell_see", .glo "tell_lifts", .glo "tell_here", .glo "tell_water", .glo "patched_bits", .glo "changed", .glo "looked", .glo "answered", .glo "answers", .glo "Stand", .cls "Stand", .mkr "Stand", .glo "Desk", .cls "Desk", .mkr "Desk", .glo "CHANGES", .glo "LOOKS", .glo "SIZES"]
def faL2 : List He.Fa := [.int "LIFT" (1025), .int "LONGEST" (1440), .int "GRAMS" (1000), .int "TOLD" (100000), .int "MORE" (1000000000), .int "FARTHEST" (5000), .int "MOST_ROOMS" (6), .int "MOST_LINES_changes" (4), .int "MOST_MINUTES" (1440), .int "LAST_MINUTE" (100000), .int "MORE_KG" (10000000), .int "MORE_PLACE" (5000), .int "MOST_LINES_looks" (4), .int "MOST_BACK" (30), .int "START" (0), .int "BACK" (25), .int "AGAIN" (26), .int "STATE" (27), .free "sum", .free "min", .free "max", .free "range", .free "len", .free "sorted", .free "list", .free "int", .noat "Stand" "kg", .noat "Stand" "place", .noat "Stand" "tilt", .noat "Stand" "depth", .noat "Stand" "rooms", .noat "Stand" "lines", .noat "Stand" "minute", .noat "Stand" "height", .noat "Stand" "drops", .noat "Stand" "leaked", .noat "Stand" "pumped", .noat "Desk" "stand", .noat "Desk" "ahead", .noat "Desk" "gone"]
def faL3 : List He.Fa := [.meth "Desk" "start", .meth "Desk" "go_on", .meth "Desk" "take_back", .meth "Desk" "do_again", .meth "Desk" "tell_state"]
def faL : List He.Fa := faL0 ++ faL1 ++ faL2 ++ faL3
/-! ### a dict of the top with int keys, whose values are the module's defs -/
def entB (K : PySem.W.Frag) : List DictEntry → List (Int × Str) → Bool
  | [], [] => true
  | e :: es, p :: ps => Value.isInt p.1 e.key && (decide (e.hash = hashInt p.1) && (He.relB (.ref (He.ga K p.2)) e.val && entB K es ps))
  | _, _ => false
def tabB (K : PySem.W.Frag) (x : Str) (ps : List (Int × Str)) : Bool := match K.lookup (He.ga K x) with
  | some ⟨.type c, none, .dict es _, sl⟩ => decide (c = "dict") && (sl.isEmpty && ((!(He.ga K x == sysModules)) && entB K es.toList ps))
  | _ => false
def chgL : List (Int × Str) := [(1, "put_room"), (2, "put_line"), (3, "patch"), (4, "pump"), (5, "hook"), (6, "minutes"), (7, "haul"), (8, "lower")]
def lookL : List (Int × Str) := [(9, "tell_can"), (10, "tell_net"), (11, "tell_bears"), (12, "tell_pull"), (13, "tell_pulls"), (14, "tell_range"), (15, "tell_work"), (16, "tell_would"), (17, "tell_few"), (18, "tell_without"), (19, "tell_dry"), (20, "tell_look"), (21, "tell_see"), (22, "tell_lifts"), (23, "tell_here"), (24, "tell_water")]
def sizeL : List He.Dv := [.int 4, .int 3, .int 2, .int 1, .int 2, .int 2, .int 1, .int 1, .int 1, .int 0, .int 0, .int 0, .int 1, .int 0, .int 0, .int 0, .int 1, .int 0, .int 1, .int 1, .int 1, .int 1, .int 1, .int 0, .int 0, .int 0, .int 0, .int 0]
def exB (K : PySem.W.Frag) : Bool := tabB K "CHANGES" chgL && (tabB K "LOOKS" lookL && He.tupB K "SIZES" sizeL)
abbrev AlM : Type := He.AlD × Bool
def obsM (K : PySem.W.Frag) : AlM := (He.obsD faL fnL K, exB K)
def valM : AlM := (He.valD fnL, true)
def SaysM (K : PySem.W.Frag) : Prop := obsM K = valM
end Wr
/-! ### part: Pure -/
set_option Elab.async false
set_option linter.all false
set_option maxRecDepth 10000
/-! # The plain law, with no program in sight: what the program's functions reckon is what Km420 asks -/
namespace Wr
open Km420 (Room Line Wreck)

/-! ## The state as the program has it -/
structure Ln where
  at_ : Int
  kg : Nat
  on_ : Bool
def Ln.l (x : Ln) : Line := ⟨x.at_, 1000 * x.kg, x.on_⟩
structure Sd where
  kg : Nat
  at_ : Int
  tilt : Nat
  depth : Nat
  rooms : List Room
  lines : List Ln
  minute : Nat
  height : Nat
  drops : Nat
  leaked : Nat
  pumped : Nat
def Sd.w (s : Sd) : Wreck := ⟨1000 * s.kg, s.at_, 100000 * s.tilt, s.depth, s.rooms, s.lines.map Ln.l, s.minute, s.height, s.drops, Km420.sum (s.rooms.map Room.most), s.leaked, s.pumped⟩
structure RoomOk (r : Room) : Prop where
  most : r.most ≤ 200000
  at1 : -5000 ≤ r.at_
  at2 : r.at_ ≤ 5000
  water : r.water ≤ r.most
structure LnOk (x : Ln) : Prop where
  at1 : -5000 ≤ x.at_
  at2 : x.at_ ≤ 5000
  kg : x.kg ≤ 500000
structure Good (s : Sd) : Prop where
  kg : s.kg ≤ 1000000
  at1 : -5000 ≤ s.at_
  at2 : s.at_ ≤ 5000
  tilt : s.tilt ≤ 100000
  rn : s.rooms.length ≤ 6
  ln : s.lines.length ≤ 4
  rooms : ∀ r ∈ s.rooms, RoomOk r
  lines : ∀ x ∈ s.lines, LnOk x
  nd : (s.lines.map Ln.at_).Nodup

/-! ## Sums -/
theorem foldl_add_nat : ∀ (l : List Nat) (a : Nat), l.foldl (· + ·) a = a + Km420.sum l
  | [], a => rfl
  | x :: r, a => by
    show r.foldl (· + ·) (a + x) = a + r.foldl (· + ·) (0 + x)
    rw [foldl_add_nat r (a + x), foldl_add_nat r (0 + x)]
    omega
theorem foldl_add_int : ∀ (l : List Int) (a : Int), l.foldl (· + ·) a = a + Km420.total l
  | [], a => by
    show a = a + 0
    omega
  | x :: r, a => by
    show r.foldl (· + ·) (a + x) = a + r.foldl (· + ·) (0 + x)
    rw [foldl_add_int r (a + x), foldl_add_int r (0 + x)]
    omega
theorem sum_nil : Km420.sum [] = 0 := rfl
theorem sum_cons (x : Nat) (r : List Nat) : Km420.sum (x :: r) = x + Km420.sum r := by
  show r.foldl (· + ·) (0 + x) = _
  rw [foldl_add_nat]
  omega
theorem total_nil : Km420.total [] = 0 := rfl
theorem total_cons (x : Int) (r : List Int) : Km420.total (x :: r) = x + Km420.total r := by
  show r.foldl (· + ·) (0 + x) = _
  rw [foldl_add_int]
  omega
theorem sum_app (l r : List Nat) : Km420.sum (l ++ r) = Km420.sum l + Km420.sum r := by
  induction l with
  | nil => rw [List.nil_append, sum_nil]; omega
  | cons x l ih => rw [List.cons_append, sum_cons, sum_cons, ih]; omega
theorem total_app (l r : List Int) : Km420.total (l ++ r) = Km420.total l + Km420.total r := by
  induction l with
  | nil => rw [List.nil_append, total_nil]; omega
  | cons x l ih => rw [List.cons_append, total_cons, total_cons, ih]; omega
/-- Python's sum of ints (List.sum) -/
theorem sum_total : ∀ l : List Int, l.sum = Km420.total l
  | [] => rfl
  | x :: r => by rw [List.sum_cons, total_cons, sum_total r]
theorem sum_cast {α : Type} (f : α → Nat) : ∀ l : List α, (l.map fun x => ((f x : Nat) : Int)).sum = ((Km420.sum (l.map f) : Nat) : Int)
  | [] => rfl
  | x :: r => by
    rw [List.map_cons, List.map_cons, List.sum_cons, sum_cons, sum_cast f r]
    omega

/-! ## Air, weights, moments -/
theorem air_eq {r : Room} (h : r.water ≤ r.most) : (1025 : Int) * ((r.most : Int) - r.water) = ((r.lifts : Nat) : Int) := by
  unfold Room.lifts Km420.SALT
  omega
def netOf (s : Sd) (rooms : List Room) : Int := ((1000 * s.kg : Nat) : Int) - ((Km420.sum (rooms.map Room.lifts) : Nat) : Int)
def momOf (s : Sd) (rooms : List Room) : Int := ((1000 * s.kg : Nat) : Int) * s.at_ - Km420.total (rooms.map fun r => (r.lifts : Int) * r.at_)
theorem net_now (s : Sd) : netOf s s.rooms = s.w.net := rfl
theorem mom_now (s : Sd) : momOf s s.rooms = s.w.moment := rfl

/-! ## What lines bear -/
def strip (l : Line) : Int × Nat := (l.at_, l.most)
theorem bears_strip : ∀ {l m : List Line}, l.map strip = m.map strip → Km420.bears l = Km420.bears m
  | [], [], _ => rfl
  | [], _ :: _, h => by cases h
  | _ :: _, [], h => by cases h
  | a :: l, b :: m, h => by
    obtain ⟨h1, h2⟩ := List.cons.inj (show strip a :: l.map strip = strip b :: m.map strip from h)
    have e : a.most = b.most := congrArg Prod.snd h1
    have ih := bears_strip h2
    unfold Km420.bears at ih ⊢
    rw [List.map_cons, List.map_cons, sum_cons, sum_cons, ih, e]
theorem fills_strip : ∀ {l m : List Line} (n : Nat), l.map strip = m.map strip → Km420.fills l n = Km420.fills m n
  | [], [], _, _ => rfl
  | [], _ :: _, _, h => by cases h
  | _ :: _, [], _, h => by cases h
  | a :: l, b :: m, n, h => by
    obtain ⟨h1, h2⟩ := List.cons.inj (show strip a :: l.map strip = strip b :: m.map strip from h)
    have e : a.most = b.most := congrArg Prod.snd h1
    show min a.most n :: Km420.fills l (n - min a.most n) = min b.most n :: Km420.fills m (n - min b.most n)
    rw [e, fills_strip _ h2]
theorem momentOf_strip : ∀ {l m : List Line} (t : List Nat), l.map strip = m.map strip → Km420.momentOf l t = Km420.momentOf m t
  | [], [], _, _ => rfl
  | [], _ :: _, _, h => by cases h
  | _ :: _, [], _, h => by cases h
  | a :: l, b :: m, [], h => rfl
  | a :: l, b :: m, x :: t, h => by
    obtain ⟨h1, h2⟩ := List.cons.inj (show strip a :: l.map strip = strip b :: m.map strip from h)
    have e : a.at_ = b.at_ := congrArg Prod.fst h1
    have ih := momentOf_strip t h2
    unfold Km420.momentOf at ih ⊢
    rw [List.zip_cons_cons, List.zip_cons_cons, List.map_cons, List.map_cons, total_cons, total_cons, ih]
    show (x : Int) * a.at_ + _ = (x : Int) * b.at_ + _
    rw [e]
theorem hangs_strip {l m : List Line} (h : l.map strip = m.map strip) (n mo : Int) (tilt : Nat) : Km420.hangs l n mo tilt = Km420.hangs m n mo tilt := by
  have hr : l.reverse.map strip = m.reverse.map strip := by rw [List.map_reverse, List.map_reverse, h]
  unfold Km420.hangs Km420.least Km420.greatest
  rw [bears_strip h, fills_strip _ h, momentOf_strip _ h, fills_strip _ hr, momentOf_strip _ hr]
/-! ### lines in order -/
theorem place_perm (x : Line) : ∀ r : List Line, (Km420.place x r).Perm (x :: r)
  | [] => List.Perm.refl _
  | m :: r => by
    show (if x.at_ ≤ m.at_ then x :: m :: r else m :: Km420.place x r).Perm (x :: m :: r)
    split
    · exact List.Perm.refl _
    · exact ((place_perm x r).cons m).trans (List.Perm.swap x m r)
theorem order_perm : ∀ (l acc : List Line), (l.foldl (fun r x => Km420.place x r) acc).Perm (l ++ acc)
  | [], acc => List.Perm.refl _
  | x :: l, acc => by
    show (l.foldl (fun r x => Km420.place x r) (Km420.place x acc)).Perm (x :: (l ++ acc))
    exact (order_perm l _).trans (((place_perm x acc).append_left l).trans List.perm_middle)
def Asc (l : List Line) : Prop := l.Pairwise fun a b => a.at_ ≤ b.at_
theorem place_asc (x : Line) : ∀ r : List Line, Asc r → Asc (Km420.place x r)
  | [], _ => List.pairwise_singleton _ _
  | m :: r, h => by
    obtain ⟨h1, h2⟩ := List.pairwise_cons.mp h
    show Asc (if x.at_ ≤ m.at_ then x :: m :: r else m :: Km420.place x r)
    split
    · rename_i c
      refine List.pairwise_cons.mpr ⟨fun b hb => ?_, h⟩
      rcases List.mem_cons.mp hb with e | hb
      · rw [e]; exact c
      · exact Int.le_trans c (h1 b hb)
    · rename_i c
      refine List.pairwise_cons.mpr ⟨fun b hb => ?_, place_asc x r h2⟩
      rcases List.mem_cons.mp ((place_perm x r).mem_iff.mp hb) with e | hb
      · rw [e]; omega
      · exact h1 b hb
theorem order_asc : ∀ (l acc : List Line), Asc acc → Asc (l.foldl (fun r x => Km420.place x r) acc)
  | [], _, h => h
  | x :: l, acc, h => order_asc l _ (place_asc x acc h)
def order (l : List Line) : List Line := l.foldl (fun r x => Km420.place x r) []
theorem order_p (l : List Line) : (order l).Perm l := by
  have := order_perm l []
  rw [List.append_nil] at this
  exact this
/-- a list of pairs in order by the first, no two of one first: there is one such arrangement -/
theorem pairs_uniq : ∀ {l m : List (Int × Nat)}, l.Pairwise (fun a b => a.1 < b.1) → m.Pairwise (fun a b => a.1 < b.1) → l.Perm m → l = m
  | [], m, _, _, h => (List.Perm.eq_nil h.symm).symm
  | x :: l, [], _, _, h => absurd h.length_eq (by simp)
  | x :: l, y :: m, hl, hm, h => by
    obtain ⟨a1, a2⟩ := List.pairwise_cons.mp hl
    obtain ⟨b1, b2⟩ := List.pairwise_cons.mp hm
    have e : x = y := by
      rcases List.mem_cons.mp (h.mem_iff.mp (List.mem_cons_self (a := x) (l := l))) with e | hx
      · exact e
      · rcases List.mem_cons.mp (h.mem_iff.mpr (List.mem_cons_self (a := y) (l := m))) with e | hy
        · exact e.symm
        · have := a1 y hy
          have := b1 x hx
          omega
    subst e
    rw [pairs_uniq a2 b2 h.cons_inv]
theorem lt_of_nodup : ∀ {l : List (Int × Nat)}, l.Pairwise (fun a b => a.1 ≤ b.1) → (l.map (·.1)).Nodup → l.Pairwise (fun a b => a.1 < b.1)
  | [], _, _ => List.Pairwise.nil
  | x :: l, h, hn => by
    obtain ⟨a1, a2⟩ := List.pairwise_cons.mp h
    have hn' : (x.1 :: l.map (·.1)).Nodup := hn
    obtain ⟨n1, n2⟩ := List.nodup_cons.mp hn'
    refine List.pairwise_cons.mpr ⟨fun b hb => ?_, lt_of_nodup a2 n2⟩
    have h1 := a1 b hb
    have h2 : x.1 ≠ b.1 := fun e => n1 (by rw [e]; exact List.mem_map.mpr ⟨b, hb, rfl⟩)
    omega
/-- what sorted makes of the pairs is what the insertion makes of the lines -/
theorem order_is {l : List Line} {ps : List (Int × Nat)} (hp : ps.Perm (l.map strip)) (hs : ps.Pairwise fun a b => a.1 ≤ b.1) (hn : (l.map Line.at_).Nodup) : ps = (order l).map strip := by
  have p2 : ((order l).map strip).Perm (l.map strip) := (order_p l).map strip
  have e1 : (l.map strip).map (·.1) = l.map Line.at_ := by rw [List.map_map]; rfl
  have n1 : (ps.map (·.1)).Nodup := ((hp.map (·.1)).nodup_iff).mpr (by rw [e1]; exact hn)
  have n2 : (((order l).map strip).map (·.1)).Nodup := ((p2.map (·.1)).nodup_iff).mpr (by rw [e1]; exact hn)
  have s2 : ((order l).map strip).Pairwise fun a b => a.1 ≤ b.1 := List.pairwise_map.mpr (order_asc l [] List.Pairwise.nil)
  exact pairs_uniq (lt_of_nodup hs n1) (lt_of_nodup s2 n2) (hp.trans p2.symm)
theorem used_is (s : Sd) : s.w.used = order ((s.lines.filter Ln.on_).map Ln.l) := by
  show order ((s.lines.map Ln.l).filter fun l => l.on_) = _
  rw [List.filter_map]
  rfl
/-- the same lines, hooked or not, in order: the same pairs -/
theorem place_strip {x y : Line} (e : strip x = strip y) : ∀ {l m : List Line}, l.map strip = m.map strip → (Km420.place x l).map strip = (Km420.place y m).map strip
  | [], [], _ => by
    show [strip x] = [strip y]
    rw [e]
  | [], _ :: _, h => by cases h
  | _ :: _, [], h => by cases h
  | a :: l, b :: m, h => by
    obtain ⟨h1, h2⟩ := List.cons.inj (show strip a :: l.map strip = strip b :: m.map strip from h)
    have e1 : x.at_ = y.at_ := congrArg Prod.fst e
    have e2 : a.at_ = b.at_ := congrArg Prod.fst h1
    show (if x.at_ ≤ a.at_ then x :: a :: l else a :: Km420.place x l).map strip = (if y.at_ ≤ b.at_ then y :: b :: m else b :: Km420.place y m).map strip
    rw [e1, e2]
    split
    · rw [List.map_cons, List.map_cons, List.map_cons, List.map_cons, e, h1, h2]
    · rw [List.map_cons, List.map_cons, h1, place_strip e h2]
theorem orderA_strip : ∀ {l m a b : List Line}, l.map strip = m.map strip → a.map strip = b.map strip → (l.foldl (fun r x => Km420.place x r) a).map strip = (m.foldl (fun r x => Km420.place x r) b).map strip
  | [], [], _, _, _, h => h
  | [], _ :: _, _, _, h, _ => by cases h
  | _ :: _, [], _, _, h, _ => by cases h
  | x :: l, y :: m, a, b, h, h' => by
    obtain ⟨h1, h2⟩ := List.cons.inj (show strip x :: l.map strip = strip y :: m.map strip from h)
    exact orderA_strip (l := l) (m := m) h2 (place_strip h1 h')
theorem order_strip {l m : List Line} (h : l.map strip = m.map strip) : (order l).map strip = (order m).map strip := orderA_strip h rfl

/-! ## The pulls -/
theorem fills_len : ∀ (l : List Line) (n : Nat), (Km420.fills l n).length = l.length
  | [], _ => rfl
  | _ :: r, n => congrArg (· + 1) (fills_len r _)
theorem fills_le : ∀ (l : List Line) (n i : Nat) (x : Line), l[i]? = some x → (Km420.fills l n).getD i 0 ≤ x.most
  | [], _, _, _, h => by simp at h
  | a :: r, n, 0, x, h => by
    have e : a = x := Option.some.inj h
    subst e
    show min a.most n ≤ a.most
    exact Nat.min_le_left _ _
  | a :: r, n, i + 1, x, h => fills_le r (n - min a.most n) i x h
/-- reversed: the moment of the lines reversed -/
theorem momentOf_app : ∀ (l : List Line) (t : List Nat) (l2 : List Line) (t2 : List Nat), l.length = t.length → Km420.momentOf (l ++ l2) (t ++ t2) = Km420.momentOf l t + Km420.momentOf l2 t2
  | [], [], l2, t2, _ => by
    show Km420.momentOf l2 t2 = 0 + Km420.momentOf l2 t2
    omega
  | [], _ :: _, _, _, h => by cases h
  | _ :: _, [], _, _, h => by cases h
  | a :: l, x :: t, l2, t2, h => by
    have ih := momentOf_app l t l2 t2 (Nat.succ.inj h)
    unfold Km420.momentOf at ih ⊢
    rw [List.cons_append, List.cons_append, List.zip_cons_cons, List.zip_cons_cons, List.map_cons, List.map_cons, total_cons, total_cons, ih]
    omega
theorem momentOf_rev : ∀ (l : List Line) (t : List Nat), l.length = t.length → Km420.momentOf l.reverse t.reverse = Km420.momentOf l t
  | [], [], _ => rfl
  | [], _ :: _, h => by cases h
  | _ :: _, [], h => by cases h
  | a :: l, x :: t, h => by
    have h' : l.length = t.length := Nat.succ.inj h
    rw [List.reverse_cons, List.reverse_cons, momentOf_app _ _ _ _ (by rw [List.length_reverse, List.length_reverse]; exact h'), momentOf_rev l t h']
    unfold Km420.momentOf
    rw [List.zip_cons_cons, List.map_cons, total_cons, List.zip_cons_cons, List.map_cons, total_cons]
    show _ + ((x : Int) * a.at_ + Km420.total []) = (x : Int) * a.at_ + _
    rw [total_nil]
    omega
theorem greatest_is (l : List Line) (n : Nat) : Km420.momentOf l (Km420.fills l.reverse n).reverse = Km420.greatest l n := by
  unfold Km420.greatest
  have h := momentOf_rev l.reverse (Km420.fills l.reverse n) (by rw [fills_len])
  rw [List.reverse_reverse] at h
  exact h
end Wr
namespace Wr
open Km420 (Room Line Wreck)
/-! ## Pulls moved: how often does not matter, if it is often enough -/
theorem find_range {n i : Nat} {p : Nat → Bool} (hi : i < n) (h : p i = true) (hj : ∀ j, j < i → p j = false) : (List.range n).find? p = some i := by
  rw [List.find?_eq_some_iff_getElem]
  refine ⟨h, i, by rw [List.length_range]; exact hi, by rw [List.getElem_range], fun j hji => ?_⟩
  rw [List.getElem_range, hj j hji]
  rfl
theorem find_range_none {n : Nat} {p : Nat → Bool} (hj : ∀ j, j < n → p j = false) : (List.range n).find? p = none := by
  rw [List.find?_eq_none]
  intro x hx
  rw [hj x (List.mem_range.mp hx)]
  exact Bool.false_ne_true
theorem find_range_is {n i : Nat} {p : Nat → Bool} (h : (List.range n).find? p = some i) : i < n ∧ p i = true ∧ ∀ j, j < i → p j = false := by
  rw [List.find?_eq_some_iff_getElem] at h
  obtain ⟨h1, k, hk, e, h2⟩ := h
  rw [List.getElem_range] at e
  subst e
  rw [List.length_range] at hk
  refine ⟨hk, h1, fun j hj => ?_⟩
  have := h2 j hj
  rw [List.getElem_range] at this
  cases q : p j with
  | false => rfl
  | true => rw [q] at this; exact absurd this (by decide)
theorem find_range_is_none {n : Nat} {p : Nat → Bool} (h : (List.range n).find? p = none) : ∀ j, j < n → p j = false := fun j hj => by
  rw [List.find?_eq_none] at h
  cases q : p j with
  | false => rfl
  | true => exact absurd q (h j (List.mem_range.mpr hj))
theorem rev_at {n k : Nat} (hk : k < (List.range n).reverse.length) : (List.range n).reverse[k] = n - 1 - k := by
  rw [List.getElem_reverse, List.getElem_range, List.length_range]
theorem find_back {n i : Nat} {p : Nat → Bool} (hi : i < n) (h : p i = true) (hj : ∀ j, i < j → j < n → p j = false) : (List.range n).reverse.find? p = some i := by
  rw [List.find?_eq_some_iff_getElem]
  refine ⟨h, n - 1 - i, by rw [List.length_reverse, List.length_range]; omega, by rw [rev_at]; omega, fun j hji => ?_⟩
  rw [rev_at, hj _ (by omega) (by omega)]
  rfl
theorem find_back_none {n : Nat} {p : Nat → Bool} (hj : ∀ j, j < n → p j = false) : (List.range n).reverse.find? p = none := by
  rw [List.find?_eq_none]
  intro x hx
  rw [hj x (List.mem_range.mp (List.mem_reverse.mp hx))]
  exact Bool.false_ne_true
theorem find_back_is {n i : Nat} {p : Nat → Bool} (h : (List.range n).reverse.find? p = some i) : i < n ∧ p i = true ∧ ∀ j, i < j → j < n → p j = false := by
  rw [List.find?_eq_some_iff_getElem] at h
  obtain ⟨h1, k, hk, e, h2⟩ := h
  have hk' : k < n := by rw [List.length_reverse, List.length_range] at hk; exact hk
  rw [rev_at] at e
  refine ⟨by omega, h1, fun j hj1 hj2 => ?_⟩
  have := h2 (n - 1 - j) (by omega)
  rw [rev_at, show n - 1 - (n - 1 - j) = j by omega] at this
  cases q : p j with
  | false => rfl
  | true => rw [q] at this; exact absurd this (by decide)
theorem find_back_is_none {n : Nat} {p : Nat → Bool} (h : (List.range n).reverse.find? p = none) : ∀ j, j < n → p j = false := fun j hj => by
  rw [List.find?_eq_none] at h
  cases q : p j with
  | false => rfl
  | true => exact absurd q (h j (List.mem_reverse.mpr (List.mem_range.mpr hj)))
/-- it pulls; it bears more -/
def pulls (t : List Nat) (i : Nat) : Bool := decide (0 < t.getD i 0)
def more (l : List Line) (t : List Nat) (i : Nat) : Bool := match l[i]? with
  | some x => decide (t.getD i 0 < x.most)
  | none => false
/-- the first that pulls (how many there are, if none does); the last that bears more (-1) -/
def firstP (t : List Nat) : Nat := ((List.range t.length).find? (pulls t)).getD t.length
def lastB (l : List Line) (t : List Nat) : Int := match (List.range l.length).reverse.find? (more l t) with
  | some j => (j : Int)
  | none => -1
/-- how much is moved -/
def toMove (l : List Line) (t : List Nat) (i : Nat) (j : Int) (d : Int) : Nat :=
  if d ≤ 0 ∨ j ≤ (i : Int) then 0 else match l[i]?, l[j.toNat]? with
    | some x, some y => min (min (t.getD i 0) (y.most - t.getD j.toNat 0)) (d / (y.at_ - x.at_)).toNat
    | _, _ => 0
def moved (t : List Nat) (i j g : Nat) : List Nat := (t.set i (t.getD i 0 - g)).set j (t.getD j 0 + g)
/-- what a turn moves -/
def gramsOf (l : List Line) (want : Int) (t : List Nat) : Nat := toMove l t (firstP t) (lastB l t) (want - Km420.momentOf l t)
theorem shift_zero (l : List Line) (want : Int) (t : List Nat) : Km420.shift l want 0 t = t := rfl
theorem shift_succ (l : List Line) (want : Int) (f : Nat) {t : List Nat} (ht : t.length = l.length) :
    Km420.shift l want (f + 1) t = if gramsOf l want t = 0 then t else Km420.shift l want f (moved t (firstP t) (lastB l t).toNat (gramsOf l want t)) := by
  have e0 : Km420.shift l want (f + 1) t = (match (List.range l.length).find? (pulls t), (List.range l.length).reverse.find? (more l t) with
      | some i, some j => match l[i]?, l[j]? with
        | some x, some y => if want - Km420.momentOf l t ≤ 0 ∨ j ≤ i then t else
          if min (min (t.getD i 0) (y.most - t.getD j 0)) ((want - Km420.momentOf l t) / (y.at_ - x.at_)).toNat = 0 then t else
            Km420.shift l want f ((t.set i (t.getD i 0 - min (min (t.getD i 0) (y.most - t.getD j 0)) ((want - Km420.momentOf l t) / (y.at_ - x.at_)).toNat)).set j (t.getD j 0 + min (min (t.getD i 0) (y.most - t.getD j 0)) ((want - Km420.momentOf l t) / (y.at_ - x.at_)).toNat))
        | _, _ => t
      | _, _ => t) := rfl
  rw [e0]
  unfold gramsOf firstP lastB
  rw [ht]
  cases ha : (List.range l.length).find? (pulls t) with
  | none =>
    have z : toMove l t l.length (match (List.range l.length).reverse.find? (more l t) with | some j => (j : Int) | none => -1) (want - Km420.momentOf l t) = 0 := by
      unfold toMove
      rw [if_pos]
      right
      cases hb : (List.range l.length).reverse.find? (more l t) with
      | none => show (-1 : Int) ≤ _; omega
      | some j =>
        have := (find_back_is hb).1
        show (j : Int) ≤ _
        omega
    show t = _
    rw [show (none : Option Nat).getD l.length = l.length from rfl, z, if_pos rfl]
  | some i =>
    obtain ⟨hi, _, _⟩ := find_range_is ha
    rw [show (some i : Option Nat).getD l.length = i from rfl]
    cases hb : (List.range l.length).reverse.find? (more l t) with
    | none =>
      have z : toMove l t i (-1) (want - Km420.momentOf l t) = 0 := by
        unfold toMove
        rw [if_pos]
        right
        omega
      show t = if toMove l t i (-1) (want - Km420.momentOf l t) = 0 then t else _
      rw [z, if_pos rfl]
    | some j =>
      obtain ⟨hj, _, _⟩ := find_back_is hb
      show (match l[i]?, l[j]? with
        | some x, some y => if want - Km420.momentOf l t ≤ 0 ∨ j ≤ i then t else
          if min (min (t.getD i 0) (y.most - t.getD j 0)) ((want - Km420.momentOf l t) / (y.at_ - x.at_)).toNat = 0 then t else
            Km420.shift l want f ((t.set i (t.getD i 0 - min (min (t.getD i 0) (y.most - t.getD j 0)) ((want - Km420.momentOf l t) / (y.at_ - x.at_)).toNat)).set j (t.getD j 0 + min (min (t.getD i 0) (y.most - t.getD j 0)) ((want - Km420.momentOf l t) / (y.at_ - x.at_)).toNat))
        | _, _ => t) = if toMove l t i (j : Int) (want - Km420.momentOf l t) = 0 then t else Km420.shift l want f (moved t i (j : Int).toNat (toMove l t i (j : Int) (want - Km420.momentOf l t)))
      unfold toMove
      rw [Int.toNat_natCast, List.getElem?_eq_getElem hi, List.getElem?_eq_getElem hj]
      by_cases c : want - Km420.momentOf l t ≤ 0 ∨ j ≤ i
      · have c' : want - Km420.momentOf l t ≤ 0 ∨ (j : Int) ≤ (i : Int) := by omega
        rw [if_pos c']
        show (if want - Km420.momentOf l t ≤ 0 ∨ j ≤ i then t else _) = _
        rw [if_pos c, if_pos rfl]
      · have c' : ¬ (want - Km420.momentOf l t ≤ 0 ∨ (j : Int) ≤ (i : Int)) := by omega
        rw [if_neg c']
        show (if want - Km420.momentOf l t ≤ 0 ∨ j ≤ i then t else _) = _
        rw [if_neg c]
        rfl
/-- pulls that the lines bear -/
structure Borne (l : List Line) (t : List Nat) : Prop where
  len : t.length = l.length
  le : ∀ i x, l[i]? = some x → t.getD i 0 ≤ x.most
theorem fills_borne (l : List Line) (n : Nat) : Borne l (Km420.fills l n) := ⟨fills_len l n, fills_le l n⟩
theorem getD_set {t : List Nat} {i : Nat} {v : Nat} (hi : i < t.length) (m : Nat) : (t.set i v).getD m 0 = if m = i then v else t.getD m 0 := by
  rw [List.getD_eq_getElem?_getD, List.getD_eq_getElem?_getD]
  by_cases c : m = i
  · rw [if_pos c, c, List.getElem?_set_self hi]
    rfl
  · rw [if_neg c, List.getElem?_set_ne (fun e => c e.symm)]
theorem getD_moved {t : List Nat} {i j g : Nat} (hi : i < t.length) (hj : j < t.length) (hij : i < j) (m : Nat) :
    (moved t i j g).getD m 0 = if m = j then t.getD j 0 + g else if m = i then t.getD i 0 - g else t.getD m 0 := by
  unfold moved
  rw [getD_set (by rw [List.length_set]; exact hj), getD_set hi]
theorem moment_set : ∀ (l : List Line) (t : List Nat) (i : Nat) (v : Nat) (x : Line), t.length = l.length → l[i]? = some x → Km420.momentOf l (t.set i v) = Km420.momentOf l t + ((v : Int) - (t.getD i 0 : Nat)) * x.at_
  | [], _, _, _, _, _, h => by simp at h
  | _ :: _, [], _, _, _, h, _ => by cases h
  | a :: l, y :: t, 0, v, x, _, h => by
    have e : a = x := Option.some.inj h
    subst e
    unfold Km420.momentOf
    show Km420.total (((v : Int) * a.at_) :: _) = Km420.total (((y : Int) * a.at_) :: _) + ((v : Int) - (y : Nat)) * a.at_
    rw [total_cons, total_cons, Int.sub_mul]
    omega
  | a :: l, y :: t, i + 1, v, x, hl, h => by
    have ih := moment_set l t i v x (Nat.succ.inj hl) h
    unfold Km420.momentOf at ih ⊢
    rw [List.set_cons_succ, List.zip_cons_cons, List.zip_cons_cons, List.map_cons, List.map_cons, total_cons, total_cons, ih]
    show (y : Int) * a.at_ + (_ + ((v : Int) - (t.getD i 0 : Nat)) * x.at_) = (y : Int) * a.at_ + _ + ((v : Int) - (t.getD i 0 : Nat)) * x.at_
    omega
/-- what is known where something is moved -/
structure Moves (l : List Line) (want : Int) (t : List Nat) (i j : Nat) (x y : Line) : Prop where
  fi : firstP t = i
  la : lastB l t = (j : Int)
  ij : i < j
  hj : j < l.length
  hx : l[i]? = some x
  hy : l[j]? = some y
  d : 0 < want - Km420.momentOf l t
  g : gramsOf l want t = min (min (t.getD i 0) (y.most - t.getD j 0)) ((want - Km420.momentOf l t) / (y.at_ - x.at_)).toNat
  p : 0 < t.getD i 0
  before : ∀ m, m < i → t.getD m 0 = 0
  b : t.getD j 0 < y.most
  behind : ∀ m, j < m → m < l.length → more l t m = false
theorem moves_of {l : List Line} {want : Int} {t : List Nat} (ht : t.length = l.length) (h : gramsOf l want t ≠ 0) : ∃ i j x y, Moves l want t i j x y := by
  have h0 := h
  unfold gramsOf toMove at h
  by_cases c : want - Km420.momentOf l t ≤ 0 ∨ lastB l t ≤ (firstP t : Int)
  · rw [if_pos c] at h
    exact absurd rfl h
  · rw [if_neg c] at h
    have hl : 0 ≤ lastB l t := by omega
    cases hb : (List.range l.length).reverse.find? (more l t) with
    | none =>
      have e : lastB l t = -1 := by unfold lastB; rw [hb]
      omega
    | some j =>
      have e : lastB l t = (j : Int) := by unfold lastB; rw [hb]
      obtain ⟨hj, hj1, hj2⟩ := find_back_is hb
      cases ha : (List.range t.length).find? (pulls t) with
      | none =>
        have e2 : firstP t = t.length := by unfold firstP; rw [ha]; rfl
        omega
      | some i =>
        have e2 : firstP t = i := by unfold firstP; rw [ha]; rfl
        obtain ⟨hi, hi1, hi2⟩ := find_range_is ha
        have hi' : i < l.length := by omega
        refine ⟨i, j, l[i], l[j], e2, e, by omega, hj, List.getElem?_eq_getElem hi', List.getElem?_eq_getElem hj, by omega, ?_, of_decide_eq_true hi1, fun m hm => ?_, ?_, hj2⟩
        · unfold gramsOf toMove
          rw [if_neg c, e2, e, Int.toNat_natCast, List.getElem?_eq_getElem hi', List.getElem?_eq_getElem hj]
        · have := of_decide_eq_false (hi2 m hm)
          omega
        · unfold more at hj1
          rw [List.getElem?_eq_getElem hj] at hj1
          exact of_decide_eq_true hj1
theorem moved_len (t : List Nat) (i j g : Nat) : (moved t i j g).length = t.length := by
  unfold moved
  rw [List.length_set, List.length_set]
theorem Moves.borne {l : List Line} {want : Int} {t : List Nat} {i j : Nat} {x y : Line} (M : Moves l want t i j x y) (B : Borne l t) : Borne l (moved t i j (gramsOf l want t)) := by
  refine ⟨by rw [moved_len]; exact B.len, fun m z hz => ?_⟩
  have hj := M.hj
  have hij := M.ij
  have hl := B.len
  rw [getD_moved (by omega) (by omega) hij]
  have h1 := M.g
  have h2 := M.b
  have h3 := B.le m z hz
  split
  · rename_i e
    subst e
    have e2 : z = y := Option.some.inj (hz.symm.trans M.hy)
    subst e2
    omega
  · split
    · rename_i e
      subst e
      omega
    · exact h3
theorem Moves.moment {l : List Line} {want : Int} {t : List Nat} {i j : Nat} {x y : Line} (M : Moves l want t i j x y) (B : Borne l t) :
    Km420.momentOf l (moved t i j (gramsOf l want t)) = Km420.momentOf l t + (gramsOf l want t : Int) * (y.at_ - x.at_) := by
  have hj := M.hj
  have hij := M.ij
  have hl := B.len
  have hg := M.g
  unfold moved
  rw [moment_set l _ j _ y (by rw [List.length_set]; exact hl) M.hy, moment_set l t i _ x hl M.hx, getD_set (by omega), if_neg (by omega)]
  have e1 : ((t.getD i 0 - gramsOf l want t : Nat) : Int) - (t.getD i 0 : Nat) = -(gramsOf l want t : Int) := by omega
  have e2 : ((t.getD j 0 + gramsOf l want t : Nat) : Int) - (t.getD j 0 : Nat) = (gramsOf l want t : Int) := by omega
  rw [e1, e2, Int.neg_mul, Int.mul_sub]
  omega
/-- places rise -/
def Rises (l : List Line) : Prop := ∀ (i j : Nat) (x y : Line), i < j → l[i]? = some x → l[j]? = some y → x.at_ < y.at_
/-- how many turns are left, at most -/
def mu (l : List Line) (want : Int) (t : List Nat) : Nat := if gramsOf l want t = 0 then 0 else (lastB l t - (firstP t : Int)).toNat + 1
theorem mu_len (l : List Line) (want : Int) (t : List Nat) (ht : t.length = l.length) : mu l want t ≤ l.length := by
  unfold mu
  split
  · omega
  · rename_i h
    obtain ⟨i, j, x, y, M⟩ := moves_of ht h
    have h1 := M.hj
    have h2 := M.ij
    rw [M.la, M.fi]
    omega
theorem lt_first {l : List Line} {want : Int} {t : List Nat} {m : Nat} (h : gramsOf l want t ≠ 0) (ht : t.length = l.length) (hz : ∀ k, k < m → t.getD k 0 = 0) : (m : Int) ≤ (firstP t : Int) := by
  obtain ⟨i, j, x, y, M⟩ := moves_of ht h
  rw [M.fi]
  have h1 := M.p
  by_cases c : i < m
  · rw [hz i c] at h1
    omega
  · omega
theorem last_lt {l : List Line} {want : Int} {t : List Nat} {m : Nat} (h : gramsOf l want t ≠ 0) (ht : t.length = l.length) (hz : ∀ k, m ≤ k → k < l.length → more l t k = false) : lastB l t < (m : Int) := by
  obtain ⟨i, j, x, y, M⟩ := moves_of ht h
  rw [M.la]
  by_cases c : m ≤ j
  · have := hz j c M.hj
    unfold more at this
    rw [M.hy] at this
    have := of_decide_eq_false this
    have := M.b
    omega
  · omega
theorem mu_falls {l : List Line} {want : Int} {t : List Nat} (R : Rises l) (B : Borne l t) (h : gramsOf l want t ≠ 0) : mu l want (moved t (firstP t) (lastB l t).toNat (gramsOf l want t)) < mu l want t := by
  obtain ⟨i, j, x, y, M⟩ := moves_of B.len h
  have hj := M.hj
  have hij := M.ij
  have hl := B.len
  have hg := M.g
  have hp := M.p
  have hb := M.b
  have hd := M.d
  have way : 0 < y.at_ - x.at_ := by
    have := R i j x y hij M.hx M.hy
    omega
  have em : mu l want t = j - i + 1 := by
    unfold mu
    rw [if_neg h, M.la, M.fi]
    omega
  rw [em, M.fi, M.la, Int.toNat_natCast]
  have B' := M.borne B
  have hM := M.moment B
  generalize hG : gramsOf l want t = g at hg hM B' h
  unfold mu
  by_cases c0 : gramsOf l want (moved t i j g) = 0
  · rw [if_pos c0]
    omega
  · rw [if_neg c0]
    have gD := @getD_moved t i j g (by omega) (by omega) hij
    -- lines before the first, behind the last: as before
    have hf : (i : Int) ≤ (firstP (moved t i j g) : Int) := lt_first c0 B'.len fun k hk => by
      rw [gD, if_neg (by omega), if_neg (by omega)]
      exact M.before k hk
    have hm : ∀ k, j < k → k < l.length → more l (moved t i j g) k = false := fun k hk1 hk2 => by
      have := M.behind k hk1 hk2
      unfold more at this ⊢
      rw [List.getElem?_eq_getElem hk2] at this ⊢
      rw [gD, if_neg (by omega), if_neg (by omega)]
      exact this
    have hla : lastB l (moved t i j g) < ((j + 1 : Nat) : Int) := last_lt c0 B'.len fun k hk1 hk2 => hm k (by omega) hk2
    by_cases c1 : g = t.getD i 0
    · have hf2 : ((i + 1 : Nat) : Int) ≤ (firstP (moved t i j g) : Int) := lt_first c0 B'.len fun k hk => by
        rw [gD, if_neg (by omega)]
        split
        · omega
        · exact M.before k (by omega)
      omega
    · by_cases c2 : g = y.most - t.getD j 0
      · have hla2 : lastB l (moved t i j g) < (j : Int) := last_lt c0 B'.len fun k hk1 hk2 => by
          by_cases c3 : k = j
          · subst c3
            unfold more
            rw [M.hy]
            rw [gD, if_pos rfl]
            refine decide_eq_false ?_
            omega
          · exact hm k (by omega) hk2
        omega
      · -- as much as the moment lacks: nothing more is to be moved
        exfalso
        obtain ⟨i', j', x', y', M'⟩ := moves_of B'.len c0
        have e1 : i' = i := by
          rw [M'.fi] at hf
          by_cases c4 : i < i'
          · have := M'.before i c4
            rw [gD, if_neg (by omega), if_pos rfl] at this
            omega
          · omega
        have e2 : j' = j := by
          rw [M'.la] at hla
          by_cases c4 : j' < j
          · have := M'.behind j c4 hj
            unfold more at this
            rw [M.hy] at this
            have := of_decide_eq_false this
            rw [gD, if_pos rfl] at this
            omega
          · omega
        subst e1 e2
        have e3 : x' = x := Option.some.inj (M'.hx.symm.trans M.hx)
        have e4 : y' = y := Option.some.inj (M'.hy.symm.trans M.hy)
        subst e3 e4
        have e5 : (g : Int) = (want - Km420.momentOf l t) / (y'.at_ - x'.at_) := by
          have h0 : 0 ≤ (want - Km420.momentOf l t) / (y'.at_ - x'.at_) := Int.ediv_nonneg (by omega) (by omega)
          omega
        have e6 : want - Km420.momentOf l (moved t i' j' g) = (want - Km420.momentOf l t) % (y'.at_ - x'.at_) := by
          rw [hM, e5, Int.emod_def, Int.mul_comm (y'.at_ - x'.at_)]
          omega
        have hg' := M'.g
        rw [e6] at hg'
        have e7 : (want - Km420.momentOf l t) % (y'.at_ - x'.at_) / (y'.at_ - x'.at_) = 0 := Int.ediv_eq_zero_of_lt (Int.emod_nonneg _ (by omega)) (Int.emod_lt_of_pos _ way)
        rw [e7] at hg'
        apply c0
        rw [hg']
        show min _ (0 : Int).toNat = 0
        omega
theorem shift_enough {l : List Line} {want : Int} (R : Rises l) : ∀ (n : Nat) (t : List Nat) (f f' : Nat), mu l want t ≤ n → Borne l t → mu l want t ≤ f → mu l want t ≤ f' → Km420.shift l want f t = Km420.shift l want f' t
  | n, t, f, f', hn, B, h1, h2 => by
    by_cases c : gramsOf l want t = 0
    · have stop : ∀ k, Km420.shift l want k t = t := fun k => by
        cases k with
        | zero => rfl
        | succ k => rw [shift_succ l want k B.len, if_pos c]
      rw [stop, stop]
    · have hf := mu_falls R B c
      have B' : Borne l (moved t (firstP t) (lastB l t).toNat (gramsOf l want t)) := by
        obtain ⟨i, j, x, y, M⟩ := moves_of B.len c
        have := M.borne B
        rw [M.fi, M.la, Int.toNat_natCast]
        exact this
      cases n with
      | zero => omega
      | succ n =>
        cases f with
        | zero => omega
        | succ f =>
          cases f' with
          | zero => omega
          | succ f' =>
            rw [shift_succ l want f B.len, shift_succ l want f' B.len, if_neg c, if_neg c]
            exact shift_enough R n _ f f' (by omega) B' (by omega) (by omega)
theorem shift_is {l : List Line} {want : Int} {t : List Nat} (R : Rises l) (B : Borne l t) (hl : l.length ≤ 4) : Km420.shift l want (2 * l.length + 2) t = Km420.shift l want (2 * Km420.LINES) t := by
  have := mu_len l want t B.len
  refine shift_enough R (mu l want t) t _ _ (Nat.le_refl _) B (by omega) ?_
  show _ ≤ 8
  omega
theorem shift_borne {l : List Line} {want : Int} : ∀ (f : Nat) {t : List Nat}, Borne l t → Borne l (Km420.shift l want f t)
  | 0, _, B => B
  | f + 1, t, B => by
    rw [shift_succ l want f B.len]
    by_cases c : gramsOf l want t = 0
    · rw [if_pos c]
      exact B
    · rw [if_neg c]
      refine shift_borne f ?_
      obtain ⟨i, j, x, y, M⟩ := moves_of B.len c
      have := M.borne B
      rw [M.fi, M.la, Int.toNat_natCast]
      exact this
end Wr
namespace Wr
open Km420 (Room Line Wreck)
/-! ## Lines in order -/
structure LdFine (ls : List Line) : Prop where
  len : ls.length ≤ 4
  at_ : ∀ l ∈ ls, -5000 ≤ l.at_ ∧ l.at_ ≤ 5000
  most : ∀ l ∈ ls, l.most ≤ 500000000
  rises : Rises ls
theorem rises_of {ls : List Line} (h : ls.Pairwise fun a b => a.at_ < b.at_) : Rises ls := fun i j x y hij hx hy => by
  obtain ⟨h1, e1⟩ := List.getElem?_eq_some_iff.mp hx
  obtain ⟨h2, e2⟩ := List.getElem?_eq_some_iff.mp hy
  have := List.pairwise_iff_getElem.mp h i j h1 h2 hij
  rw [e1, e2] at this
  exact this
theorem order_fine {xs : List Ln} (h : ∀ x ∈ xs, LnOk x) (hl : xs.length ≤ 4) (hn : (xs.map Ln.at_).Nodup) : LdFine (order (xs.map Ln.l)) := by
  have p := order_p (xs.map Ln.l)
  have hm : ∀ l ∈ order (xs.map Ln.l), ∃ x ∈ xs, x.l = l := fun l hl => List.mem_map.mp (p.mem_iff.mp hl)
  refine ⟨by rw [p.length_eq, List.length_map]; exact hl, fun l hl => ?_, fun l hl => ?_, ?_⟩
  · obtain ⟨x, hx, rfl⟩ := hm l hl
    exact ⟨(h x hx).at1, (h x hx).at2⟩
  · obtain ⟨x, hx, rfl⟩ := hm l hl
    have := (h x hx).kg
    show 1000 * x.kg ≤ _
    omega
  · have e1 : (xs.map Ln.l).map Line.at_ = xs.map Ln.at_ := by rw [List.map_map]; rfl
    have n2 : (((order (xs.map Ln.l)).map strip).map (·.1)).Nodup := by
      have e2 : ((xs.map Ln.l).map strip).map (·.1) = xs.map Ln.at_ := by rw [List.map_map, ← e1]; rfl
      exact (((p.map strip).map (·.1)).nodup_iff).mpr (by rw [e2]; exact hn)
    have s2 : ((order (xs.map Ln.l)).map strip).Pairwise fun a b => a.1 ≤ b.1 := List.pairwise_map.mpr (order_asc _ [] List.Pairwise.nil)
    have s3 := lt_of_nodup s2 n2
    rw [List.pairwise_map] at s3
    exact rises_of s3
theorem Good.sub {s : Sd} (g : Good s) {xs : List Ln} (h : xs.Sublist s.lines) : (∀ x ∈ xs, LnOk x) ∧ xs.length ≤ 4 ∧ (xs.map Ln.at_).Nodup :=
  ⟨fun x hx => g.lines x (h.mem hx), Nat.le_trans h.length_le g.ln, (h.map Ln.at_).nodup g.nd⟩
theorem Good.fine {s : Sd} (g : Good s) {xs : List Ln} (h : xs.Sublist s.lines) : LdFine (order (xs.map Ln.l)) := by
  obtain ⟨h1, h2, h3⟩ := g.sub h
  exact order_fine h1 h2 h3
theorem Good.used {s : Sd} (g : Good s) : LdFine s.w.used := by
  rw [used_is]
  exact g.fine List.filter_sublist
theorem hangs_now (s : Sd) : Km420.hangs (order ((s.lines.filter Ln.on_).map Ln.l)) (netOf s s.rooms) (momOf s s.rooms) (100000 * s.tilt) = s.w.can := by
  rw [← used_is]
  rfl
theorem Room.minute_fine {r : Room} (h : RoomOk r) : RoomOk r.minute := by
  refine ⟨h.most, h.at1, h.at2, ?_⟩
  show r.water + r.comes - r.goes ≤ r.most
  have h1 := h.water
  have : r.comes ≤ r.most - r.water := by
    unfold Km420.Room.comes
    split
    · omega
    · exact Nat.min_le_right _ _
  omega
end Wr
namespace Wr
open Km420 (Room Line Wreck)
/-! ## A minute -/
def waterOn (s : Sd) : Sd := { s with minute := s.minute + 1, rooms := s.rooms.map Room.minute, leaked := s.leaked + Km420.sum (s.rooms.map Room.comes), pumped := s.pumped + Km420.sum (s.rooms.map Room.goes) }
def minuteSd (s : Sd) : Sd := if (waterOn s).height ≠ 0 ∧ (waterOn s).w.can = false then { waterOn s with height := 0, drops := (waterOn s).drops + 1 } else waterOn s
theorem waterOn_w (s : Sd) : (waterOn s).w = { s.w with time := s.w.time + 1, rooms := s.w.rooms.map Room.minute, leaked := s.w.leaked + Km420.sum (s.w.rooms.map Room.comes), pumped := s.w.pumped + Km420.sum (s.w.rooms.map Room.goes) } := by
  have e : (s.rooms.map Room.minute).map Room.most = s.rooms.map Room.most := by
    rw [List.map_map]
    exact List.map_congr_left fun r _ => rfl
  unfold Sd.w waterOn
  dsimp only
  rw [e]
theorem minuteSd_w (s : Sd) : (minuteSd s).w = s.w.minute := by
  have e : s.w.minute = if (waterOn s).w.height ≠ 0 ∧ (waterOn s).w.can = false then { (waterOn s).w with height := 0, drops := (waterOn s).w.drops + 1 } else (waterOn s).w := by
    rw [waterOn_w]
    rfl
  rw [e]
  unfold minuteSd
  by_cases c : (waterOn s).height ≠ 0 ∧ (waterOn s).w.can = false
  · have c' : (waterOn s).w.height ≠ 0 ∧ (waterOn s).w.can = false := c
    rw [if_pos c, if_pos c']
    rfl
  · have c' : ¬ ((waterOn s).w.height ≠ 0 ∧ (waterOn s).w.can = false) := c
    rw [if_neg c, if_neg c']
theorem Good.waterOn {s : Sd} (g : Good s) : Good (waterOn s) := ⟨g.kg, g.at1, g.at2, g.tilt, by
  show (s.rooms.map Room.minute).length ≤ 6
  rw [List.length_map]
  exact g.rn, g.ln, fun r hr => by
  obtain ⟨r0, h0, rfl⟩ := List.mem_map.mp (show r ∈ s.rooms.map Room.minute from hr)
  exact Room.minute_fine (g.rooms r0 h0), g.lines, g.nd⟩
theorem Good.minuteSd {s : Sd} (g : Good s) : Good (minuteSd s) := by
  unfold Wr.minuteSd
  split
  · exact ⟨g.waterOn.kg, g.waterOn.at1, g.waterOn.at2, g.waterOn.tilt, g.waterOn.rn, g.waterOn.ln, g.waterOn.rooms, g.waterOn.lines, g.waterOn.nd⟩
  · exact g.waterOn
def minutesSd : Nat → Sd → Sd
  | 0, s => s
  | n + 1, s => minutesSd n (minuteSd s)
theorem minutesSd_w : ∀ (n : Nat) (s : Sd), (minutesSd n s).w = Km420.Wreck.minutes n s.w
  | 0, _ => rfl
  | n + 1, s => by
    show (minutesSd n (minuteSd s)).w = Km420.Wreck.minutes n s.w.minute
    rw [minutesSd_w n, minuteSd_w]
theorem Good.minutesSd : ∀ (n : Nat) {s : Sd}, Good s → Good (minutesSd n s)
  | 0, _, g => g
  | n + 1, _, g => Good.minutesSd n g.minuteSd
theorem minutesSd_succ : ∀ (n : Nat) (s : Sd), minutesSd (n + 1) s = minuteSd (minutesSd n s)
  | 0, _ => rfl
  | n + 1, s => minutesSd_succ n (minuteSd s)
end Wr
namespace Wr
open Km420 (Room Line Wreck)
/-! ## Changes: what is answered, the state behind (none: refused) -/
def chRoom (s : Sd) (m : Nat) (a : Int) (k : Nat) : List Int × Option Sd :=
  if m = 0 ∨ 200000 < m ∨ Km420.okAt a = false ∨ 5000 < k then ([-22], none) else if s.height ≠ 0 then ([-16], none) else if 6 ≤ s.rooms.length then ([-28], none)
  else ([(s.rooms.length : Int)], some { s with rooms := s.rooms ++ [⟨m, a, k, false, 0, m⟩] })
def chLine (s : Sd) (a : Int) (g : Nat) : List Int × Option Sd :=
  if Km420.okAt a = false ∨ g = 0 ∨ 500000 < g ∨ (s.lines.any fun x => x.at_ == a) = true then ([-22], none) else if 4 ≤ s.lines.length then ([-28], none)
  else ([(s.lines.length : Int)], some { s with lines := s.lines ++ [⟨a, g, false⟩] })
def chPatch (s : Sd) (k : Nat) : List Int × Option Sd := match s.rooms[k]? with
  | none => ([-2], none)
  | some r => if r.patched = true then ([-17], none) else if s.height ≠ 0 then ([-16], none) else ([(r.water : Int)], some { s with rooms := s.rooms.set k { r with patched := true } })
def chPump (s : Sd) (k n : Nat) : List Int × Option Sd := match s.rooms[k]? with
  | none => ([-2], none)
  | some r => if 20000 < n then ([-22], none) else ([(r.pump : Int)], some { s with rooms := s.rooms.set k { r with pump := n } })
def hookSd (s : Sd) (k : Nat) (x : Ln) (o : Nat) : Sd := { s with lines := s.lines.set k { x with on_ := o == 1 } }
def chHook (s : Sd) (k o : Nat) : List Int × Option Sd := match s.lines[k]? with
  | none => ([-2], none)
  | some x => if 1 < o then ([-22], none) else if x.on_ = (o == 1) then ([-17], none) else
    if (hookSd s k x o).height ≠ 0 ∧ (hookSd s k x o).w.can = false then ([-33], none) else ([(((hookSd s k x o).lines.filter Ln.on_).length : Int)], some (hookSd s k x o))
def chMinutes (s : Sd) (n : Nat) : List Int × Option Sd := if n = 0 ∨ 1440 < n then ([-22], none) else if 100000 < s.minute + n then ([-75], none)
  else ([((minutesSd n s).minute : Int), ((minutesSd n s).height : Int), ((minutesSd n s).drops : Int)], some (minutesSd n s))
def chHaul (s : Sd) (n : Nat) : List Int × Option Sd := if n = 0 then ([-22], none) else if s.depth < s.height + n then ([-62], none) else if s.w.can = false then ([-33], none)
  else ([((s.height + n : Nat) : Int)], some { s with height := s.height + n })
def chLower (s : Sd) (n : Nat) : List Int × Option Sd := if n = 0 then ([-22], none) else if s.height < n then ([-12], none) else ([((s.height - n : Nat) : Int)], some { s with height := s.height - n })
/-! ### they leave a good state -/
theorem okAt_iff {a : Int} : Km420.okAt a = true ↔ -5000 ≤ a ∧ a ≤ 5000 := by
  unfold Km420.okAt
  rw [Bool.and_eq_true, decide_eq_true_iff, decide_eq_true_iff]
theorem okAt_false {a : Int} (h : ¬ Km420.okAt a = false) : -5000 ≤ a ∧ a ≤ 5000 := okAt_iff.mp (by cases e : Km420.okAt a with | true => rfl | false => exact absurd e h)
theorem Good.withRooms {s : Sd} (g : Good s) {rs : List Room} (hl : rs.length ≤ 6) (h : ∀ r ∈ rs, RoomOk r) : Good { s with rooms := rs } := ⟨g.kg, g.at1, g.at2, g.tilt, hl, g.ln, h, g.lines, g.nd⟩
theorem Good.withLines {s : Sd} (g : Good s) {xs : List Ln} (hl : xs.length ≤ 4) (h : ∀ x ∈ xs, LnOk x) (hn : (xs.map Ln.at_).Nodup) : Good { s with lines := xs } := ⟨g.kg, g.at1, g.at2, g.tilt, g.rn, hl, g.rooms, h, hn⟩
theorem Good.withHeight {s : Sd} (g : Good s) (n : Nat) : Good { s with height := n } := ⟨g.kg, g.at1, g.at2, g.tilt, g.rn, g.ln, g.rooms, g.lines, g.nd⟩
theorem mem_set {α : Type} {l : List α} {k : Nat} {a x : α} (h : x ∈ l.set k a) : x ∈ l ∨ x = a := List.mem_or_eq_of_mem_set h
theorem Good.setRoom {s : Sd} (g : Good s) (k : Nat) {r : Room} (h : RoomOk r) : Good { s with rooms := s.rooms.set k r } := g.withRooms (by rw [List.length_set]; exact g.rn) fun x hx => by
  rcases mem_set hx with hx | rfl
  · exact g.rooms x hx
  · exact h
theorem set_same {α β : Type} (f : α → β) {l : List α} {k : Nat} {a b : α} (h : l[k]? = some a) (e : f b = f a) : (l.set k b).map f = l.map f := by
  rw [List.map_set, e]
  apply List.ext_getElem?
  intro i
  by_cases c : k = i
  · subst c
    have hk := (List.getElem?_eq_some_iff.mp h).1
    rw [List.getElem?_set_self (by rw [List.length_map]; exact hk), List.getElem?_map, h]
    rfl
  · rw [List.getElem?_set_ne c]
theorem Good.hook {s : Sd} (g : Good s) {k : Nat} {x : Ln} (h : s.lines[k]? = some x) (o : Nat) : Good (hookSd s k x o) := by
  have hx := g.lines x (List.mem_of_getElem? h)
  refine g.withLines (by rw [List.length_set]; exact g.ln) (fun y hy => ?_) (by rw [set_same Ln.at_ (b := { x with on_ := o == 1 }) h rfl]; exact g.nd)
  rcases mem_set hy with hy | rfl
  · exact g.lines y hy
  · exact ⟨hx.at1, hx.at2, hx.kg⟩
theorem Good.chRoom {s t : Sd} (g : Good s) {m : Nat} {a : Int} {k : Nat} (h : (chRoom s m a k).2 = some t) : Good t := by
  unfold Wr.chRoom at h
  split at h
  · cases h
  · rename_i c
    split at h
    · cases h
    · split at h
      · cases h
      · rename_i c3
        cases h
        obtain ⟨h1, h2⟩ := okAt_false (a := a) (fun z => c (.inr (.inr (.inl z))))
        refine g.withRooms (by rw [List.length_append]; show s.rooms.length + 1 ≤ 6; omega) fun r hr => ?_
        rcases List.mem_append.mp hr with hr | hr
        · exact g.rooms r hr
        · have e := List.mem_singleton.mp hr
          subst e
          exact ⟨by show m ≤ 200000; omega, h1, h2, Nat.le_refl _⟩
theorem Good.chLine {s t : Sd} (g : Good s) {a : Int} {n : Nat} (h : (chLine s a n).2 = some t) : Good t := by
  unfold Wr.chLine at h
  split at h
  · cases h
  · rename_i c
    split at h
    · cases h
    · rename_i c3
      cases h
      obtain ⟨h1, h2⟩ := okAt_false (a := a) (fun z => c (.inl z))
      refine g.withLines (by rw [List.length_append]; show s.lines.length + 1 ≤ 4; omega) (fun x hx => ?_) ?_
      · rcases List.mem_append.mp hx with hx | hx
        · exact g.lines x hx
        · have e := List.mem_singleton.mp hx
          subst e
          exact ⟨h1, h2, by show n ≤ 500000; omega⟩
      · rw [List.map_append, List.nodup_append]
        refine ⟨g.nd, List.nodup_cons.mpr ⟨List.not_mem_nil, List.nodup_nil⟩, fun y hy z hz e => ?_⟩
        obtain ⟨x, hx, rfl⟩ := List.mem_map.mp hy
        have e2 : z = a := List.mem_singleton.mp hz
        refine c (.inr (.inr (.inr (List.any_eq_true.mpr ⟨x, hx, ?_⟩))))
        rw [beq_iff_eq, e, e2]
theorem Good.chPatch {s t : Sd} (g : Good s) {k : Nat} (h : (chPatch s k).2 = some t) : Good t := by
  unfold Wr.chPatch at h
  cases e : s.rooms[k]? with
  | none => rw [e] at h; cases h
  | some r =>
    rw [e] at h
    have rk := g.rooms r (List.mem_of_getElem? e)
    dsimp only at h
    split at h
    · cases h
    · split at h
      · cases h
      · cases h
        exact g.setRoom k ⟨rk.most, rk.at1, rk.at2, rk.water⟩
theorem Good.chPump {s t : Sd} (g : Good s) {k n : Nat} (h : (chPump s k n).2 = some t) : Good t := by
  unfold Wr.chPump at h
  cases e : s.rooms[k]? with
  | none => rw [e] at h; cases h
  | some r =>
    rw [e] at h
    have rk := g.rooms r (List.mem_of_getElem? e)
    dsimp only at h
    split at h
    · cases h
    · cases h
      exact g.setRoom k ⟨rk.most, rk.at1, rk.at2, rk.water⟩
theorem Good.chHook {s t : Sd} (g : Good s) {k o : Nat} (h : (chHook s k o).2 = some t) : Good t := by
  unfold Wr.chHook at h
  cases e : s.lines[k]? with
  | none => rw [e] at h; cases h
  | some x =>
    rw [e] at h
    dsimp only at h
    split at h
    · cases h
    · split at h
      · cases h
      · split at h
        · cases h
        · cases h
          exact g.hook e o
theorem Good.chMinutes {s t : Sd} (g : Good s) {n : Nat} (h : (chMinutes s n).2 = some t) : Good t := by
  unfold Wr.chMinutes at h
  split at h
  · cases h
  · split at h
    · cases h
    · cases h
      exact Good.minutesSd n g
theorem Good.chHaul {s t : Sd} (g : Good s) {n : Nat} (h : (chHaul s n).2 = some t) : Good t := by
  unfold Wr.chHaul at h
  split at h
  · cases h
  · split at h
    · cases h
    · split at h
      · cases h
      · cases h
        exact g.withHeight _
theorem Good.chLower {s t : Sd} (g : Good s) {n : Nat} (h : (chLower s n).2 = some t) : Good t := by
  unfold Wr.chLower at h
  split at h
  · cases h
  · split at h
    · cases h
    · cases h
      exact g.withHeight _
end Wr
/-! ### part: Kit -/
set_option Elab.async false
set_option linter.all false
set_option maxRecDepth 100000
set_option maxHeartbeats 4000000
/-! # Words for the walk: what lies in the heap, rules that the layer lacks, what is known of the defs -/
namespace Wr
open PySem PySem.Spec PyProof.Rows L2 Evl
open Km420 (Room Line Wreck)

/-! ## Rules -/
section
variable {X : Cx}
theorem pe_gi {x : Str} {i : Int} {pos : Pos} (h : ∃ t, X.mg x = some (.int i t)) (hg : Gl X x := by rfl) (hd : (x == ("__debug__" : Str)) = false := by decide) : PE X (.Name x pos) (tC (.int i)) := by
  obtain ⟨t, e⟩ := h
  exact pe_glob hg e ⟨t, rfl⟩ hd
def rMin3 : List V → Hp → VK → Prop := fun xs H Q => ∃ i j k, xs = [.int i, .int j, .int k] ∧ Q (.int (min (min i j) k)) H
theorem call_min3 (hc : X.calm = true) : CallR X (.builtin "min") rMin3 := by
  intro pins s σ H xs us Q I r h
  obtain ⟨i, j, k, rfl, q⟩ := h
  cases r with
  | cons r1 r => cases r with
    | cons r2 r => cases r with
      | cons r3 r =>
        cases r
        obtain ⟨t1, rfl⟩ := r1
        obtain ⟨t2, rfl⟩ := r2
        obtain ⟨t3, rfl⟩ := r3
        refine PySem.min_three_ints (I.ok.hd hc) fun h' tk kp => ⟨_, H, I.kept kp, ?_, q⟩
        by_cases c1 : j < i
        · rw [if_pos c1]
          by_cases c2 : k < j
          · rw [if_pos c2]
            exact ⟨_, by rw [show min (min i j) k = k by omega]⟩
          · rw [if_neg c2]
            exact ⟨_, by rw [show min (min i j) k = j by omega]⟩
        · rw [if_neg c1]
          by_cases c2 : k < i
          · rw [if_pos c2]
            exact ⟨_, by rw [show min (min i j) k = k by omega]⟩
          · rw [if_neg c2]
            exact ⟨_, by rw [show min (min i j) k = i by omega]⟩
/-! ### a dict of the top with int keys -/
def Ents (K : PySem.W.Frag) : List DictEntry → List (Int × Str) → Prop
  | [], [] => True
  | e :: es, p :: ps => Value.isInt p.1 e.key = true ∧ e.hash = hashInt p.1 ∧ RelV (.ref (He.ga K p.2)) e.val ∧ Ents K es ps
  | _, _ => False
theorem ents_ok {K : PySem.W.Frag} : ∀ {es : List DictEntry} {ps : List (Int × Str)}, entB K es ps = true → Ents K es ps
  | [], [], _ => trivial
  | [], _ :: _, h => by cases h
  | _ :: _, [], h => by cases h
  | e :: es, p :: ps, h => by
    have h' : (Value.isInt p.1 e.key && (decide (e.hash = hashInt p.1) && (He.relB (.ref (He.ga K p.2)) e.val && entB K es ps))) = true := h
    obtain ⟨h1, h2⟩ := He.ba h'
    obtain ⟨h3, h4⟩ := He.ba h2
    obtain ⟨h5, h6⟩ := He.ba h4
    exact ⟨h1, of_decide_eq_true h3, He.relB_ok h5, ents_ok h6⟩
/-- the module's name x is such a dict -/
structure KTab (K : PySem.W.Frag) (x : Str) (ps : List (Int × Str)) : Prop where
  ex : ∃ es n, K.lookup (He.ga K x) = some ⟨.type "dict", none, .dict es n, #[]⟩ ∧ Ents K es.toList ps
  low : (He.ga K x == sysModules) = false
theorem tab_ok {K : PySem.W.Frag} {x : Str} {ps : List (Int × Str)} (h : tabB K x ps = true) : KTab K x ps := by
  unfold tabB at h
  cases q : K.lookup (He.ga K x) with
  | none =>
    rw [q] at h
    cases h
  | some o =>
    obtain ⟨oc, od, dt, sl⟩ := o
    rw [q] at h
    cases oc with
    | type c =>
      cases od with
      | none =>
        cases dt with
        | dict es n =>
          have h' : (decide (c = "dict") && (sl.isEmpty && ((!(He.ga K x == sysModules)) && entB K es.toList ps))) = true := h
          obtain ⟨h1, h2⟩ := He.ba h'
          obtain ⟨h3, h4⟩ := He.ba h2
          obtain ⟨h5, h6⟩ := He.ba h4
          have e1 : c = "dict" := of_decide_eq_true h1
          have e2 : sl = #[] := Array.isEmpty_iff.mp h3
          subst e1 e2
          exact ⟨⟨es, n, q, ents_ok h6⟩, by simpa using h5⟩
        | _ => cases h
      | some a => cases dt <;> cases h
    | _ => cases od <;> cases dt <;> cases h
def nameAt (ps : List (Int × Str)) (k : Int) : Option Str := (ps.find? fun p => p.1 == k).map (·.2)
theorem isInt_is {k j : Int} {v : Value} (h : Value.isInt k v = true) : Value.isInt j v = (k == j) := by
  obtain ⟨t, rfl⟩ := Value.isInt_shape h
  cases c : (k == j) with
  | true =>
    rw [beq_iff_eq] at c
    subst c
    exact h
  | false =>
    cases c2 : Value.isInt j (.int k t) with
    | false => rfl
    | true =>
      obtain ⟨u, e⟩ := Value.isInt_shape c2
      injection e with e1 e2
      rw [e1, beq_self_eq_true] at c
      cases c
theorem ents_find {K : PySem.W.Frag} (k : Int) : ∀ {es : List DictEntry} {ps : List (Int × Str)}, Ents K es ps → ((es.find? fun e => Value.isInt k e.key).map (·.val)) = (nameAt ps k).map fun x => Value.ref (He.ga K x)
  | [], [], _ => rfl
  | [], _ :: _, h => h.elim
  | _ :: _, [], h => h.elim
  | e :: es, p :: ps, h => by
    obtain ⟨h1, h2, h3, h4⟩ := h
    have ih := ents_find k h4
    unfold nameAt at ih ⊢
    rw [List.find?_cons, List.find?_cons, isInt_is h1]
    cases c : (p.1 == k) with
    | true =>
      have e3 : e.val = Value.ref (He.ga K p.2) := h3
      show some e.val = some (Value.ref (He.ga K p.2))
      rw [e3]
    | false => exact ih
theorem ents_keys {K : PySem.W.Frag} : ∀ {es : List DictEntry} {ps : List (Int × Str)}, Ents K es ps → ∀ e ∈ es, ∃ k, Value.isInt k e.key = true ∧ e.hash = hashInt k
  | [], _, _, _, h => by cases h
  | _ :: _, [], h, _, _ => h.elim
  | e :: es, p :: ps, h, e', he => by
    obtain ⟨h1, h2, h3, h4⟩ := h
    rcases List.mem_cons.mp he with rfl | he
    · exact ⟨p.1, h1, h2⟩
    · exact ents_keys h4 e' he
theorem KTab.map {K : PySem.W.Frag} {x : Str} {ps : List (Int × Str)} {h : Heap} {prog : Program} {w : World} (T : KTab K x ps) (X : K.In h) :
    h.MapOf (intKind prog w) (He.ga K x) fun k => (nameAt ps k).map fun z => Value.ref (He.ga K z) := by
  obtain ⟨es, n, hl, he⟩ := T.ex
  refine ⟨_, es, n, X _ _ hl, ⟨rfl, rfl, rfl⟩, rfl, fun e hm => ents_keys he e (Array.mem_toList_iff.mpr hm), fun k => ?_⟩
  have q := ents_find k he
  refine Eq.trans ?_ q
  obtain ⟨l⟩ := es
  show (Array.find? _ (Array.mk l)).map _ = _
  rw [List.find?_toArray]
  rfl
def rIxD (K : PySem.W.Frag) (x : Str) (ps : List (Int × Str)) : R2 := fun a b H Q => ∃ (i : Int) (z : Str), a = .ref (He.ga K x) ∧ b = .int i ∧ nameAt ps i = some z ∧ Q (.ref (He.ga K z)) H
theorem ix_tab {x : Str} {ps : List (Int × Str)} (T : KTab X.K x ps) : IxR X (rIxD X.K x ps) := by
  intro value slice pins s σ H a b v u Q I ra rb h hs
  obtain ⟨i, z, rfl, rfl, e, q⟩ := h
  obtain rfl : v = Value.ref _ := ra
  obtain ⟨t, rfl⟩ := rb
  have hm := T.map (prog := X.prog) (w := X.w) I.kIn
  exact tail_any hm.typeIs slot_dict_getitem.lookup (wpAny_getItem_of (show (intKind X.prog X.w).is i (.int i t) = true by simp [intKind, Value.isInt]) hm (by rw [e]; rfl) ⟨.ref (He.ga X.K z), H, I.tok _, rfl, q⟩) hs
def rInD (K : PySem.W.Frag) (x : Str) (ps : List (Int × Str)) : R2 := fun a b H Q => ∃ (i : Int), a = .int i ∧ b = .ref (He.ga K x) ∧ Q (.bl (nameAt ps i).isSome) H
theorem op_inD {x : Str} {ps : List (Int × Str)} (T : KTab X.K x ps) : OpR X (compareOp .In) (rInD X.K x ps) := by
  intro pins s σ H a b v u Q I ra rb h
  obtain ⟨i, rfl, rfl, q⟩ := h
  obtain ⟨t, rfl⟩ := ra
  obtain rfl : u = Value.ref _ := rb
  have hm := T.map (prog := X.prog) (w := X.w) I.kIn
  refine wpAny_in_of (show (intKind X.prog X.w).is i (.int i t) = true by simp [intKind, Value.isInt]) T.low hm ⟨.bl _, H, I.tok _, ?_, q⟩
  show Value.bool _ = Value.bool _
  cases nameAt ps i <;> rfl
end

/-! ## What is known of a def -/
/-- the module's name x stands for a def that keeps its promise -/
structure Kn (P : Program) (w : World) (K : PySem.W.Frag) (mg : Str → Option Value) (base : Heap) (x : Str) (k : Nat) (ps : List Str) (sp : Sp) : Prop where
  ex : ∃ fd : FuncData, mg x = some (.ref (He.ga K x)) ∧ PySem.W.keepIn K (.ref (He.ga K x)) = true ∧ Binds K fd ps [] ∧ FnOk P w K mg base CX0 k (He.ga K x) fd ps sp
/-- the def's method of the class c -/
structure Km (P : Program) (w : World) (K : PySem.W.Frag) (mg : Str → Option Value) (base : Heap) (c x : Str) (k : Nat) (ps : List Str) (sp : Sp) : Prop where
  ex : ∃ fd : FuncData, PySem.W.keepIn K (.ref (He.ma K (He.ga K c) x)) = true ∧ Binds K fd ps [] ∧ FnOk P w K mg base CX0 k (He.ma K (He.ga K c) x) fd ps sp
section
variable {X : Cx} {k k' : Nat} {x c : Str} {ps : List Str} {sp : Sp}
/-- how a call with arguments is read: told by rfl where it is used -/
def Plainly (X : Cx) (pos : Pos) (e : Expr) (es : List Expr) : Prop := starEach (e :: es) X.env = (false, eval e X.env) :: starEach es X.env ∧ (backTo pos (starEach es X.env)).any (fun z => z.1) = false
theorem pe_kn {p pos : Pos} {e : Expr} {es : List Expr} {t : TA} (h : Kn X.prog X.w X.K X.mg X.base x k ps sp) (hr : Room k' X.A) (ha : PA X (e :: es) t) (hk : k ≤ k' := by decide) (hg : Gl X x := by rfl)
    (hp : Plainly X pos e es := by exact ⟨rfl, rfl⟩) (hdb : (x == ("__debug__" : Str)) = false := by decide) : PE X (.Call (.Name x p) (e :: es) [] pos) (tCall sp [] E0 t) := by
  obtain ⟨fd, h1, h2, h3, h4⟩ := h.ex
  exact pe_call h4 (hr.mono hk) hg h1 h2 h3 .nil pass0 ha hdb hp.1 hp.2
theorem pe_mk {p pos : Pos} {e : Expr} {es : List Expr} {t : TA} (M : Mk X.K (He.ga X.K x) (He.ma X.K (He.ga X.K x) "__init__")) (hm : X.mg x = some (.ref (He.ga X.K x))) (h : Km X.prog X.w X.K X.mg X.base x "__init__" k ps sp) (hr : Room k' X.A) (ha : PA X (e :: es) t) (hk : k + 1 ≤ k' := by decide) (hg : Gl X x := by rfl)
    (hp : Plainly X pos e es := by exact ⟨rfl, rfl⟩) (hdb : (x == ("__debug__" : Str)) = false := by decide) : PE X (.Call (.Name x p) (e :: es) [] pos) (tMake (He.ga X.K x) sp [] E0 t) := by
  obtain ⟨fd, h2, h3, h4⟩ := h.ex
  exact pe_make M h4 (hr.mono hk) hg hm h3 .nil pass0 ha hdb hp.1 hp.2
theorem pe_mk0 {p pos : Pos} (M : Mk X.K (He.ga X.K x) (He.ma X.K (He.ga X.K x) "__init__")) (hm : X.mg x = some (.ref (He.ga X.K x))) (h : Km X.prog X.w X.K X.mg X.base x "__init__" k ps sp) (hr : Room k' X.A) (hk : k + 1 ≤ k' := by decide) (hg : Gl X x := by rfl) (hdb : (x == ("__debug__" : Str)) = false := by decide) :
    PE X (.Call (.Name x p) [] [] pos) (tMake (He.ga X.K x) sp [] E0 tNil) := by
  obtain ⟨fd, h2, h3, h4⟩ := h.ex
  exact pe_make0 M h4 (hr.mono hk) hg hm h3 .nil pass0 hdb
end
/-! ### from the text to what is known -/
abbrev FnP (K : PySem.W.Frag) (x qual : Str) (st : Stmt) (f : Addr) (fd : FuncData) : Prop := FunD K x qual (defArgs st) (defBody st) (defScope st) [] [] f fd
section
variable {P : Program} {w : World} {K : PySem.W.Frag} {mg : Str → Option Value} {base : Heap}
structure Raw (K : PySem.W.Frag) (mg : Str → Option Value) (x : Str) (st : Stmt) (ps : List Str) : Prop where
  ex : ∃ fd : FuncData, mg x = some (.ref (He.ga K x)) ∧ Binds K fd ps [] ∧ FnP K x x st (He.ga K x) fd
structure RawM (K : PySem.W.Frag) (c x qual : Str) (st : Stmt) (ps : List Str) : Prop where
  ex : ∃ fd : FuncData, Binds K fd ps [] ∧ FnP K x qual st (He.ma K (He.ga K c) x) fd
theorem Raw.kn {x : Str} {st : Stmt} {N ps : List Str} {k : Nat} {sp : Sp} (R : Raw K mg x st ps) (S : FnScope N ps (defScope st)) (len : ∀ vs H Q E, sp vs H Q E → vs.length = ps.length)
    (hbody : ∀ (cdv : Value) (A : Around) (outer : List Env) (s : Shared) (H : Hp) (vs : List V) (Q : VK) (E : XK), Room k (A.deeper (envOfC x (defScope st) s.heap.objs.size (He.ga K x) cdv)) → sp vs H Q E →
      ∃ t, PSs (cxOf CX0 P w K mg base N x (defScope st) (He.ga K x) cdv A outer s H E).nox (defBody st) t ∧ t { nx := fun _ H' => Q .non H', rt := Q } (start N vs) H) : Kn P w K mg base x (k + 1) ps sp := by
  obtain ⟨fd, h1, h2, F⟩ := R.ex
  refine ⟨fd, h1, F.kp, h2, F.ok S len fun cdv A outer s H vs Q E hr hsp => ?_⟩
  obtain ⟨t, h, q⟩ := hbody cdv A outer s H vs Q E hr hsp
  exact ⟨t, h.nox, q⟩
theorem RawM.km {c x qual : Str} {st : Stmt} {N ps : List Str} {k : Nat} {sp : Sp} (R : RawM K c x qual st ps) (S : FnScope N ps (defScope st)) (len : ∀ vs H Q E, sp vs H Q E → vs.length = ps.length)
    (hbody : ∀ (cdv : Value) (A : Around) (outer : List Env) (s : Shared) (H : Hp) (vs : List V) (Q : VK) (E : XK), Room k (A.deeper (envOfC qual (defScope st) s.heap.objs.size (He.ma K (He.ga K c) x) cdv)) → sp vs H Q E →
      ∃ t, PSs (cxOf CX0 P w K mg base N qual (defScope st) (He.ma K (He.ga K c) x) cdv A outer s H E).nox (defBody st) t ∧ t { nx := fun _ H' => Q .non H', rt := Q } (start N vs) H) : Km P w K mg base c x (k + 1) ps sp := by
  obtain ⟨fd, h2, F⟩ := R.ex
  refine ⟨fd, F.kp, h2, F.ok S len fun cdv A outer s H vs Q E hr hsp => ?_⟩
  obtain ⟨t, h, q⟩ := hbody cdv A outer s H vs Q E hr hsp
  exact ⟨t, h.nox, q⟩
end
end Wr
/-! ### part: Facts -/
set_option Elab.async false
set_option linter.all false
set_option maxRecDepth 100000
set_option maxHeartbeats 4000000
namespace Wr
open PySem PySem.Spec PyProof.Rows L2
structure Facts (K : PySem.W.Frag) (mg : Str → Option Value) : Prop where
  c : SaysM K
  h : ∃ h : Heap, K.In h ∧ h.Ns mainGlobals mg
section
variable {K : PySem.W.Frag} {mg : Str → Option Value}
theorem Facts.d (T : Facts K mg) : He.SaysD faL fnL K := congrArg (fun z : AlM => z.1) T.c
theorem Facts.e (T : Facts K mg) : exB K = true := congrArg (fun z : AlM => z.2) T.c
theorem Facts.at_ (T : Facts K mg) (i : Nat) {f : He.Fa} (h : faL[i]? = some f) : f.ok K = true := T.d.fact i h
theorem Facts.glo (T : Facts K mg) (i : Nat) {x : Str} (h : faL[i]? = some (.glo x)) : mg x = some (.ref (He.ga K x)) := by
  obtain ⟨hp, X, G⟩ := T.h
  exact He.glo_ok X G (T.at_ i h)
theorem Facts.int (T : Facts K mg) (i : Nat) {x : Str} {z : Int} (h : faL[i]? = some (.int x z)) : ∃ t, mg x = some (.int z t) := by
  obtain ⟨hp, X, G⟩ := T.h
  exact He.int_ok X G (T.at_ i h)
theorem Facts.free (T : Facts K mg) (i : Nat) {x : Str} (h : faL[i]? = some (.free x)) : mg x = none := by
  obtain ⟨hp, X, G⟩ := T.h
  exact He.free_ok X G (T.at_ i h)
theorem Facts.m_new_room (T : Facts K mg) : mg "new_room" = some (.ref (He.ga K "new_room")) := T.glo 0 rfl
theorem Facts.m_patched_room (T : Facts K mg) : mg "patched_room" = some (.ref (He.ga K "patched_room")) := T.glo 1 rfl
theorem Facts.m_pumped_room (T : Facts K mg) : mg "pumped_room" = some (.ref (He.ga K "pumped_room")) := T.glo 2 rfl
theorem Facts.m_room_with (T : Facts K mg) : mg "room_with" = some (.ref (He.ga K "room_with")) := T.glo 3 rfl
theorem Facts.m_water_in (T : Facts K mg) : mg "water_in" = some (.ref (He.ga K "water_in")) := T.glo 4 rfl
theorem Facts.m_air_grams (T : Facts K mg) : mg "air_grams" = some (.ref (He.ga K "air_grams")) := T.glo 5 rfl
theorem Facts.m_leaking_in (T : Facts K mg) : mg "leaking_in" = some (.ref (He.ga K "leaking_in")) := T.glo 6 rfl
theorem Facts.m_after_minute (T : Facts K mg) : mg "after_minute" = some (.ref (He.ga K "after_minute")) := T.glo 7 rfl
theorem Facts.m_minutes_till_dry (T : Facts K mg) : mg "minutes_till_dry" = some (.ref (He.ga K "minutes_till_dry")) := T.glo 8 rfl
theorem Facts.m_borne (T : Facts K mg) : mg "borne" = some (.ref (He.ga K "borne")) := T.glo 9 rfl
theorem Facts.m_poured (T : Facts K mg) : mg "poured" = some (.ref (He.ga K "poured")) := T.glo 10 rfl
theorem Facts.m_poured_back (T : Facts K mg) : mg "poured_back" = some (.ref (He.ga K "poured_back")) := T.glo 11 rfl
theorem Facts.m_moment_of (T : Facts K mg) : mg "moment_of" = some (.ref (He.ga K "moment_of")) := T.glo 12 rfl
theorem Facts.m_least_moment (T : Facts K mg) : mg "least_moment" = some (.ref (He.ga K "least_moment")) := T.glo 13 rfl
theorem Facts.m_greatest_moment (T : Facts K mg) : mg "greatest_moment" = some (.ref (He.ga K "greatest_moment")) := T.glo 14 rfl
theorem Facts.m_can_hang (T : Facts K mg) : mg "can_hang" = some (.ref (He.ga K "can_hang")) := T.glo 15 rfl
theorem Facts.m_first_pulling (T : Facts K mg) : mg "first_pulling" = some (.ref (He.ga K "first_pulling")) := T.glo 16 rfl
theorem Facts.m_last_bearing (T : Facts K mg) : mg "last_bearing" = some (.ref (He.ga K "last_bearing")) := T.glo 17 rfl
theorem Facts.m_to_move (T : Facts K mg) : mg "to_move" = some (.ref (He.ga K "to_move")) := T.glo 18 rfl
theorem Facts.m_level_pulls (T : Facts K mg) : mg "level_pulls" = some (.ref (He.ga K "level_pulls")) := T.glo 19 rfl
theorem Facts.m_twin (T : Facts K mg) : mg "twin" = some (.ref (He.ga K "twin")) := T.glo 20 rfl
theorem Facts.m_left_with (T : Facts K mg) : mg "left_with" = some (.ref (He.ga K "left_with")) := T.glo 21 rfl
theorem Facts.m_moment_with (T : Facts K mg) : mg "moment_with" = some (.ref (He.ga K "moment_with")) := T.glo 22 rfl
theorem Facts.m_left_of (T : Facts K mg) : mg "left_of" = some (.ref (He.ga K "left_of")) := T.glo 23 rfl
theorem Facts.m_moment_now (T : Facts K mg) : mg "moment_now" = some (.ref (He.ga K "moment_now")) := T.glo 24 rfl
theorem Facts.m_told_moment (T : Facts K mg) : mg "told_moment" = some (.ref (He.ga K "told_moment")) := T.glo 25 rfl
theorem Facts.m_loads_of (T : Facts K mg) : mg "loads_of" = some (.ref (He.ga K "loads_of")) := T.glo 26 rfl
theorem Facts.m_hooked_lines (T : Facts K mg) : mg "hooked_lines" = some (.ref (He.ga K "hooked_lines")) := T.glo 27 rfl
theorem Facts.m_hooked_loads (T : Facts K mg) : mg "hooked_loads" = some (.ref (He.ga K "hooked_loads")) := T.glo 28 rfl
theorem Facts.m_hangs_with (T : Facts K mg) : mg "hangs_with" = some (.ref (He.ga K "hangs_with")) := T.glo 29 rfl
theorem Facts.m_hangs (T : Facts K mg) : mg "hangs" = some (.ref (He.ga K "hangs")) := T.glo 30 rfl
theorem Facts.m_pulls_now (T : Facts K mg) : mg "pulls_now" = some (.ref (He.ga K "pulls_now")) := T.glo 31 rfl
theorem Facts.m_pass_minute (T : Facts K mg) : mg "pass_minute" = some (.ref (He.ga K "pass_minute")) := T.glo 32 rfl
theorem Facts.m_is_place (T : Facts K mg) : mg "is_place" = some (.ref (He.ga K "is_place")) := T.glo 33 rfl
theorem Facts.m_is_within (T : Facts K mg) : mg "is_within" = some (.ref (He.ga K "is_within")) := T.glo 34 rfl
theorem Facts.m_refused (T : Facts K mg) : mg "refused" = some (.ref (He.ga K "refused")) := T.glo 35 rfl
theorem Facts.m_put_room (T : Facts K mg) : mg "put_room" = some (.ref (He.ga K "put_room")) := T.glo 36 rfl
theorem Facts.m_put_line (T : Facts K mg) : mg "put_line" = some (.ref (He.ga K "put_line")) := T.glo 37 rfl
theorem Facts.m_patch (T : Facts K mg) : mg "patch" = some (.ref (He.ga K "patch")) := T.glo 38 rfl
theorem Facts.m_pump (T : Facts K mg) : mg "pump" = some (.ref (He.ga K "pump")) := T.glo 39 rfl
theorem Facts.m_hook (T : Facts K mg) : mg "hook" = some (.ref (He.ga K "hook")) := T.glo 40 rfl
theorem Facts.m_minutes (T : Facts K mg) : mg "minutes" = some (.ref (He.ga K "minutes")) := T.glo 41 rfl
theorem Facts.m_haul (T : Facts K mg) : mg "haul" = some (.ref (He.ga K "haul")) := T.glo 42 rfl
theorem Facts.m_lower (T : Facts K mg) : mg "lower" = some (.ref (He.ga K "lower")) := T.glo 43 rfl
theorem Facts.m_has_bit (T : Facts K mg) : mg "has_bit" = some (.ref (He.ga K "has_bit")) := T.glo 44 rfl
theorem Facts.m_chosen (T : Facts K mg) : mg "chosen" = some (.ref (He.ga K "chosen")) := T.glo 45 rfl
theorem Facts.m_dried (T : Facts K mg) : mg "dried" = some (.ref (He.ga K "dried")) := T.glo 46 rfl
theorem Facts.m_hangs_dried (T : Facts K mg) : mg "hangs_dried" = some (.ref (He.ga K "hangs_dried")) := T.glo 47 rfl
theorem Facts.m_least_work (T : Facts K mg) : mg "least_work" = some (.ref (He.ga K "least_work")) := T.glo 48 rfl
theorem Facts.m_fewest_lines (T : Facts K mg) : mg "fewest_lines" = some (.ref (He.ga K "fewest_lines")) := T.glo 49 rfl
theorem Facts.m_tell_can (T : Facts K mg) : mg "tell_can" = some (.ref (He.ga K "tell_can")) := T.glo 50 rfl
theorem Facts.m_tell_net (T : Facts K mg) : mg "tell_net" = some (.ref (He.ga K "tell_net")) := T.glo 51 rfl
theorem Facts.m_tell_bears (T : Facts K mg) : mg "tell_bears" = some (.ref (He.ga K "tell_bears")) := T.glo 52 rfl
theorem Facts.m_tell_pull (T : Facts K mg) : mg "tell_pull" = some (.ref (He.ga K "tell_pull")) := T.glo 53 rfl
theorem Facts.m_tell_pulls (T : Facts K mg) : mg "tell_pulls" = some (.ref (He.ga K "tell_pulls")) := T.glo 54 rfl
theorem Facts.m_tell_range (T : Facts K mg) : mg "tell_range" = some (.ref (He.ga K "tell_range")) := T.glo 55 rfl
theorem Facts.m_tell_work (T : Facts K mg) : mg "tell_work" = some (.ref (He.ga K "tell_work")) := T.glo 56 rfl
theorem Facts.m_tell_would (T : Facts K mg) : mg "tell_would" = some (.ref (He.ga K "tell_would")) := T.glo 57 rfl
theorem Facts.m_tell_few (T : Facts K mg) : mg "tell_few" = some (.ref (He.ga K "tell_few")) := T.glo 58 rfl
theorem Facts.m_tell_without (T : Facts K mg) : mg "tell_without" = some (.ref (He.ga K "tell_without")) := T.glo 59 rfl
theorem Facts.m_tell_dry (T : Facts K mg) : mg "tell_dry" = some (.ref (He.ga K "tell_dry")) := T.glo 60 rfl
theorem Facts.m_tell_look (T : Facts K mg) : mg "tell_look" = some (.ref (He.ga K "tell_look")) := T.glo 61 rfl
theorem Facts.m_tell_see (T : Facts K mg) : mg "tell_see" = some (.ref (He.ga K "tell_see")) := T.glo 62 rfl
theorem Facts.m_tell_lifts (T : Facts K mg) : mg "tell_lifts" = some (.ref (He.ga K "tell_lifts")) := T.glo 63 rfl
theorem Facts.m_tell_here (T : Facts K mg) : mg "tell_here" = some (.ref (He.ga K "tell_here")) := T.glo 64 rfl
theorem Facts.m_tell_water (T : Facts K mg) : mg "tell_water" = some (.ref (He.ga K "tell_water")) := T.glo 65 rfl
theorem Facts.m_patched_bits (T : Facts K mg) : mg "patched_bits" = some (.ref (He.ga K "patched_bits")) := T.glo 66 rfl
theorem Facts.m_changed (T : Facts K mg) : mg "changed" = some (.ref (He.ga K "changed")) := T.glo 67 rfl
theorem Facts.m_looked (T : Facts K mg) : mg "looked" = some (.ref (He.ga K "looked")) := T.glo 68 rfl
theorem Facts.m_answered (T : Facts K mg) : mg "answered" = some (.ref (He.ga K "answered")) := T.glo 69 rfl
theorem Facts.m_answers (T : Facts K mg) : mg "answers" = some (.ref (He.ga K "answers")) := T.glo 70 rfl
theorem Facts.m_Stand (T : Facts K mg) : mg "Stand" = some (.ref (He.ga K "Stand")) := T.glo 71 rfl
theorem Facts.cl_Stand (T : Facts K mg) : Cls K (He.ga K "Stand") := He.cls_ok (T.at_ 72 (f := .cls "Stand") rfl)
theorem Facts.mk_Stand (T : Facts K mg) : Mk K (He.ga K "Stand") (He.ma K (He.ga K "Stand") "__init__") := He.mkr_ok (T.at_ 73 (f := .mkr "Stand") rfl)
theorem Facts.m_Desk (T : Facts K mg) : mg "Desk" = some (.ref (He.ga K "Desk")) := T.glo 74 rfl
theorem Facts.cl_Desk (T : Facts K mg) : Cls K (He.ga K "Desk") := He.cls_ok (T.at_ 75 (f := .cls "Desk") rfl)
theorem Facts.mk_Desk (T : Facts K mg) : Mk K (He.ga K "Desk") (He.ma K (He.ga K "Desk") "__init__") := He.mkr_ok (T.at_ 76 (f := .mkr "Desk") rfl)
theorem Facts.m_CHANGES (T : Facts K mg) : mg "CHANGES" = some (.ref (He.ga K "CHANGES")) := T.glo 77 rfl
theorem Facts.m_LOOKS (T : Facts K mg) : mg "LOOKS" = some (.ref (He.ga K "LOOKS")) := T.glo 78 rfl
theorem Facts.m_SIZES (T : Facts K mg) : mg "SIZES" = some (.ref (He.ga K "SIZES")) := T.glo 79 rfl
theorem Facts.g_LIFT (T : Facts K mg) : ∃ t, mg "LIFT" = some (.int (1025) t) := T.int 80 rfl
theorem Facts.g_LONGEST (T : Facts K mg) : ∃ t, mg "LONGEST" = some (.int (1440) t) := T.int 81 rfl
theorem Facts.g_GRAMS (T : Facts K mg) : ∃ t, mg "GRAMS" = some (.int (1000) t) := T.int 82 rfl
theorem Facts.g_TOLD (T : Facts K mg) : ∃ t, mg "TOLD" = some (.int (100000) t) := T.int 83 rfl
theorem Facts.g_MORE (T : Facts K mg) : ∃ t, mg "MORE" = some (.int (1000000000) t) := T.int 84 rfl
theorem Facts.g_FARTHEST (T : Facts K mg) : ∃ t, mg "FARTHEST" = some (.int (5000) t) := T.int 85 rfl
theorem Facts.g_MOST_ROOMS (T : Facts K mg) : ∃ t, mg "MOST_ROOMS" = some (.int (6) t) := T.int 86 rfl
theorem Facts.g_MOST_LINES_changes (T : Facts K mg) : ∃ t, mg "MOST_LINES_changes" = some (.int (4) t) := T.int 87 rfl
theorem Facts.g_MOST_MINUTES (T : Facts K mg) : ∃ t, mg "MOST_MINUTES" = some (.int (1440) t) := T.int 88 rfl
theorem Facts.g_LAST_MINUTE (T : Facts K mg) : ∃ t, mg "LAST_MINUTE" = some (.int (100000) t) := T.int 89 rfl
theorem Facts.g_MORE_KG (T : Facts K mg) : ∃ t, mg "MORE_KG" = some (.int (10000000) t) := T.int 90 rfl
theorem Facts.g_MORE_PLACE (T : Facts K mg) : ∃ t, mg "MORE_PLACE" = some (.int (5000) t) := T.int 91 rfl
theorem Facts.g_MOST_LINES_looks (T : Facts K mg) : ∃ t, mg "MOST_LINES_looks" = some (.int (4) t) := T.int 92 rfl
theorem Facts.g_MOST_BACK (T : Facts K mg) : ∃ t, mg "MOST_BACK" = some (.int (30) t) := T.int 93 rfl
theorem Facts.g_START (T : Facts K mg) : ∃ t, mg "START" = some (.int (0) t) := T.int 94 rfl
theorem Facts.g_BACK (T : Facts K mg) : ∃ t, mg "BACK" = some (.int (25) t) := T.int 95 rfl
theorem Facts.g_AGAIN (T : Facts K mg) : ∃ t, mg "AGAIN" = some (.int (26) t) := T.int 96 rfl
theorem Facts.g_STATE (T : Facts K mg) : ∃ t, mg "STATE" = some (.int (27) t) := T.int 97 rfl
theorem Facts.n_sum (T : Facts K mg) : mg "sum" = none := T.free 98 rfl
theorem Facts.n_min (T : Facts K mg) : mg "min" = none := T.free 99 rfl
theorem Facts.n_max (T : Facts K mg) : mg "max" = none := T.free 100 rfl
theorem Facts.n_range (T : Facts K mg) : mg "range" = none := T.free 101 rfl
theorem Facts.n_len (T : Facts K mg) : mg "len" = none := T.free 102 rfl
theorem Facts.n_sorted (T : Facts K mg) : mg "sorted" = none := T.free 103 rfl
theorem Facts.n_list (T : Facts K mg) : mg "list" = none := T.free 104 rfl
theorem Facts.n_int (T : Facts K mg) : mg "int" = none := T.free 105 rfl
theorem Facts.na_Stand_kg (T : Facts K mg) : NoAttr K (He.ga K "Stand") "kg" := He.noat_ok (T.at_ 106 (f := .noat "Stand" "kg") rfl)
theorem Facts.na_Stand_place (T : Facts K mg) : NoAttr K (He.ga K "Stand") "place" := He.noat_ok (T.at_ 107 (f := .noat "Stand" "place") rfl)
theorem Facts.na_Stand_tilt (T : Facts K mg) : NoAttr K (He.ga K "Stand") "tilt" := He.noat_ok (T.at_ 108 (f := .noat "Stand" "tilt") rfl)
theorem Facts.na_Stand_depth (T : Facts K mg) : NoAttr K (He.ga K "Stand") "depth" := He.noat_ok (T.at_ 109 (f := .noat "Stand" "depth") rfl)
theorem Facts.na_Stand_rooms (T : Facts K mg) : NoAttr K (He.ga K "Stand") "rooms" := He.noat_ok (T.at_ 110 (f := .noat "Stand" "rooms") rfl)
theorem Facts.na_Stand_lines (T : Facts K mg) : NoAttr K (He.ga K "Stand") "lines" := He.noat_ok (T.at_ 111 (f := .noat "Stand" "lines") rfl)
theorem Facts.na_Stand_minute (T : Facts K mg) : NoAttr K (He.ga K "Stand") "minute" := He.noat_ok (T.at_ 112 (f := .noat "Stand" "minute") rfl)
theorem Facts.na_Stand_height (T : Facts K mg) : NoAttr K (He.ga K "Stand") "height" := He.noat_ok (T.at_ 113 (f := .noat "Stand" "height") rfl)
theorem Facts.na_Stand_drops (T : Facts K mg) : NoAttr K (He.ga K "Stand") "drops" := He.noat_ok (T.at_ 114 (f := .noat "Stand" "drops") rfl)
theorem Facts.na_Stand_leaked (T : Facts K mg) : NoAttr K (He.ga K "Stand") "leaked" := He.noat_ok (T.at_ 115 (f := .noat "Stand" "leaked") rfl)
theorem Facts.na_Stand_pumped (T : Facts K mg) : NoAttr K (He.ga K "Stand") "pumped" := He.noat_ok (T.at_ 116 (f := .noat "Stand" "pumped") rfl)
theorem Facts.na_Desk_stand (T : Facts K mg) : NoAttr K (He.ga K "Desk") "stand" := He.noat_ok (T.at_ 117 (f := .noat "Desk" "stand") rfl)
theorem Facts.na_Desk_ahead (T : Facts K mg) : NoAttr K (He.ga K "Desk") "ahead" := He.noat_ok (T.at_ 118 (f := .noat "Desk" "ahead") rfl)
theorem Facts.na_Desk_gone (T : Facts K mg) : NoAttr K (He.ga K "Desk") "gone" := He.noat_ok (T.at_ 119 (f := .noat "Desk" "gone") rfl)
theorem Facts.me_Desk_start (T : Facts K mg) : Meth K (He.ga K "Desk") "start" (He.ma K (He.ga K "Desk") "start") := He.meth_ok (T.at_ 120 (f := .meth "Desk" "start") rfl)
theorem Facts.me_Desk_go_on (T : Facts K mg) : Meth K (He.ga K "Desk") "go_on" (He.ma K (He.ga K "Desk") "go_on") := He.meth_ok (T.at_ 121 (f := .meth "Desk" "go_on") rfl)
theorem Facts.me_Desk_take_back (T : Facts K mg) : Meth K (He.ga K "Desk") "take_back" (He.ma K (He.ga K "Desk") "take_back") := He.meth_ok (T.at_ 122 (f := .meth "Desk" "take_back") rfl)
theorem Facts.me_Desk_do_again (T : Facts K mg) : Meth K (He.ga K "Desk") "do_again" (He.ma K (He.ga K "Desk") "do_again") := He.meth_ok (T.at_ 123 (f := .meth "Desk" "do_again") rfl)
theorem Facts.me_Desk_tell_state (T : Facts K mg) : Meth K (He.ga K "Desk") "tell_state" (He.ma K (He.ga K "Desk") "tell_state") := He.meth_ok (T.at_ 124 (f := .meth "Desk" "tell_state") rfl)
theorem Facts.raw_new_room (T : Facts K mg) : Raw K mg "new_room" s_new_room ["most", "place", "leak"] := by
  obtain ⟨fd, F⟩ := T.d.def_ 0 (d := d_new_room) rfl
  exact ⟨fd, T.m_new_room, F.bindsN (ps := ["most", "place", "leak"]) fun _ _ _ _ _ _ us hl => match us, hl with | [_, _, _], _ => rfl, F⟩
theorem Facts.raw_patched_room (T : Facts K mg) : Raw K mg "patched_room" s_patched_room ["room"] := by
  obtain ⟨fd, F⟩ := T.d.def_ 1 (d := d_patched_room) rfl
  exact ⟨fd, T.m_patched_room, F.bindsN (ps := ["room"]) fun _ _ _ _ _ _ us hl => match us, hl with | [_], _ => rfl, F⟩
theorem Facts.raw_pumped_room (T : Facts K mg) : Raw K mg "pumped_room" s_pumped_room ["room", "rate"] := by
  obtain ⟨fd, F⟩ := T.d.def_ 2 (d := d_pumped_room) rfl
  exact ⟨fd, T.m_pumped_room, F.bindsN (ps := ["room", "rate"]) fun _ _ _ _ _ _ us hl => match us, hl with | [_, _], _ => rfl, F⟩
theorem Facts.raw_room_with (T : Facts K mg) : Raw K mg "room_with" s_room_with ["room", "water"] := by
  obtain ⟨fd, F⟩ := T.d.def_ 3 (d := d_room_with) rfl
  exact ⟨fd, T.m_room_with, F.bindsN (ps := ["room", "water"]) fun _ _ _ _ _ _ us hl => match us, hl with | [_, _], _ => rfl, F⟩
theorem Facts.raw_water_in (T : Facts K mg) : Raw K mg "water_in" s_water_in ["rooms"] := by
  obtain ⟨fd, F⟩ := T.d.def_ 4 (d := d_water_in) rfl
  exact ⟨fd, T.m_water_in, F.bindsN (ps := ["rooms"]) fun _ _ _ _ _ _ us hl => match us, hl with | [_], _ => rfl, F⟩
theorem Facts.raw_air_grams (T : Facts K mg) : Raw K mg "air_grams" s_air_grams ["room"] := by
  obtain ⟨fd, F⟩ := T.d.def_ 5 (d := d_air_grams) rfl
  exact ⟨fd, T.m_air_grams, F.bindsN (ps := ["room"]) fun _ _ _ _ _ _ us hl => match us, hl with | [_], _ => rfl, F⟩
theorem Facts.raw_leaking_in (T : Facts K mg) : Raw K mg "leaking_in" s_leaking_in ["room"] := by
  obtain ⟨fd, F⟩ := T.d.def_ 6 (d := d_leaking_in) rfl
  exact ⟨fd, T.m_leaking_in, F.bindsN (ps := ["room"]) fun _ _ _ _ _ _ us hl => match us, hl with | [_], _ => rfl, F⟩
theorem Facts.raw_after_minute (T : Facts K mg) : Raw K mg "after_minute" s_after_minute ["room"] := by
  obtain ⟨fd, F⟩ := T.d.def_ 7 (d := d_after_minute) rfl
  exact ⟨fd, T.m_after_minute, F.bindsN (ps := ["room"]) fun _ _ _ _ _ _ us hl => match us, hl with | [_], _ => rfl, F⟩
theorem Facts.raw_minutes_till_dry (T : Facts K mg) : Raw K mg "minutes_till_dry" s_minutes_till_dry ["room"] := by
  obtain ⟨fd, F⟩ := T.d.def_ 8 (d := d_minutes_till_dry) rfl
  exact ⟨fd, T.m_minutes_till_dry, F.bindsN (ps := ["room"]) fun _ _ _ _ _ _ us hl => match us, hl with | [_], _ => rfl, F⟩
theorem Facts.raw_borne (T : Facts K mg) : Raw K mg "borne" s_borne ["loads"] := by
  obtain ⟨fd, F⟩ := T.d.def_ 9 (d := d_borne) rfl
  exact ⟨fd, T.m_borne, F.bindsN (ps := ["loads"]) fun _ _ _ _ _ _ us hl => match us, hl with | [_], _ => rfl, F⟩
theorem Facts.raw_poured (T : Facts K mg) : Raw K mg "poured" s_poured ["loads", "need"] := by
  obtain ⟨fd, F⟩ := T.d.def_ 10 (d := d_poured) rfl
  exact ⟨fd, T.m_poured, F.bindsN (ps := ["loads", "need"]) fun _ _ _ _ _ _ us hl => match us, hl with | [_, _], _ => rfl, F⟩
theorem Facts.raw_poured_back (T : Facts K mg) : Raw K mg "poured_back" s_poured_back ["loads", "need"] := by
  obtain ⟨fd, F⟩ := T.d.def_ 11 (d := d_poured_back) rfl
  exact ⟨fd, T.m_poured_back, F.bindsN (ps := ["loads", "need"]) fun _ _ _ _ _ _ us hl => match us, hl with | [_, _], _ => rfl, F⟩
theorem Facts.raw_moment_of (T : Facts K mg) : Raw K mg "moment_of" s_moment_of ["loads", "pulls"] := by
  obtain ⟨fd, F⟩ := T.d.def_ 12 (d := d_moment_of) rfl
  exact ⟨fd, T.m_moment_of, F.bindsN (ps := ["loads", "pulls"]) fun _ _ _ _ _ _ us hl => match us, hl with | [_, _], _ => rfl, F⟩
theorem Facts.raw_least_moment (T : Facts K mg) : Raw K mg "least_moment" s_least_moment ["loads", "left"] := by
  obtain ⟨fd, F⟩ := T.d.def_ 13 (d := d_least_moment) rfl
  exact ⟨fd, T.m_least_moment, F.bindsN (ps := ["loads", "left"]) fun _ _ _ _ _ _ us hl => match us, hl with | [_, _], _ => rfl, F⟩
theorem Facts.raw_greatest_moment (T : Facts K mg) : Raw K mg "greatest_moment" s_greatest_moment ["loads", "left"] := by
  obtain ⟨fd, F⟩ := T.d.def_ 14 (d := d_greatest_moment) rfl
  exact ⟨fd, T.m_greatest_moment, F.bindsN (ps := ["loads", "left"]) fun _ _ _ _ _ _ us hl => match us, hl with | [_, _], _ => rfl, F⟩
theorem Facts.raw_can_hang (T : Facts K mg) : Raw K mg "can_hang" s_can_hang ["loads", "left", "moment", "tilt"] := by
  obtain ⟨fd, F⟩ := T.d.def_ 15 (d := d_can_hang) rfl
  exact ⟨fd, T.m_can_hang, F.bindsN (ps := ["loads", "left", "moment", "tilt"]) fun _ _ _ _ _ _ us hl => match us, hl with | [_, _, _, _], _ => rfl, F⟩
theorem Facts.raw_first_pulling (T : Facts K mg) : Raw K mg "first_pulling" s_first_pulling ["pulls"] := by
  obtain ⟨fd, F⟩ := T.d.def_ 16 (d := d_first_pulling) rfl
  exact ⟨fd, T.m_first_pulling, F.bindsN (ps := ["pulls"]) fun _ _ _ _ _ _ us hl => match us, hl with | [_], _ => rfl, F⟩
theorem Facts.raw_last_bearing (T : Facts K mg) : Raw K mg "last_bearing" s_last_bearing ["loads", "pulls"] := by
  obtain ⟨fd, F⟩ := T.d.def_ 17 (d := d_last_bearing) rfl
  exact ⟨fd, T.m_last_bearing, F.bindsN (ps := ["loads", "pulls"]) fun _ _ _ _ _ _ us hl => match us, hl with | [_, _], _ => rfl, F⟩
theorem Facts.raw_to_move (T : Facts K mg) : Raw K mg "to_move" s_to_move ["loads", "pulls", "first", "last", "lack"] := by
  obtain ⟨fd, F⟩ := T.d.def_ 18 (d := d_to_move) rfl
  exact ⟨fd, T.m_to_move, F.bindsN (ps := ["loads", "pulls", "first", "last", "lack"]) fun _ _ _ _ _ _ us hl => match us, hl with | [_, _, _, _, _], _ => rfl, F⟩
theorem Facts.raw_level_pulls (T : Facts K mg) : Raw K mg "level_pulls" s_level_pulls ["loads", "left", "moment"] := by
  obtain ⟨fd, F⟩ := T.d.def_ 19 (d := d_level_pulls) rfl
  exact ⟨fd, T.m_level_pulls, F.bindsN (ps := ["loads", "left", "moment"]) fun _ _ _ _ _ _ us hl => match us, hl with | [_, _, _], _ => rfl, F⟩
theorem Facts.raw_Stand_init (T : Facts K mg) : RawM K "Stand" "__init__" "Stand.__init__" s_Stand_init ["self", "kg", "place", "tilt", "depth"] := by
  obtain ⟨fd, F⟩ := T.d.def_ 20 (d := d_Stand_init) rfl
  exact ⟨fd, F.bindsN (ps := ["self", "kg", "place", "tilt", "depth"]) fun _ _ _ _ _ _ us hl => match us, hl with | [_, _, _, _, _], _ => rfl, F⟩
theorem Facts.raw_twin (T : Facts K mg) : Raw K mg "twin" s_twin ["stand"] := by
  obtain ⟨fd, F⟩ := T.d.def_ 21 (d := d_twin) rfl
  exact ⟨fd, T.m_twin, F.bindsN (ps := ["stand"]) fun _ _ _ _ _ _ us hl => match us, hl with | [_], _ => rfl, F⟩
theorem Facts.raw_left_with (T : Facts K mg) : Raw K mg "left_with" s_left_with ["stand", "rooms"] := by
  obtain ⟨fd, F⟩ := T.d.def_ 22 (d := d_left_with) rfl
  exact ⟨fd, T.m_left_with, F.bindsN (ps := ["stand", "rooms"]) fun _ _ _ _ _ _ us hl => match us, hl with | [_, _], _ => rfl, F⟩
theorem Facts.raw_moment_with (T : Facts K mg) : Raw K mg "moment_with" s_moment_with ["stand", "rooms"] := by
  obtain ⟨fd, F⟩ := T.d.def_ 23 (d := d_moment_with) rfl
  exact ⟨fd, T.m_moment_with, F.bindsN (ps := ["stand", "rooms"]) fun _ _ _ _ _ _ us hl => match us, hl with | [_, _], _ => rfl, F⟩
theorem Facts.raw_left_of (T : Facts K mg) : Raw K mg "left_of" s_left_of ["stand"] := by
  obtain ⟨fd, F⟩ := T.d.def_ 24 (d := d_left_of) rfl
  exact ⟨fd, T.m_left_of, F.bindsN (ps := ["stand"]) fun _ _ _ _ _ _ us hl => match us, hl with | [_], _ => rfl, F⟩
theorem Facts.raw_moment_now (T : Facts K mg) : Raw K mg "moment_now" s_moment_now ["stand"] := by
  obtain ⟨fd, F⟩ := T.d.def_ 25 (d := d_moment_now) rfl
  exact ⟨fd, T.m_moment_now, F.bindsN (ps := ["stand"]) fun _ _ _ _ _ _ us hl => match us, hl with | [_], _ => rfl, F⟩
theorem Facts.raw_told_moment (T : Facts K mg) : Raw K mg "told_moment" s_told_moment ["moment"] := by
  obtain ⟨fd, F⟩ := T.d.def_ 26 (d := d_told_moment) rfl
  exact ⟨fd, T.m_told_moment, F.bindsN (ps := ["moment"]) fun _ _ _ _ _ _ us hl => match us, hl with | [_], _ => rfl, F⟩
theorem Facts.raw_loads_of (T : Facts K mg) : Raw K mg "loads_of" s_loads_of ["lines"] := by
  obtain ⟨fd, F⟩ := T.d.def_ 27 (d := d_loads_of) rfl
  exact ⟨fd, T.m_loads_of, F.bindsN (ps := ["lines"]) fun _ _ _ _ _ _ us hl => match us, hl with | [_], _ => rfl, F⟩
theorem Facts.raw_hooked_lines (T : Facts K mg) : Raw K mg "hooked_lines" s_hooked_lines ["stand"] := by
  obtain ⟨fd, F⟩ := T.d.def_ 28 (d := d_hooked_lines) rfl
  exact ⟨fd, T.m_hooked_lines, F.bindsN (ps := ["stand"]) fun _ _ _ _ _ _ us hl => match us, hl with | [_], _ => rfl, F⟩
theorem Facts.raw_hooked_loads (T : Facts K mg) : Raw K mg "hooked_loads" s_hooked_loads ["stand"] := by
  obtain ⟨fd, F⟩ := T.d.def_ 29 (d := d_hooked_loads) rfl
  exact ⟨fd, T.m_hooked_loads, F.bindsN (ps := ["stand"]) fun _ _ _ _ _ _ us hl => match us, hl with | [_], _ => rfl, F⟩
theorem Facts.raw_hangs_with (T : Facts K mg) : Raw K mg "hangs_with" s_hangs_with ["stand", "rooms", "lines"] := by
  obtain ⟨fd, F⟩ := T.d.def_ 30 (d := d_hangs_with) rfl
  exact ⟨fd, T.m_hangs_with, F.bindsN (ps := ["stand", "rooms", "lines"]) fun _ _ _ _ _ _ us hl => match us, hl with | [_, _, _], _ => rfl, F⟩
theorem Facts.raw_hangs (T : Facts K mg) : Raw K mg "hangs" s_hangs ["stand"] := by
  obtain ⟨fd, F⟩ := T.d.def_ 31 (d := d_hangs) rfl
  exact ⟨fd, T.m_hangs, F.bindsN (ps := ["stand"]) fun _ _ _ _ _ _ us hl => match us, hl with | [_], _ => rfl, F⟩
theorem Facts.raw_pulls_now (T : Facts K mg) : Raw K mg "pulls_now" s_pulls_now ["stand"] := by
  obtain ⟨fd, F⟩ := T.d.def_ 32 (d := d_pulls_now) rfl
  exact ⟨fd, T.m_pulls_now, F.bindsN (ps := ["stand"]) fun _ _ _ _ _ _ us hl => match us, hl with | [_], _ => rfl, F⟩
theorem Facts.raw_pass_minute (T : Facts K mg) : Raw K mg "pass_minute" s_pass_minute ["stand"] := by
  obtain ⟨fd, F⟩ := T.d.def_ 33 (d := d_pass_minute) rfl
  exact ⟨fd, T.m_pass_minute, F.bindsN (ps := ["stand"]) fun _ _ _ _ _ _ us hl => match us, hl with | [_], _ => rfl, F⟩
theorem Facts.raw_is_place (T : Facts K mg) : Raw K mg "is_place" s_is_place ["place"] := by
  obtain ⟨fd, F⟩ := T.d.def_ 34 (d := d_is_place) rfl
  exact ⟨fd, T.m_is_place, F.bindsN (ps := ["place"]) fun _ _ _ _ _ _ us hl => match us, hl with | [_], _ => rfl, F⟩
theorem Facts.raw_is_within (T : Facts K mg) : Raw K mg "is_within" s_is_within ["number", "least", "most"] := by
  obtain ⟨fd, F⟩ := T.d.def_ 35 (d := d_is_within) rfl
  exact ⟨fd, T.m_is_within, F.bindsN (ps := ["number", "least", "most"]) fun _ _ _ _ _ _ us hl => match us, hl with | [_, _, _], _ => rfl, F⟩
theorem Facts.raw_refused (T : Facts K mg) : Raw K mg "refused" s_refused ["number"] := by
  obtain ⟨fd, F⟩ := T.d.def_ 36 (d := d_refused) rfl
  exact ⟨fd, T.m_refused, F.bindsN (ps := ["number"]) fun _ _ _ _ _ _ us hl => match us, hl with | [_], _ => rfl, F⟩
theorem Facts.raw_put_room (T : Facts K mg) : Raw K mg "put_room" s_put_room ["stand", "numbers"] := by
  obtain ⟨fd, F⟩ := T.d.def_ 37 (d := d_put_room) rfl
  exact ⟨fd, T.m_put_room, F.bindsN (ps := ["stand", "numbers"]) fun _ _ _ _ _ _ us hl => match us, hl with | [_, _], _ => rfl, F⟩
theorem Facts.raw_put_line (T : Facts K mg) : Raw K mg "put_line" s_put_line ["stand", "numbers"] := by
  obtain ⟨fd, F⟩ := T.d.def_ 38 (d := d_put_line) rfl
  exact ⟨fd, T.m_put_line, F.bindsN (ps := ["stand", "numbers"]) fun _ _ _ _ _ _ us hl => match us, hl with | [_, _], _ => rfl, F⟩
theorem Facts.raw_patch (T : Facts K mg) : Raw K mg "patch" s_patch ["stand", "numbers"] := by
  obtain ⟨fd, F⟩ := T.d.def_ 39 (d := d_patch) rfl
  exact ⟨fd, T.m_patch, F.bindsN (ps := ["stand", "numbers"]) fun _ _ _ _ _ _ us hl => match us, hl with | [_, _], _ => rfl, F⟩
theorem Facts.raw_pump (T : Facts K mg) : Raw K mg "pump" s_pump ["stand", "numbers"] := by
  obtain ⟨fd, F⟩ := T.d.def_ 40 (d := d_pump) rfl
  exact ⟨fd, T.m_pump, F.bindsN (ps := ["stand", "numbers"]) fun _ _ _ _ _ _ us hl => match us, hl with | [_, _], _ => rfl, F⟩
theorem Facts.raw_hook (T : Facts K mg) : Raw K mg "hook" s_hook ["stand", "numbers"] := by
  obtain ⟨fd, F⟩ := T.d.def_ 41 (d := d_hook) rfl
  exact ⟨fd, T.m_hook, F.bindsN (ps := ["stand", "numbers"]) fun _ _ _ _ _ _ us hl => match us, hl with | [_, _], _ => rfl, F⟩
theorem Facts.raw_minutes (T : Facts K mg) : Raw K mg "minutes" s_minutes ["stand", "numbers"] := by
  obtain ⟨fd, F⟩ := T.d.def_ 42 (d := d_minutes) rfl
  exact ⟨fd, T.m_minutes, F.bindsN (ps := ["stand", "numbers"]) fun _ _ _ _ _ _ us hl => match us, hl with | [_, _], _ => rfl, F⟩
theorem Facts.raw_haul (T : Facts K mg) : Raw K mg "haul" s_haul ["stand", "numbers"] := by
  obtain ⟨fd, F⟩ := T.d.def_ 43 (d := d_haul) rfl
  exact ⟨fd, T.m_haul, F.bindsN (ps := ["stand", "numbers"]) fun _ _ _ _ _ _ us hl => match us, hl with | [_, _], _ => rfl, F⟩
theorem Facts.raw_lower (T : Facts K mg) : Raw K mg "lower" s_lower ["stand", "numbers"] := by
  obtain ⟨fd, F⟩ := T.d.def_ 44 (d := d_lower) rfl
  exact ⟨fd, T.m_lower, F.bindsN (ps := ["stand", "numbers"]) fun _ _ _ _ _ _ us hl => match us, hl with | [_, _], _ => rfl, F⟩
theorem Facts.raw_has_bit (T : Facts K mg) : Raw K mg "has_bit" s_has_bit ["bits", "k"] := by
  obtain ⟨fd, F⟩ := T.d.def_ 45 (d := d_has_bit) rfl
  exact ⟨fd, T.m_has_bit, F.bindsN (ps := ["bits", "k"]) fun _ _ _ _ _ _ us hl => match us, hl with | [_, _], _ => rfl, F⟩
theorem Facts.raw_chosen (T : Facts K mg) : Raw K mg "chosen" s_chosen ["things", "bits"] := by
  obtain ⟨fd, F⟩ := T.d.def_ 46 (d := d_chosen) rfl
  exact ⟨fd, T.m_chosen, F.bindsN (ps := ["things", "bits"]) fun _ _ _ _ _ _ us hl => match us, hl with | [_, _], _ => rfl, F⟩
theorem Facts.raw_dried (T : Facts K mg) : Raw K mg "dried" s_dried ["rooms", "bits"] := by
  obtain ⟨fd, F⟩ := T.d.def_ 47 (d := d_dried) rfl
  exact ⟨fd, T.m_dried, F.bindsN (ps := ["rooms", "bits"]) fun _ _ _ _ _ _ us hl => match us, hl with | [_, _], _ => rfl, F⟩
theorem Facts.raw_hangs_dried (T : Facts K mg) : Raw K mg "hangs_dried" s_hangs_dried ["stand", "bits"] := by
  obtain ⟨fd, F⟩ := T.d.def_ 48 (d := d_hangs_dried) rfl
  exact ⟨fd, T.m_hangs_dried, F.bindsN (ps := ["stand", "bits"]) fun _ _ _ _ _ _ us hl => match us, hl with | [_, _], _ => rfl, F⟩
theorem Facts.raw_least_work (T : Facts K mg) : Raw K mg "least_work" s_least_work ["stand"] := by
  obtain ⟨fd, F⟩ := T.d.def_ 49 (d := d_least_work) rfl
  exact ⟨fd, T.m_least_work, F.bindsN (ps := ["stand"]) fun _ _ _ _ _ _ us hl => match us, hl with | [_], _ => rfl, F⟩
theorem Facts.raw_fewest_lines (T : Facts K mg) : Raw K mg "fewest_lines" s_fewest_lines ["stand"] := by
  obtain ⟨fd, F⟩ := T.d.def_ 50 (d := d_fewest_lines) rfl
  exact ⟨fd, T.m_fewest_lines, F.bindsN (ps := ["stand"]) fun _ _ _ _ _ _ us hl => match us, hl with | [_], _ => rfl, F⟩
theorem Facts.raw_tell_can (T : Facts K mg) : Raw K mg "tell_can" s_tell_can ["stand", "numbers"] := by
  obtain ⟨fd, F⟩ := T.d.def_ 51 (d := d_tell_can) rfl
  exact ⟨fd, T.m_tell_can, F.bindsN (ps := ["stand", "numbers"]) fun _ _ _ _ _ _ us hl => match us, hl with | [_, _], _ => rfl, F⟩
theorem Facts.raw_tell_net (T : Facts K mg) : Raw K mg "tell_net" s_tell_net ["stand", "numbers"] := by
  obtain ⟨fd, F⟩ := T.d.def_ 52 (d := d_tell_net) rfl
  exact ⟨fd, T.m_tell_net, F.bindsN (ps := ["stand", "numbers"]) fun _ _ _ _ _ _ us hl => match us, hl with | [_, _], _ => rfl, F⟩
theorem Facts.raw_tell_bears (T : Facts K mg) : Raw K mg "tell_bears" s_tell_bears ["stand", "numbers"] := by
  obtain ⟨fd, F⟩ := T.d.def_ 53 (d := d_tell_bears) rfl
  exact ⟨fd, T.m_tell_bears, F.bindsN (ps := ["stand", "numbers"]) fun _ _ _ _ _ _ us hl => match us, hl with | [_, _], _ => rfl, F⟩
theorem Facts.raw_tell_pull (T : Facts K mg) : Raw K mg "tell_pull" s_tell_pull ["stand", "numbers"] := by
  obtain ⟨fd, F⟩ := T.d.def_ 54 (d := d_tell_pull) rfl
  exact ⟨fd, T.m_tell_pull, F.bindsN (ps := ["stand", "numbers"]) fun _ _ _ _ _ _ us hl => match us, hl with | [_, _], _ => rfl, F⟩
theorem Facts.raw_tell_pulls (T : Facts K mg) : Raw K mg "tell_pulls" s_tell_pulls ["stand", "numbers"] := by
  obtain ⟨fd, F⟩ := T.d.def_ 55 (d := d_tell_pulls) rfl
  exact ⟨fd, T.m_tell_pulls, F.bindsN (ps := ["stand", "numbers"]) fun _ _ _ _ _ _ us hl => match us, hl with | [_, _], _ => rfl, F⟩
theorem Facts.raw_tell_range (T : Facts K mg) : Raw K mg "tell_range" s_tell_range ["stand", "numbers"] := by
  obtain ⟨fd, F⟩ := T.d.def_ 56 (d := d_tell_range) rfl
  exact ⟨fd, T.m_tell_range, F.bindsN (ps := ["stand", "numbers"]) fun _ _ _ _ _ _ us hl => match us, hl with | [_, _], _ => rfl, F⟩
theorem Facts.raw_tell_work (T : Facts K mg) : Raw K mg "tell_work" s_tell_work ["stand", "numbers"] := by
  obtain ⟨fd, F⟩ := T.d.def_ 57 (d := d_tell_work) rfl
  exact ⟨fd, T.m_tell_work, F.bindsN (ps := ["stand", "numbers"]) fun _ _ _ _ _ _ us hl => match us, hl with | [_, _], _ => rfl, F⟩
theorem Facts.raw_tell_would (T : Facts K mg) : Raw K mg "tell_would" s_tell_would ["stand", "numbers"] := by
  obtain ⟨fd, F⟩ := T.d.def_ 58 (d := d_tell_would) rfl
  exact ⟨fd, T.m_tell_would, F.bindsN (ps := ["stand", "numbers"]) fun _ _ _ _ _ _ us hl => match us, hl with | [_, _], _ => rfl, F⟩
theorem Facts.raw_tell_few (T : Facts K mg) : Raw K mg "tell_few" s_tell_few ["stand", "numbers"] := by
  obtain ⟨fd, F⟩ := T.d.def_ 59 (d := d_tell_few) rfl
  exact ⟨fd, T.m_tell_few, F.bindsN (ps := ["stand", "numbers"]) fun _ _ _ _ _ _ us hl => match us, hl with | [_, _], _ => rfl, F⟩
theorem Facts.raw_tell_without (T : Facts K mg) : Raw K mg "tell_without" s_tell_without ["stand", "numbers"] := by
  obtain ⟨fd, F⟩ := T.d.def_ 60 (d := d_tell_without) rfl
  exact ⟨fd, T.m_tell_without, F.bindsN (ps := ["stand", "numbers"]) fun _ _ _ _ _ _ us hl => match us, hl with | [_, _], _ => rfl, F⟩
theorem Facts.raw_tell_dry (T : Facts K mg) : Raw K mg "tell_dry" s_tell_dry ["stand", "numbers"] := by
  obtain ⟨fd, F⟩ := T.d.def_ 61 (d := d_tell_dry) rfl
  exact ⟨fd, T.m_tell_dry, F.bindsN (ps := ["stand", "numbers"]) fun _ _ _ _ _ _ us hl => match us, hl with | [_, _], _ => rfl, F⟩
theorem Facts.raw_tell_look (T : Facts K mg) : Raw K mg "tell_look" s_tell_look ["stand", "numbers"] := by
  obtain ⟨fd, F⟩ := T.d.def_ 62 (d := d_tell_look) rfl
  exact ⟨fd, T.m_tell_look, F.bindsN (ps := ["stand", "numbers"]) fun _ _ _ _ _ _ us hl => match us, hl with | [_, _], _ => rfl, F⟩
theorem Facts.raw_tell_see (T : Facts K mg) : Raw K mg "tell_see" s_tell_see ["stand", "numbers"] := by
  obtain ⟨fd, F⟩ := T.d.def_ 63 (d := d_tell_see) rfl
  exact ⟨fd, T.m_tell_see, F.bindsN (ps := ["stand", "numbers"]) fun _ _ _ _ _ _ us hl => match us, hl with | [_, _], _ => rfl, F⟩
theorem Facts.raw_tell_lifts (T : Facts K mg) : Raw K mg "tell_lifts" s_tell_lifts ["stand", "numbers"] := by
  obtain ⟨fd, F⟩ := T.d.def_ 64 (d := d_tell_lifts) rfl
  exact ⟨fd, T.m_tell_lifts, F.bindsN (ps := ["stand", "numbers"]) fun _ _ _ _ _ _ us hl => match us, hl with | [_, _], _ => rfl, F⟩
theorem Facts.raw_tell_here (T : Facts K mg) : Raw K mg "tell_here" s_tell_here ["stand", "numbers"] := by
  obtain ⟨fd, F⟩ := T.d.def_ 65 (d := d_tell_here) rfl
  exact ⟨fd, T.m_tell_here, F.bindsN (ps := ["stand", "numbers"]) fun _ _ _ _ _ _ us hl => match us, hl with | [_, _], _ => rfl, F⟩
theorem Facts.raw_tell_water (T : Facts K mg) : Raw K mg "tell_water" s_tell_water ["stand", "numbers"] := by
  obtain ⟨fd, F⟩ := T.d.def_ 66 (d := d_tell_water) rfl
  exact ⟨fd, T.m_tell_water, F.bindsN (ps := ["stand", "numbers"]) fun _ _ _ _ _ _ us hl => match us, hl with | [_, _], _ => rfl, F⟩
theorem Facts.raw_patched_bits (T : Facts K mg) : Raw K mg "patched_bits" s_patched_bits ["rooms"] := by
  obtain ⟨fd, F⟩ := T.d.def_ 67 (d := d_patched_bits) rfl
  exact ⟨fd, T.m_patched_bits, F.bindsN (ps := ["rooms"]) fun _ _ _ _ _ _ us hl => match us, hl with | [_], _ => rfl, F⟩
theorem Facts.raw_Desk_init (T : Facts K mg) : RawM K "Desk" "__init__" "Desk.__init__" s_Desk_init ["self"] := by
  obtain ⟨fd, F⟩ := T.d.def_ 68 (d := d_Desk_init) rfl
  exact ⟨fd, F.bindsN (ps := ["self"]) fun _ _ _ _ _ _ us hl => match us, hl with | [_], _ => rfl, F⟩
theorem Facts.raw_Desk_start (T : Facts K mg) : RawM K "Desk" "start" "Desk.start" s_Desk_start ["self", "numbers"] := by
  obtain ⟨fd, F⟩ := T.d.def_ 69 (d := d_Desk_start) rfl
  exact ⟨fd, F.bindsN (ps := ["self", "numbers"]) fun _ _ _ _ _ _ us hl => match us, hl with | [_, _], _ => rfl, F⟩
theorem Facts.raw_Desk_go_on (T : Facts K mg) : RawM K "Desk" "go_on" "Desk.go_on" s_Desk_go_on ["self", "later"] := by
  obtain ⟨fd, F⟩ := T.d.def_ 70 (d := d_Desk_go_on) rfl
  exact ⟨fd, F.bindsN (ps := ["self", "later"]) fun _ _ _ _ _ _ us hl => match us, hl with | [_, _], _ => rfl, F⟩
theorem Facts.raw_Desk_take_back (T : Facts K mg) : RawM K "Desk" "take_back" "Desk.take_back" s_Desk_take_back ["self"] := by
  obtain ⟨fd, F⟩ := T.d.def_ 71 (d := d_Desk_take_back) rfl
  exact ⟨fd, F.bindsN (ps := ["self"]) fun _ _ _ _ _ _ us hl => match us, hl with | [_], _ => rfl, F⟩
theorem Facts.raw_Desk_do_again (T : Facts K mg) : RawM K "Desk" "do_again" "Desk.do_again" s_Desk_do_again ["self"] := by
  obtain ⟨fd, F⟩ := T.d.def_ 72 (d := d_Desk_do_again) rfl
  exact ⟨fd, F.bindsN (ps := ["self"]) fun _ _ _ _ _ _ us hl => match us, hl with | [_], _ => rfl, F⟩
theorem Facts.raw_Desk_tell_state (T : Facts K mg) : RawM K "Desk" "tell_state" "Desk.tell_state" s_Desk_tell_state ["self"] := by
  obtain ⟨fd, F⟩ := T.d.def_ 73 (d := d_Desk_tell_state) rfl
  exact ⟨fd, F.bindsN (ps := ["self"]) fun _ _ _ _ _ _ us hl => match us, hl with | [_], _ => rfl, F⟩
theorem Facts.raw_changed (T : Facts K mg) : Raw K mg "changed" s_changed ["desk", "word", "numbers"] := by
  obtain ⟨fd, F⟩ := T.d.def_ 74 (d := d_changed) rfl
  exact ⟨fd, T.m_changed, F.bindsN (ps := ["desk", "word", "numbers"]) fun _ _ _ _ _ _ us hl => match us, hl with | [_, _, _], _ => rfl, F⟩
theorem Facts.raw_looked (T : Facts K mg) : Raw K mg "looked" s_looked ["desk", "word", "numbers"] := by
  obtain ⟨fd, F⟩ := T.d.def_ 75 (d := d_looked) rfl
  exact ⟨fd, T.m_looked, F.bindsN (ps := ["desk", "word", "numbers"]) fun _ _ _ _ _ _ us hl => match us, hl with | [_, _, _], _ => rfl, F⟩
theorem Facts.raw_answered (T : Facts K mg) : Raw K mg "answered" s_answered ["desk", "word", "numbers"] := by
  obtain ⟨fd, F⟩ := T.d.def_ 76 (d := d_answered) rfl
  exact ⟨fd, T.m_answered, F.bindsN (ps := ["desk", "word", "numbers"]) fun _ _ _ _ _ _ us hl => match us, hl with | [_, _, _], _ => rfl, F⟩
theorem Facts.raw_answers (T : Facts K mg) : Raw K mg "answers" s_answers ["calls"] := by
  obtain ⟨fd, F⟩ := T.d.def_ 77 (d := d_answers) rfl
  exact ⟨fd, T.m_answers, F.bindsN (ps := ["calls"]) fun _ _ _ _ _ _ us hl => match us, hl with | [_], _ => rfl, F⟩
theorem Facts.chg (T : Facts K mg) : KTab K "CHANGES" chgL := tab_ok (He.ba T.e).1
theorem Facts.look (T : Facts K mg) : KTab K "LOOKS" lookL := tab_ok (He.ba (He.ba T.e).2).1
theorem Facts.sizes (T : Facts K mg) (H : Hp) : SqT K H (He.ga K "SIZES") (sizeL.map (He.Dv.v K)) := He.tupB_ok (He.ba (He.ba T.e).2).2 H
end
end Wr
/-! ### part: Rep -/
set_option Elab.async false
set_option linter.all false
set_option maxRecDepth 100000
set_option maxHeartbeats 4000000
/-! # What is evaluated to what; how the state lies in the heap -/
namespace Wr
open PySem PySem.Spec PyProof.Rows L2 Evl
abbrev Rm := Km420.Room
abbrev Li := Km420.Line

theorem bt_sum : bootBuiltins "sum" = some (.builtin "sum") := by decide +kernel
theorem bt_min : bootBuiltins "min" = some (.builtin "min") := by decide +kernel
theorem bt_max : bootBuiltins "max" = some (.builtin "max") := by decide +kernel
theorem bt_len : bootBuiltins "len" = some (.builtin "len") := by decide +kernel
theorem bt_sorted : bootBuiltins "sorted" = some (.builtin "sorted") := by decide +kernel
theorem bt_int : bootBuiltins "int" = some (.type "int") := by decide +kernel
theorem bt_list : bootBuiltins "list" = some (.type "list") := by decide +kernel

/-! ## Evaluations whose value is told by what holds of it -/
def EvP (te : TE) (σ : L2.St) (H : Hp) (φ : V → Hp → Prop) : Prop := ∀ H1, Ex H H1 → ∀ Q : VK, (∀ v H2, Ex H1 H2 → φ v H2 → Q v H2) → te σ H1 Q
def EvPA (ta : TA) (σ : L2.St) (H : Hp) (Φ : List V → Hp → Prop) : Prop := ∀ H1, Ex H H1 → ∀ Q : List V → Hp → Prop, (∀ vs H2, Ex H1 H2 → Φ vs H2 → Q vs H2) → ta σ H1 Q
def SpP (sp : Sp) (vs : List V) (H : Hp) (φ : V → Hp → Prop) : Prop := ∀ H1, Ex H H1 → ∀ Q : VK, (∀ v H2, Ex H1 H2 → φ v H2 → Q v H2) → ∀ E : XK, sp vs H1 Q E
def RetP (φ : V → Hp → Prop) (H : Hp) (Q : VK) : Prop := ∀ v H2, Ex H H2 → φ v H2 → Q v H2
def TupAt (xs : List V) : V → Hp → Prop := fun v H => ∃ t, v = .ref t ∧ H t = some (.tup xs)
def NewL (H0 : Hp) (xs : List V) : V → Hp → Prop := fun v H => ∃ p, v = .ref p ∧ H0 p = none ∧ H p = some (.lst xs)
section
variable {σ : L2.St} {H H' H0 H1 : Hp} {te ta tb : TE} {v x y z : V} {φ ψ : V → Hp → Prop} {K : PySem.W.Frag}
theorem TupAt.ex {xs : List V} (h : TupAt xs v H) (e : Ex H H') : TupAt xs v H' := by
  obtain ⟨t, h1, h2⟩ := h
  exact ⟨t, h1, e _ _ h2⟩
theorem EvP.mono (e : Ex H H') (h : EvP te σ H φ) : EvP te σ H' φ := fun H1 a Q q => h H1 (e.trans a) Q q
theorem EvP.imp (h : EvP te σ H φ) (i : ∀ v H2, Ex H H2 → φ v H2 → ψ v H2) : EvP te σ H ψ := fun H1 a Q q => h H1 a Q fun v H2 e p => q v H2 e (i v H2 (a.trans e) p)
theorem ep_ev (h : Ev te σ H v) : EvP te σ H (fun x _ => x = v) := fun H1 a Q q => h H1 a Q fun H2 e => q v H2 e rfl
theorem ev_ep (h : EvP te σ H (fun x _ => x = v)) : Ev te σ H v := fun H1 a Q q => h H1 a Q fun x H2 e hx => by subst hx; exact q H2 e
theorem ep_call {sp : Sp} {vs : List V} {E : XK} {ta : TA} (h : EvA ta σ H vs) (hs : SpP sp vs H φ) : EvP (tCall sp [] E ta) σ H φ := fun H1 e Q q => h H1 e _ fun H2 e2 => by
  rw [List.append_nil]
  exact hs H2 (e.trans e2) Q (fun v H3 e3 p => q v H3 (e2.trans e3) p) E
theorem ev_kall {sp : Sp} {vs : List V} {E : XK} {ta : TA} (h : EvA ta σ H vs) (hs : SpV sp vs H z) : Ev (tCall sp [] E ta) σ H z := ev_call h (by rw [List.append_nil]; exact hs)
theorem ep_callP {sp : Sp} {E : XK} {ta : TA} {Φ : List V → Hp → Prop} (h : EvPA ta σ H Φ) (hs : ∀ vs H1, Ex H H1 → Φ vs H1 → SpP sp vs H1 φ) : EvP (tCall sp [] E ta) σ H φ := fun H1 e Q q => h H1 e _ fun vs H2 e2 p => by
  rw [List.append_nil]
  exact hs vs H2 (e.trans e2) p H2 (Ex.refl _) Q (fun v H3 e3 p => q v H3 (e2.trans e3) p) E
theorem epa_nil : EvPA tNil σ H (fun vs _ => vs = []) := fun H1 _ _ q => q [] H1 (Ex.refl H1) rfl
theorem epa_cons {tr : TA} {Φ : List V → Hp → Prop} (h : EvP te σ H φ) (hr : ∀ x H1, Ex H H1 → φ x H1 → EvPA tr σ H1 (fun vs H2 => Φ (x :: vs) H2)) : EvPA (tCons te tr) σ H Φ := fun H1 e _ q =>
  h H1 e _ fun x H2 e2 p => hr x H2 (e.trans e2) p H2 (Ex.refl _) _ fun vs H3 e3 p3 => q _ H3 (e2.trans e3) p3
theorem epa_one {Φ : List V → Hp → Prop} (h : EvP te σ H φ) (hr : ∀ x H1, Ex H H1 → φ x H1 → Φ [x] H1) : EvPA (tCons te tNil) σ H Φ := fun H1 e _ q =>
  h H1 e _ fun x H2 e2 p => q [x] H2 e2 (hr x H2 (e.trans e2) p)
theorem epa_ev {tr : TA} {Φ : List V → Hp → Prop} (h : Ev te σ H v) (hr : EvPA tr σ H (fun vs H2 => Φ (v :: vs) H2)) : EvPA (tCons te tr) σ H Φ := fun H1 e _ q =>
  h H1 e _ fun H2 e2 => hr H2 (e.trans e2) _ fun vs H3 e3 p3 => q _ H3 (e2.trans e3) p3
theorem sp_v {sp : Sp} {vs : List V} (h : SpP sp vs H (fun x _ => x = z)) : SpV sp vs H z := fun H1 e Q q E => h H1 e Q (fun v H2 e2 p => by subst p; exact q H2 e2) E
/-! ### statements -/
variable {D : Ends} {tz tu tw : TS} {t : TT} {i : Nat}
theorem s_asgP (h : EvP te σ H φ) (k : ∀ v H1, Ex H H1 → φ v H1 → D.nx (σ.set i (some v)) H1) : tAsg te (gName i) D σ H := h H (Ex.refl H) _ fun v H1 e p => k v H1 e p
theorem s_retP (h : EvP te σ H φ) (k : ∀ v H1, Ex H H1 → φ v H1 → D.rt v H1) : tRet te D σ H := h H (Ex.refl H) _ fun v H1 e p => k v H1 e p
theorem q_asgP (h : EvP te σ H φ) (k : ∀ v H1, Ex H H1 → φ v H1 → tz D (σ.set i (some v)) H1) : tSeq (tAsg te (gName i)) tz D σ H := s_asgP (D := { D with nx := tz D }) h k
/-- a new list, a new tuple, of scalars or of what is told -/
theorem ep_newL {xs : List V} (h : EvL te σ H xs) : EvP te σ H (NewL H xs) := fun H1 e Q q => h H1 e Q fun p H2 n e2 h2 => q _ H2 e2 ⟨p, rfl, fresh_back e n, h2⟩
theorem ep_tup {ta : TA} {vs : List V} (h : EvA ta σ H vs) (hl : vs.length ≤ 100000) : EvP (tTup ta) σ H (TupAt vs) := fun H1 e Q q => eu_tup h hl H1 e Q fun p H2 n e2 h2 => q _ H2 e2 ⟨p, rfl, h2⟩
theorem ep_tupP {ta : TA} {Φ : List V → Hp → Prop} (h : EvPA ta σ H Φ) (hl : ∀ vs H1, Φ vs H1 → vs.length ≤ 100000) (m : ∀ vs H1 H2, Ex H1 H2 → Φ vs H1 → Φ vs H2) : EvP (tTup ta) σ H (fun v H2 => ∃ vs, Φ vs H2 ∧ TupAt vs v H2) := fun H1 e Q q =>
  h H1 e _ fun vs H2 e2 p => ⟨sz_of (hl vs H2 p), fun a na => q _ _ (e2.trans (Ex.new na)) ⟨vs, m _ _ _ (Ex.new na) p, a, rfl, upd_same⟩⟩
theorem ep_lstP {ta : TA} {Φ : List V → Hp → Prop} (h : EvPA ta σ H Φ) (hl : ∀ vs H1, Φ vs H1 → vs.length ≤ 100000) (m : ∀ vs H1 H2, Ex H1 H2 → Φ vs H1 → Φ vs H2) : EvP (tLst ta) σ H (fun v H2 => ∃ vs, Φ vs H2 ∧ NewL H vs v H2) := fun H1 e Q q =>
  h H1 e _ fun vs H2 e2 p => ⟨sz_of (hl vs H2 p), fun a na => q _ _ (e2.trans (Ex.new na)) ⟨vs, m _ _ _ (Ex.new na) p, a, rfl, fresh_back (e.trans e2) na, upd_same⟩⟩
/-! ### more evaluations -/
theorem ev_fld {a C dx : Addr} {fs : List (Str × V)} {f : Str} (ha : Ev ta σ H (.ref a)) (ho : H a = some (.ins C dx fs)) (hc : Cls K C) (hn : NoAttr K C f) (hl : fs.lookup f = some v) : Ev (tFld K ta f) σ H v := fun H1 e Q q =>
  ha H1 e _ fun H2 e2 => ⟨a, C, dx, fs, v, rfl, e2 _ _ (e _ _ ho), hc, hn, hl, q H2 e2⟩
theorem rv_eqI {i j : Int} : RV rEq (.int i) (.int j) H (.bl (decide (i = j))) := fun H1 _ Q q => ⟨rfl, by
  rw [dec_int, Bool.beq_eq_decide_eq]
  exact q H1 (Ex.refl H1)⟩
theorem rv_neI {i j : Int} : RV rNe (.int i) (.int j) H (.bl (!decide (i = j))) := fun H1 _ Q q => ⟨rfl, by
  rw [dec_int, Bool.beq_eq_decide_eq]
  exact q H1 (Ex.refl H1)⟩
theorem rc_min2 {i j : Int} : RC (fun xs H Q => ∃ i j, xs = [.int i, .int j] ∧ Q (.int (if j < i then j else i)) H) [.int i, .int j] H (.int (min i j)) := fun H1 _ Q q => ⟨i, j, rfl, by
  have e : (if j < i then j else i) = min i j := by split <;> omega
  rw [e]
  exact q H1 (Ex.refl H1)⟩
theorem rc_max2 {i j : Int} : RC (fun xs H Q => ∃ i j, xs = [.int i, .int j] ∧ Q (.int (if j > i then j else i)) H) [.int i, .int j] H (.int (max i j)) := fun H1 _ Q q => ⟨i, j, rfl, by
  have e : (if j > i then j else i) = max i j := by split <;> omega
  rw [e]
  exact q H1 (Ex.refl H1)⟩
theorem rc_min3 {i j k : Int} : RC rMin3 [.int i, .int j, .int k] H (.int (min (min i j) k)) := fun H1 _ Q q => ⟨i, j, k, rfl, q H1 (Ex.refl H1)⟩
theorem rc_int {b : Bool} : RC (fun xs H Q => (∃ i, xs = [V.int i] ∧ Q (.int i) H) ∨ ∃ k, xs = [.bl k] ∧ Q (.int (if k then 1 else 0)) H) [.bl b] H (.int (if b then 1 else 0)) := fun H1 _ Q q => .inr ⟨b, rfl, q H1 (Ex.refl H1)⟩
theorem rc_len {p : Addr} {xs : List V} (h : SqL K H p xs) : RC (fun vs H Q => ∃ p ys, vs = [V.ref p] ∧ (SqL K H p ys ∨ SqT K H p ys) ∧ Q (.int ys.length) H) [.ref p] H (.int (xs.length : Int)) := fun H1 e Q q => ⟨p, xs, rfl, .inl (ex_l e h), q H1 (Ex.refl H1)⟩
theorem rc_sum {p : Addr} {ns : List Int} (h : SqL K H p (ns.map V.int)) : RC (rSum K) [.ref p] H (.int ns.sum) := fun H1 e Q q => ⟨p, ns, rfl, ex_l e h, q H1 (Ex.refl H1)⟩
theorem ev_sumN {ns : List Int} (h : EvL te σ H (ns.map V.int)) : Ev (tCB (rSum K) (tCons te tNil)) σ H (.int ns.sum) := fun H1 e Q q =>
  h H1 e _ fun p H2 n e2 h2 => ⟨p, ns, rfl, sq_of h2, q H2 e2⟩
theorem ev_isN {b : Bool} (h : Ev te σ H x) (hb : decide (x = .non) = b) : Ev (tOp (fun x y H Q => y = V.non ∧ Q (.bl (decide (x = .non))) H) te (tC .non)) σ H (.bl b) := fun H1 e Q q => h H1 e _ fun H2 e2 => ⟨rfl, by rw [hb]; exact q H2 e2⟩
theorem ev_notN {b : Bool} (h : Ev te σ H x) (hb : (!decide (x = .non)) = b) : Ev (tOp (fun x y H Q => y = V.non ∧ Q (.bl (!decide (x = .non))) H) te (tC .non)) σ H (.bl b) := fun H1 e Q q => h H1 e _ fun H2 e2 => ⟨rfl, by rw [hb]; exact q H2 e2⟩
theorem el_rev {p : Addr} {xs : List V} (h : Ev te σ H (.ref p)) (hs : SqL K H p xs) : EvL (tRevL K te) σ H xs.reverse := fun H1 e Q q => h H1 e _ fun H2 e2 => ⟨p, xs, rfl, ex_l (e.trans e2) hs, fun a na => q a _ (fresh_back e2 na) (e2.trans (Ex.new na)) upd_same⟩
end
/-! ## The numbers of a list, the rows of a list -/
def b01 (b : Bool) : Int := if b = true then 1 else 0
def rmV (r : Rm) : List V := [.int r.most, .int r.at_, .int r.leak, .int (b01 r.patched), .int r.pump, .int r.water]
def lnV (x : Ln) : List V := [.int x.at_, .int x.kg, .int (b01 x.on_)]
def ldV (l : Li) : List V := [.int l.at_, .int l.most]
def natV (t : List Nat) : List V := t.map fun (n : Nat) => V.int (n : Int)
/-- vs are tuples, of the rows xss -/
structure Tups (H : Hp) (vs : List V) (xss : List (List V)) : Prop where
  len : vs.length = xss.length
  row : ∀ (i : Nat) (v : V), vs[i]? = some v → ∃ xs, xss[i]? = some xs ∧ TupAt xs v H
/-- at p is a list of tuples, of the rows xss -/
def Rows (H : Hp) (p : Addr) (xss : List (List V)) : Prop := ∃ vs, H p = some (.lst vs) ∧ Tups H vs xss
section
variable {H H' : Hp} {vs ws : List V} {xss yss : List (List V)} {p : Addr}
theorem Tups.ex (h : Tups H vs xss) (e : Ex H H') : Tups H' vs xss := ⟨h.len, fun i v hv => by
  obtain ⟨xs, h1, h2⟩ := h.row i v hv
  exact ⟨xs, h1, h2.ex e⟩⟩
theorem Rows.ex (h : Rows H p xss) (e : Ex H H') : Rows H' p xss := by
  obtain ⟨vs, h1, h2⟩ := h
  exact ⟨vs, e _ _ h1, h2.ex e⟩
theorem Tups.nil : Tups H [] [] := ⟨rfl, fun i v h => by simp at h⟩
theorem Tups.get (h : Tups H vs xss) {i : Nat} {xs : List V} (hx : xss[i]? = some xs) : ∃ v, vs[i]? = some v ∧ TupAt xs v H := by
  have hi : i < xss.length := (List.getElem?_eq_some_iff.mp hx).1
  have hv : i < vs.length := by rw [h.len]; exact hi
  obtain ⟨ys, h1, h2⟩ := h.row i vs[i] (List.getElem?_eq_getElem hv)
  rw [hx] at h1
  cases h1
  exact ⟨_, List.getElem?_eq_getElem hv, h2⟩
theorem Tups.snoc (h : Tups H vs xss) {v : V} {xs : List V} (hv : TupAt xs v H) : Tups H (vs ++ [v]) (xss ++ [xs]) := by
  refine ⟨by rw [List.length_append, List.length_append, h.len]; rfl, fun i u hu => ?_⟩
  by_cases c : i < vs.length
  · rw [List.getElem?_append_left c] at hu
    rw [List.getElem?_append_left (by rw [← h.len]; exact c)]
    exact h.row i u hu
  · rw [List.getElem?_append_right (by omega)] at hu
    rw [List.getElem?_append_right (by rw [← h.len]; omega), ← h.len]
    cases e : i - vs.length with
    | zero =>
      rw [e] at hu
      cases hu
      exact ⟨xs, rfl, hv⟩
    | succ n =>
      rw [e] at hu
      cases hu
theorem Tups.set (h : Tups H vs xss) {k : Nat} {v : V} {xs : List V} (hv : TupAt xs v H) : Tups H (vs.set k v) (xss.set k xs) := by
  refine ⟨by rw [List.length_set, List.length_set]; exact h.len, fun i u hu => ?_⟩
  by_cases c : k = i
  · subst c
    by_cases hk : k < vs.length
    · rw [List.getElem?_set_self hk] at hu
      cases hu
      exact ⟨xs, List.getElem?_set_self (by rw [← h.len]; exact hk), hv⟩
    · rw [List.getElem?_eq_none (by rw [List.length_set]; omega)] at hu
      cases hu
  · rw [List.getElem?_set_ne c] at hu ⊢
    exact h.row i u hu
/-- the list is as it was, the rows too -/
theorem Rows.keep (h : Rows H p xss) (k : ∀ b xs, H b = some (.tup xs) → H' b = some (.tup xs)) (hp : H' p = H p) : Rows H' p xss := by
  obtain ⟨vs, h1, h2⟩ := h
  refine ⟨vs, hp.trans h1, h2.len, fun i v hv => ?_⟩
  obtain ⟨xs, h3, t, h4, h5⟩ := h2.row i v hv
  exact ⟨xs, h3, t, h4, k _ _ h5⟩
theorem Rows.len (h : Rows H p xss) : ∃ vs, H p = some (.lst vs) ∧ vs.length = xss.length := by
  obtain ⟨vs, h1, h2⟩ := h
  exact ⟨vs, h1, h2.len⟩
end
/-! ## Comprehensions, whatever their items are -/
theorem TupAt.keep {H H' : Hp} {xs : List V} {v : V} (h : TupAt xs v H) (k : ∀ b ys, H b = some (.tup ys) → H' b = some (.tup ys)) : TupAt xs v H' := by
  obtain ⟨t, h1, h2⟩ := h
  exact ⟨t, h1, k _ _ h2⟩
theorem Tups.keep {H H' : Hp} {vs : List V} {xss : List (List V)} (h : Tups H vs xss) (k : ∀ b ys, H b = some (.tup ys) → H' b = some (.tup ys)) : Tups H' vs xss := ⟨h.len, fun i v hv => by
  obtain ⟨xs, h1, h2⟩ := h.row i v hv
  exact ⟨xs, h1, h2.keep k⟩⟩
theorem tups_upd {H : Hp} {p : Addr} {xs : List V} {o : HO} (h : H p = some (.lst xs)) : ∀ b ys, H b = some (.tup ys) → upd H p o b = some (.tup ys) := fun b ys e => by
  rw [upd_ne (ne_of e h fun z => nomatch z)]
  exact e
section
variable {σ : L2.St} {H : Hp} {K : PySem.W.Frag} {tt : TT} {te : TE} {vs : List Nat}
theorem lc_turn {H1 H' : Hp} {Dl : Addr} {σ2 : L2.St} {acc : List V} {b : Bool} {i : Nat} {W : Nat → List V → Hp → Prop} (hD : H1 Dl = none) (e1 : Ex H1 H') (hd : H' Dl = some (.lst acc)) (hl : acc.length ≤ 40000)
    (wm : ∀ i acc H1 H2, (∀ b ys, H1 b = some (.tup ys) → H2 b = some (.tup ys)) → W i acc H1 → W i acc H2) (ht : EvT tt σ2 H' b) (h1 : b = false → W (i + 1) acc H') (h2 : b = true → EvP te σ2 H' fun y H3 => W (i + 1) (acc ++ [y]) H3) :
    tt σ2 H' fun b H3 => if b = true then te σ2 H3 fun y H4 => ∃ acc, H4 Dl = some (.lst acc) ∧ acc.length < sizeLine ∧ (fun H5 => ∃ acc, Ex H1 H5 ∧ H5 Dl = some (.lst acc) ∧ W (i + 1) acc H5) (upd H4 Dl (.lst (acc ++ [y]))) else (fun H5 => ∃ acc, Ex H1 H5 ∧ H5 Dl = some (.lst acc) ∧ W (i + 1) acc H5) H3 := by
  refine ht H' (Ex.refl _) _ fun H3 e3 => ?_
  cases b with
  | true =>
    show te σ2 H3 _
    refine h2 rfl H3 e3 _ fun y H4 e4 p => ?_
    have hd4 := e4 _ _ (e3 _ _ hd)
    exact ⟨acc, hd4, sz_lt (by omega), acc ++ [y], Ex.mut ((e1.trans e3).trans e4) hD, upd_same, wm _ _ _ _ (tups_upd hd4) p⟩
  | false =>
    exact ⟨acc, e1.trans e3, e3 _ _ hd, wm _ _ _ _ (fun b ys q => e3 _ _ q) (h1 rfl)⟩
theorem ep_lcL {a : Addr} {xs : List V} {tl : TE} {g : TG} (h : Ev tl σ H (.ref a)) (hx : SqL K H a xs) (hz : xs.length ≤ 30000) (W : Nat → List V → Hp → Prop) (h0 : ∀ H1, Ex H H1 → W 0 [] H1) (wl : ∀ i acc H1, W i acc H1 → acc.length ≤ i)
    (wm : ∀ i acc H1 H2, (∀ b ys, H1 b = some (.tup ys) → H2 b = some (.tup ys)) → W i acc H1 → W i acc H2)
    (turn : ∀ i x acc H1, xs[i]? = some x → Ex H H1 → W i acc H1 → ∃ σ2 b, wipe σ2 vs = wipe σ vs ∧ (∀ Q : L2.St → Hp → Prop, Q σ2 H1 → g x (wipe σ vs) H1 Q) ∧ EvT tt σ2 H1 b ∧ (b = false → W (i + 1) acc H1) ∧ (b = true → EvP te σ2 H1 fun y H3 => W (i + 1) (acc ++ [y]) H3)) :
    EvP (tLc (iList K tl) g tt te vs) σ H (fun v H' => ∃ acc, NewL H acc v H' ∧ W xs.length acc H') := fun H0 e Q q => h H0 e _ fun H1 e1 => ⟨a, rfl, ⟨xs, ex_l (e.trans e1) hx⟩, fun Dl hD =>
  lc_list (xs := xs) (fun i H' => ∃ acc, Ex H1 H' ∧ H' Dl = some (.lst acc) ∧ W i acc H') ⟨[], Ex.new hD, upd_same, h0 _ ((e.trans e1).trans (Ex.new hD))⟩ (fun i H' _ p => by
    obtain ⟨acc, p1, _, _⟩ := p
    exact ex_l ((e.trans e1).trans p1) hx)
    (fun i x H' hi p => by
      obtain ⟨acc, p1, p2, p3⟩ := p
      obtain ⟨σ2, b, t1, t2, t3, t4, t5⟩ := turn i x acc H' hi ((e.trans e1).trans p1) p3
      have hl := wl _ _ _ p3
      have hi' := (List.getElem?_eq_some_iff.mp hi).1
      exact t2 _ ⟨t1, lc_turn hD p1 p2 (by omega) wm t3 t4 t5⟩)
    (fun H' p => by
      obtain ⟨acc, p1, p2, p3⟩ := p
      exact q _ H' (e1.trans p1) ⟨acc, ⟨Dl, rfl, fresh_back (e.trans e1) hD, p2⟩, p3⟩)⟩
theorem ep_lcR {ta : TA} {n : Nat} {j : Nat} (h : EvA ta σ H [.int (n : Int)]) (hz : n ≤ 30000) (hw : ∀ x, wipe ((wipe σ vs).set j (some x)) vs = wipe σ vs) (W : Nat → List V → Hp → Prop) (h0 : ∀ H1, Ex H H1 → W 0 [] H1) (wl : ∀ i acc H1, W i acc H1 → acc.length ≤ i)
    (wm : ∀ i acc H1 H2, (∀ b ys, H1 b = some (.tup ys) → H2 b = some (.tup ys)) → W i acc H1 → W i acc H2)
    (turn : ∀ i acc H1, i < n → Ex H H1 → W i acc H1 → ∃ b, EvT tt ((wipe σ vs).set j (some (.int (i : Int)))) H1 b ∧ (b = false → W (i + 1) acc H1) ∧ (b = true → EvP te ((wipe σ vs).set j (some (.int (i : Int)))) H1 fun y H3 => W (i + 1) (acc ++ [y]) H3)) :
    EvP (tLc (iRng1 ta) (gName j) tt te vs) σ H (fun v H' => ∃ acc, NewL H acc v H' ∧ W n acc H') := fun H0 e Q q => h H0 e _ fun H1 e1 => ⟨(n : Int), rfl, by omega, by omega, fun Dl hD =>
  lc_range (lo := 0) (n := (n : Int).toNat) (fun i H' => ∃ acc, Ex H1 H' ∧ H' Dl = some (.lst acc) ∧ W i acc H') ⟨[], Ex.new hD, upd_same, h0 _ ((e.trans e1).trans (Ex.new hD))⟩
    (fun i H' hi p => by
      obtain ⟨acc, p1, p2, p3⟩ := p
      obtain ⟨b, t3, t4, t5⟩ := turn i acc H' (by omega) ((e.trans e1).trans p1) p3
      have hl := wl _ _ _ p3
      have e0 : (0 : Int) + (i : Int) = (i : Int) := Int.zero_add _
      rw [e0]
      exact ⟨hw _, lc_turn hD p1 p2 (by omega) wm t3 t4 t5⟩)
    (fun H' p => by
      obtain ⟨acc, p1, p2, p3⟩ := p
      rw [Int.toNat_natCast] at p3
      exact q _ H' (e1.trans p1) ⟨acc, ⟨Dl, rfl, fresh_back (e.trans e1) hD, p2⟩, p3⟩)⟩
/-- the target of a row: two names, three names -/
theorem g_two {x y v : V} {i j : Nat} {H1 : Hp} {σ : L2.St} (h : TupAt [x, y] v H1) (Q : L2.St → Hp → Prop) (q : Q ((σ.set i (some x)).set j (some y)) H1) : gTup K 2 (gCons (gName i) (gCons (gName j) gNil)) v σ H1 Q := by
  obtain ⟨t, rfl, ht⟩ := h
  exact ⟨t, [x, y], rfl, st_of ht, rfl, x, [y], rfl, y, [], rfl, rfl, q⟩
theorem g_three {x y z v : V} {i j k : Nat} {H1 : Hp} {σ : L2.St} (h : TupAt [x, y, z] v H1) (Q : L2.St → Hp → Prop) (q : Q (((σ.set i (some x)).set j (some y)).set k (some z)) H1) : gTup K 3 (gCons (gName i) (gCons (gName j) (gCons (gName k) gNil))) v σ H1 Q := by
  obtain ⟨t, rfl, ht⟩ := h
  exact ⟨t, [x, y, z], rfl, st_of ht, rfl, x, [y, z], rfl, y, [z], rfl, z, [], rfl, rfl, q⟩
theorem et_yes {H : Hp} {σ : L2.St} : EvT tYes σ H true := fun H1 _ _ q => q H1 (Ex.refl _)
/-- a comprehension that tells, of each item, one thing -/
theorem take_snoc {α : Type} {l : List α} {i : Nat} {x : α} (h : l[i]? = some x) : l.take (i + 1) = l.take i ++ [x] := by
  rw [List.take_succ, h]
  rfl
theorem el_lcM {a : Addr} {xs : List V} {tl : TE} {g : TG} (ys : List V) (hy : ys.length = xs.length) (h : Ev tl σ H (.ref a)) (hx : SqL K H a xs) (hz : xs.length ≤ 30000)
    (turn : ∀ (i : Nat) (x y : V) (H1 : Hp), xs[i]? = some x → ys[i]? = some y → Ex H H1 → ∃ σ2, wipe σ2 vs = wipe σ vs ∧ (∀ Q : L2.St → Hp → Prop, Q σ2 H1 → g x (wipe σ vs) H1 Q) ∧ Ev te σ2 H1 y) : EvL (tLc (iList K tl) g tYes te vs) σ H ys := fun H0 e Q q =>
  ep_lcL (σ := σ) (H := H0) (Ev.mono e h) (ex_l e hx) hz (fun i acc _ => acc = ys.take i) (fun _ _ => rfl) (fun i acc _ p => by rw [p, List.length_take]; exact Nat.min_le_left _ _) (fun _ _ _ _ _ p => p)
    (fun i x acc H1 hi e1 p => by
      have hi' : i < ys.length := by rw [hy]; exact (List.getElem?_eq_some_iff.mp hi).1
      have hyi : ys[i]? = some ys[i] := List.getElem?_eq_getElem hi'
      obtain ⟨σ2, t1, t2, t3⟩ := turn i x _ H1 hi hyi (e.trans e1)
      refine ⟨σ2, true, t1, t2, et_yes, fun z => (Bool.noConfusion z), fun _ => (ep_ev t3).imp fun y H3 _ hv => ?_⟩
      rw [hv, p, take_snoc hyi]) H0 (Ex.refl _) Q (fun u H2 e2 p => by
      obtain ⟨acc, ⟨pD, rfl, n, hp⟩, he⟩ := p
      rw [← hy, List.take_length] at he
      subst he
      exact q pD H2 n e2 hp)
/-- over a range -/
theorem el_lcN {ta : TA} {j n : Nat} (ys : List V) (hy : ys.length = n) (h : EvA ta σ H [.int (n : Int)]) (hz : n ≤ 30000) (hw : ∀ x, wipe ((wipe σ vs).set j (some x)) vs = wipe σ vs)
    (turn : ∀ (i : Nat) (y : V) (H1 : Hp), i < n → ys[i]? = some y → Ex H H1 → Ev te ((wipe σ vs).set j (some (.int (i : Int)))) H1 y) : EvL (tLc (iRng1 ta) (gName j) tYes te vs) σ H ys := fun H0 e Q q =>
  ep_lcR (σ := σ) (H := H0) (h.mono e) hz hw (fun i acc _ => acc = ys.take i) (fun _ _ => rfl) (fun i acc _ p => by rw [p, List.length_take]; exact Nat.min_le_left _ _) (fun _ _ _ _ _ p => p)
    (fun i acc H1 hi e1 p => by
      have hi' : i < ys.length := by rw [hy]; exact hi
      have hyi : ys[i]? = some ys[i] := List.getElem?_eq_getElem hi'
      refine ⟨true, et_yes, fun z => (Bool.noConfusion z), fun _ => (ep_ev (turn i _ H1 hi hyi (e.trans e1))).imp fun y H3 _ hv => ?_⟩
      rw [hv, p, take_snoc hyi]) H0 (Ex.refl _) Q (fun u H2 e2 p => by
      obtain ⟨acc, ⟨pD, rfl, n, hp⟩, he⟩ := p
      rw [← hy, List.take_length] at he
      subst he
      exact q pD H2 n e2 hp)
end
section
variable {σ : L2.St} {H1 : Hp} {te : TE} {vs : List Nat} {K : PySem.W.Frag} {x y z v u : V} {i j k : Nat}
theorem turn_name (hw : wipe ((wipe σ vs).set j (some x)) vs = wipe σ vs) (h : Ev te ((wipe σ vs).set j (some x)) H1 y) : ∃ σ2, wipe σ2 vs = wipe σ vs ∧ (∀ Q : L2.St → Hp → Prop, Q σ2 H1 → gName j x (wipe σ vs) H1 Q) ∧ Ev te σ2 H1 y := ⟨_, hw, fun _ q => q, h⟩
theorem turn_two (hv : TupAt [x, y] v H1) (hw : wipe (((wipe σ vs).set i (some x)).set j (some y)) vs = wipe σ vs) (h : Ev te (((wipe σ vs).set i (some x)).set j (some y)) H1 u) :
    ∃ σ2, wipe σ2 vs = wipe σ vs ∧ (∀ Q : L2.St → Hp → Prop, Q σ2 H1 → gTup K 2 (gCons (gName i) (gCons (gName j) gNil)) v (wipe σ vs) H1 Q) ∧ Ev te σ2 H1 u := ⟨_, hw, fun Q q => g_two hv Q q, h⟩
theorem turnP_three {tt : TT} {b : Bool} {N0 : Prop} {Y : V → Hp → Prop} (hv : TupAt [x, y, z] v H1) (hw : wipe ((((wipe σ vs).set i (some x)).set j (some y)).set k (some z)) vs = wipe σ vs) (ht : EvT tt ((((wipe σ vs).set i (some x)).set j (some y)).set k (some z)) H1 b)
    (h1 : b = false → N0) (h2 : b = true → EvP te ((((wipe σ vs).set i (some x)).set j (some y)).set k (some z)) H1 Y) :
    ∃ σ2 b, wipe σ2 vs = wipe σ vs ∧ (∀ Q : L2.St → Hp → Prop, Q σ2 H1 → gTup K 3 (gCons (gName i) (gCons (gName j) (gCons (gName k) gNil))) v (wipe σ vs) H1 Q) ∧ EvT tt σ2 H1 b ∧ (b = false → N0) ∧ (b = true → EvP te σ2 H1 Y) := ⟨_, b, hw, fun Q q => g_three hv Q q, ht, h1, h2⟩
theorem turnP_name {tt : TT} {b : Bool} {N0 : Prop} {Y : V → Hp → Prop} (hw : wipe ((wipe σ vs).set j (some x)) vs = wipe σ vs) (ht : EvT tt ((wipe σ vs).set j (some x)) H1 b) (h1 : b = false → N0) (h2 : b = true → EvP te ((wipe σ vs).set j (some x)) H1 Y) :
    ∃ σ2 b, wipe σ2 vs = wipe σ vs ∧ (∀ Q : L2.St → Hp → Prop, Q σ2 H1 → gName j x (wipe σ vs) H1 Q) ∧ EvT tt σ2 H1 b ∧ (b = false → N0) ∧ (b = true → EvP te σ2 H1 Y) := ⟨_, b, hw, fun _ q => q, ht, h1, h2⟩
end
theorem Tups.of {α : Type} {H : Hp} {vs : List V} {l : List α} {f : α → List V} (h : Tups H vs (l.map f)) {i : Nat} {v : V} (hv : vs[i]? = some v) : ∃ a, l[i]? = some a ∧ TupAt (f a) v H := by
  obtain ⟨xs, h1, h2⟩ := h.row i v hv
  rw [List.getElem?_map] at h1
  cases e : l[i]? with
  | none =>
    rw [e] at h1
    cases h1
  | some a =>
    rw [e] at h1
    cases h1
    exact ⟨a, rfl, h2⟩
theorem Tups.to {α : Type} {H : Hp} {vs : List V} {l : List α} {f : α → List V} (h : Tups H vs (l.map f)) {i : Nat} {a : α} (ha : l[i]? = some a) : ∃ v, vs[i]? = some v ∧ TupAt (f a) v H := h.get (by rw [List.getElem?_map, ha]; rfl)
theorem Tups.size {α : Type} {H : Hp} {vs : List V} {l : List α} {f : α → List V} (h : Tups H vs (l.map f)) : vs.length = l.length := h.len.trans (List.length_map _)
theorem map_at {α β : Type} {l : List α} {f : α → β} {i : Nat} {a : α} {y : β} (ha : l[i]? = some a) (hy : (l.map f)[i]? = some y) : y = f a := by
  rw [List.getElem?_map, ha] at hy
  exact (Option.some.inj hy).symm
theorem RetV.on {v : V} {H H1 : Hp} {Q : VK} (q : RetV v H Q) (e : Ex H H1) : RetV v H1 Q := fun H2 e2 => q H2 (e.trans e2)
theorem RetP.on {φ : V → Hp → Prop} {H H1 : Hp} {Q : VK} (q : RetP φ H Q) (e : Ex H H1) : RetP φ H1 Q := fun v H2 e2 => q v H2 (e.trans e2)
theorem b01_one {b : Bool} : b01 b = 1 ↔ b = true := by cases b <;> simp [b01]
theorem b01_zero {b : Bool} : b01 b = 0 ↔ b = false := by cases b <;> simp [b01]
section
variable {σ : L2.St} {H : Hp} {D : Ends} {tu tz : TS}
/-- a loop downward to 0 -/
theorem q_forDown {ta : TA} {j n : Nat} (h : EvA ta σ H [.int ((n : Int) - 1), .int (-1), .int (-1)]) (hn : n ≤ 100000) (Pv : Nat → L2.St → Hp → Prop) (h0 : ∀ H1, Ex H H1 → Pv 0 σ H1)
    (hs : ∀ (i : Nat) σ' H', i < n → Pv i σ' H' → tu { D with nx := Pv (i + 1), rt := D.rt, ct := Pv (i + 1), bk := tz D } (σ'.set j (some (.int ((n - 1 - i : Nat) : Int)))) H') (hd : ∀ σ' H', Pv n σ' H' → tz D σ' H') : tSeq (tFor (iRng3 ta) (gName j) tu) tz D σ H :=
  h H (Ex.refl H) _ fun H1 e => ⟨(n : Int) - 1, -1, -1, n, rfl, by
    have r := RgC.neg (i := (n : Int) - 1) (j := -1) (by omega) (by omega) (by omega) (by omega)
    rw [show ((n : Int) - 1 - -1).toNat = n by omega] at r
    exact r, for_rangeC (D := { D with nx := tz D }) (lo := (n : Int) - 1) (c := -1) (n := n) Pv (h0 H1 e) (fun i σ' H' hi p => by
    have e0 : (n : Int) - 1 + ((i : Nat) : Int) * -1 = ((n - 1 - i : Nat) : Int) := by omega
    rw [e0]
    exact hs i σ' H' hi p) hd⟩
end
theorem Tups.rev {H : Hp} {vs : List V} {xss : List (List V)} (h : Tups H vs xss) : Tups H vs.reverse xss.reverse := by
  refine ⟨by rw [List.length_reverse, List.length_reverse, h.len], fun i v hv => ?_⟩
  have hi : i < vs.length := by
    have := (List.getElem?_eq_some_iff.mp hv).1
    rw [List.length_reverse] at this
    exact this
  rw [List.getElem?_reverse hi] at hv
  rw [List.getElem?_reverse (by rw [← h.len]; exact hi), ← h.len]
  exact h.row _ v hv
theorem natV_len (t : List Nat) : (natV t).length = t.length := List.length_map _
theorem natV_at {t : List Nat} {i : Nat} (h : i < t.length) : (natV t)[i]? = some (.int ((t.getD i 0 : Nat) : Int)) := by
  unfold natV
  rw [List.getElem?_map, List.getElem?_eq_getElem h, List.getD_eq_getElem?_getD, List.getElem?_eq_getElem h]
  rfl
theorem natV_ix {t : List Nat} {i : Nat} (h : i < t.length) : atI (natV t) (i : Int) = some (.int ((t.getD i 0 : Nat) : Int)) := atI_nat (natV_at h)
theorem natV_set (t : List Nat) (i n : Nat) : (natV t).set i (.int (n : Int)) = natV (t.set i n) := by
  unfold natV
  rw [List.map_set]
theorem natV_rev (t : List Nat) : (natV t).reverse = natV t.reverse := by
  unfold natV
  rw [List.map_reverse]
theorem natV_snoc (t : List Nat) (n : Nat) : natV t ++ [.int (n : Int)] = natV (t ++ [n]) := by
  unfold natV
  rw [List.map_append]
  rfl
end Wr
/-! ### part: A -/
set_option Elab.async false
set_option linter.all false
set_option maxRecDepth 100000
set_option maxHeartbeats 4000000
/-! # The walk, first part: rooms -/
namespace Wr
open PySem PySem.Spec PyProof.Rows L2 Evl
/-! the evaluation of what hangs on nothing but what is known -/
local macro_rules | `(tactic| walk_at "cm") => `(tactic| first | exact Or.inl ⟨by decide, by decide⟩ | exact ⟨by decide, by decide⟩ | exact Or.inr ⟨by decide, by decide⟩ | exact Or.inl ⟨by omega, by omega⟩ | exact Or.inr ⟨by omega, by omega⟩ | exact ⟨by omega, by omega⟩ | exact ⟨by omega, by omega, by omega⟩)
local macro_rules | `(tactic| walk_at "at") => `(tactic| first | rfl | assumption)
local macro_rules | `(tactic| walk_at "rv") => `(tactic| first | exact rv_I0 | exact rv_eqI | exact rv_neI | exact rv_ixT (st_of (by assumption)) (by walk_at "at") | exact rv_ixT (by assumption) (by walk_at "at") | exact rv_ixL (sq_of (by assumption)) (by walk_at "at") | exact rv_ixL (by assumption) (by walk_at "at") | (apply rv_I; walk_at "cm"))
local macro_rules | `(tactic| walk_at "ea") => `(tactic| first | exact ea_nil | (apply ea_cons; walk_at "ev"; walk_at "ea"))
local macro_rules | `(tactic| walk_at "rc") => `(tactic| first | exact rc_min2 | exact rc_max2 | exact rc_min3 | exact rc_int | exact rc_len (sq_of (by assumption)) | exact rc_len (by assumption))
local macro_rules | `(tactic| walk_at "ev") => `(tactic| first | exact ev_c | exact ev_var rfl | assumption | (apply ev_op; walk_at "ev"; walk_at "ev"; walk_at "rv") | (apply ev_un; walk_at "ev"; exact ru_neg) | (apply ev_cb; walk_at "ea"; walk_at "rc"))
section
variable {P : Program} {w : World} {K : PySem.W.Frag} {mg : Str → Option Value} {base : Heap}

/-! ## Rooms: promises -/
def sp_new_room (K : PySem.W.Frag) : Sp := fun vs H Q _ => ∃ m a k : Int, vs = [.int m, .int a, .int k] ∧ RetP (TupAt [.int m, .int a, .int k, .int 0, .int 0, .int m]) H Q
def sp_patched_room (K : PySem.W.Frag) : Sp := fun vs H Q _ => ∃ (v : V) (r : Rm), vs = [v] ∧ TupAt (rmV r) v H ∧ RetP (TupAt (rmV { r with patched := true })) H Q
def sp_pumped_room (K : PySem.W.Frag) : Sp := fun vs H Q _ => ∃ (v : V) (r : Rm) (n : Nat), vs = [v, .int n] ∧ TupAt (rmV r) v H ∧ RetP (TupAt (rmV { r with pump := n })) H Q
def sp_room_with (K : PySem.W.Frag) : Sp := fun vs H Q _ => ∃ (v : V) (r : Rm) (n : Nat), vs = [v, .int n] ∧ TupAt (rmV r) v H ∧ RetP (TupAt (rmV { r with water := n })) H Q
def sp_air_grams (K : PySem.W.Frag) : Sp := fun vs H Q _ => ∃ (v : V) (r : Rm), vs = [v] ∧ TupAt (rmV r) v H ∧ r.water ≤ r.most ∧ RetV (.int (r.lifts : Nat)) H Q
def sp_leaking_in (K : PySem.W.Frag) : Sp := fun vs H Q _ => ∃ (v : V) (r : Rm), vs = [v] ∧ TupAt (rmV r) v H ∧ r.water ≤ r.most ∧ RetV (.int (r.comes : Nat)) H Q
def AfterAt (r : Rm) : V → Hp → Prop := fun v H => ∃ x, TupAt (rmV r.minute) x H ∧ TupAt [x, .int (r.comes : Nat), .int (r.goes : Nat)] v H
def sp_after_minute (K : PySem.W.Frag) : Sp := fun vs H Q _ => ∃ (v : V) (r : Rm), vs = [v] ∧ TupAt (rmV r) v H ∧ r.water ≤ r.most ∧ RetP (AfterAt r) H Q
theorem u_new_room {H : Hp} {m a k : Int} : SpP (sp_new_room K) [.int m, .int a, .int k] H (TupAt [.int m, .int a, .int k, .int 0, .int 0, .int m]) := fun H1 e Q q E => ⟨m, a, k, rfl, q⟩
theorem u_patched_room {H : Hp} {v : V} {r : Rm} (h : TupAt (rmV r) v H) : SpP (sp_patched_room K) [v] H (TupAt (rmV { r with patched := true })) := fun H1 e Q q E => ⟨v, r, rfl, h.ex e, q⟩
theorem u_pumped_room {H : Hp} {v : V} {r : Rm} {n : Nat} (h : TupAt (rmV r) v H) : SpP (sp_pumped_room K) [v, .int n] H (TupAt (rmV { r with pump := n })) := fun H1 e Q q E => ⟨v, r, n, rfl, h.ex e, q⟩
theorem u_room_with {H : Hp} {v : V} {r : Rm} {n : Nat} (h : TupAt (rmV r) v H) : SpP (sp_room_with K) [v, .int n] H (TupAt (rmV { r with water := n })) := fun H1 e Q q E => ⟨v, r, n, rfl, h.ex e, q⟩
theorem u_air_grams {H : Hp} {v : V} {r : Rm} (h : TupAt (rmV r) v H) (hw : r.water ≤ r.most) : SpV (sp_air_grams K) [v] H (.int (r.lifts : Nat)) := fun H1 e Q q E => ⟨v, r, rfl, h.ex e, hw, q⟩
theorem u_leaking_in {H : Hp} {v : V} {r : Rm} (h : TupAt (rmV r) v H) (hw : r.water ≤ r.most) : SpV (sp_leaking_in K) [v] H (.int (r.comes : Nat)) := fun H1 e Q q E => ⟨v, r, rfl, h.ex e, hw, q⟩
theorem u_after_minute {H : Hp} {v : V} {r : Rm} (h : TupAt (rmV r) v H) (hw : r.water ≤ r.most) : SpP (sp_after_minute K) [v] H (AfterAt r) := fun H1 e Q q E => ⟨v, r, rfl, h.ex e, hw, q⟩
/-! ## Rooms: bodies -/
theorem k_new_room (T : Facts K mg) : Kn P w K mg base "new_room" 1 ["most", "place", "leak"] (sp_new_room K) := by
  refine T.raw_new_room.kn sc_new_room (fun vs H Q E h => ?_) (fun cdv A outer s H vs Q E hr h => ?_)
  · obtain ⟨m, a, k, rfl, _⟩ := h
    rfl
  · obtain ⟨m, a, k, rfl, q⟩ := h
    refine ⟨_, (pss_one (ps_ret (pe_tup (pa_cons (pv 0) (pa_cons (pv 1) (pa_cons (pv 2) (pa_cons pe_int (pa_cons pe_int (pa_cons (pv 0) pa_nil))))))))), ?_⟩
    exact s_retP (ep_tup (by walk_at "ea") (Nat.le_of_ble_eq_true rfl)) q
theorem k_patched_room (T : Facts K mg) : Kn P w K mg base "patched_room" 1 ["room"] (sp_patched_room K) := by
  refine T.raw_patched_room.kn sc_patched_room (fun vs H Q E h => ?_) (fun cdv A outer s H vs Q E hr h => ?_)
  · obtain ⟨v, r, rfl, _⟩ := h
    rfl
  · obtain ⟨v, r, rfl, ⟨t, rfl, ht⟩, q⟩ := h
    refine ⟨_, (pss_one (ps_ret (pe_tup (pa_cons (pe_ix ix_tup (pv 0) pe_int (fun _ _ => rfl)) (pa_cons (pe_ix ix_tup (pv 0) pe_int (fun _ _ => rfl)) (pa_cons (pe_ix ix_tup (pv 0) pe_int (fun _ _ => rfl)) (pa_cons pe_int (pa_cons (pe_ix ix_tup (pv 0) pe_int (fun _ _ => rfl)) (pa_cons (pe_ix ix_tup (pv 0) pe_int (fun _ _ => rfl)) pa_nil))))))))), ?_⟩
    exact s_retP (ep_tup (by walk_at "ea") (Nat.le_of_ble_eq_true rfl)) q
theorem k_pumped_room (T : Facts K mg) : Kn P w K mg base "pumped_room" 1 ["room", "rate"] (sp_pumped_room K) := by
  refine T.raw_pumped_room.kn sc_pumped_room (fun vs H Q E h => ?_) (fun cdv A outer s H vs Q E hr h => ?_)
  · obtain ⟨v, r, n, rfl, _⟩ := h
    rfl
  · obtain ⟨v, r, n, rfl, ⟨t, rfl, ht⟩, q⟩ := h
    refine ⟨_, (pss_one (ps_ret (pe_tup (pa_cons (pe_ix ix_tup (pv 0) pe_int (fun _ _ => rfl)) (pa_cons (pe_ix ix_tup (pv 0) pe_int (fun _ _ => rfl)) (pa_cons (pe_ix ix_tup (pv 0) pe_int (fun _ _ => rfl)) (pa_cons (pe_ix ix_tup (pv 0) pe_int (fun _ _ => rfl)) (pa_cons (pv 1) (pa_cons (pe_ix ix_tup (pv 0) pe_int (fun _ _ => rfl)) pa_nil))))))))), ?_⟩
    exact s_retP (ep_tup (by walk_at "ea") (Nat.le_of_ble_eq_true rfl)) q
theorem k_room_with (T : Facts K mg) : Kn P w K mg base "room_with" 1 ["room", "water"] (sp_room_with K) := by
  refine T.raw_room_with.kn sc_room_with (fun vs H Q E h => ?_) (fun cdv A outer s H vs Q E hr h => ?_)
  · obtain ⟨v, r, n, rfl, _⟩ := h
    rfl
  · obtain ⟨v, r, n, rfl, ⟨t, rfl, ht⟩, q⟩ := h
    refine ⟨_, (pss_one (ps_ret (pe_tup (pa_cons (pe_ix ix_tup (pv 0) pe_int (fun _ _ => rfl)) (pa_cons (pe_ix ix_tup (pv 0) pe_int (fun _ _ => rfl)) (pa_cons (pe_ix ix_tup (pv 0) pe_int (fun _ _ => rfl)) (pa_cons (pe_ix ix_tup (pv 0) pe_int (fun _ _ => rfl)) (pa_cons (pe_ix ix_tup (pv 0) pe_int (fun _ _ => rfl)) (pa_cons (pv 1) pa_nil))))))))), ?_⟩
    exact s_retP (ep_tup (by walk_at "ea") (Nat.le_of_ble_eq_true rfl)) q
theorem k_air_grams (T : Facts K mg) : Kn P w K mg base "air_grams" 1 ["room"] (sp_air_grams K) := by
  refine T.raw_air_grams.kn sc_air_grams (fun vs H Q E h => ?_) (fun cdv A outer s H vs Q E hr h => ?_)
  · obtain ⟨v, r, rfl, _⟩ := h
    rfl
  · obtain ⟨v, r, rfl, ⟨t, rfl, ht⟩, hw, q⟩ := h
    refine ⟨_, (pss_one (ps_ret (pe_op op_mul (pe_gi T.g_LIFT) (pe_op op_sub (pe_ix ix_tup (pv 0) pe_int (fun _ _ => rfl)) (pe_ix ix_tup (pv 0) pe_int (fun _ _ => rfl)))))), ?_⟩
    refine s_ret (ev_is (by walk_at "ev") ?_) q
    rw [air_eq hw]
theorem k_leaking_in (T : Facts K mg) : Kn P w K mg base "leaking_in" 1 ["room"] (sp_leaking_in K) := by
  refine T.raw_leaking_in.kn sc_leaking_in (fun vs H Q E h => ?_) (fun cdv A outer s H vs Q E hr h => ?_)
  · obtain ⟨v, r, rfl, _⟩ := h
    rfl
  · obtain ⟨v, r, rfl, ⟨t, rfl, ht⟩, hw, q⟩ := h
    refine ⟨_, (pss_cons (ps_if (pt_cmpR op_eq (pe_ix ix_tup (pv 0) pe_int (fun _ _ => rfl)) pe_int (nomark _)) (pss_one (ps_ret pe_int)) pss_nil)
      (pss_one (ps_ret (pe_callB (call_min2 rfl) (by rfl) T.n_min bt_min (pa_cons (pe_ix ix_tup (pv 0) pe_int (fun _ _ => rfl)) (pa_cons (pe_op op_sub (pe_ix ix_tup (pv 0) pe_int (fun _ _ => rfl)) (pe_ix ix_tup (pv 0) pe_int (fun _ _ => rfl))) pa_nil)))))), ?_⟩
    have ec : r.comes = if r.patched = true then 0 else min r.leak (r.most - r.water) := rfl
    refine q_when (et_test (by walk_at "ev")) (fun c H1 e => ?_) (fun c H1 e => ?_)
    · have c' := b01_one.mp (of_decide_eq_true c)
      refine s_ret (v := .int ((0 : Nat) : Int)) ev_c ?_
      rw [ec, if_pos c'] at q
      exact RetV.on q e
    · have c' : ¬ r.patched = true := fun z => of_decide_eq_false c (b01_one.mpr z)
      rw [ec, if_neg c'] at q
      have ht := e _ _ ht
      refine s_ret (ev_is (by walk_at "ev") ?_) (RetV.on q e)
      refine congrArg V.int ?_
      omega
theorem k_after_minute (T : Facts K mg) (h_leaking_in : Kn P w K mg base "leaking_in" 1 ["room"] (sp_leaking_in K)) (h_room_with : Kn P w K mg base "room_with" 1 ["room", "water"] (sp_room_with K)) :
    Kn P w K mg base "after_minute" 2 ["room"] (sp_after_minute K) := by
  refine T.raw_after_minute.kn sc_after_minute (fun vs H Q E h => ?_) (fun cdv A outer s H vs Q E hr h => ?_)
  · obtain ⟨v, r, rfl, _⟩ := h
    rfl
  · obtain ⟨v, r, rfl, hv, hw, q⟩ := h
    have hv0 := hv
    obtain ⟨t, rfl, ht⟩ := hv
    refine ⟨_, (pss_cons (ps_set (i := 1) sc_after_minute.nd rfl (Or.inl rfl) (pe_kn h_leaking_in hr (pa_cons (pv 0) pa_nil)))
      (pss_cons (ps_set (i := 2) sc_after_minute.nd rfl (Or.inl rfl) (pe_op op_add (pe_ix ix_tup (pv 0) pe_int (fun _ _ => rfl)) (pv 1)))
      (pss_cons (ps_set (i := 3) sc_after_minute.nd rfl (Or.inl rfl) (pe_callB (call_min2 rfl) (by rfl) T.n_min bt_min (pa_cons (pe_ix ix_tup (pv 0) pe_int (fun _ _ => rfl)) (pa_cons (pv 2) pa_nil))))
      (pss_one (ps_ret (pe_tup (pa_cons (pe_kn h_room_with hr (pa_cons (pv 0) (pa_cons (pe_op op_sub (pv 2) (pv 3)) pa_nil))) (pa_cons (pv 1) (pa_cons (pv 3) pa_nil))))))))), ?_⟩
    refine q_asg (v := .int (r.comes : Nat)) (ev_kall (by walk_at "ea") (u_leaking_in hv0 hw)) fun H1 e1 => ?_
    have ht1 := e1 _ _ ht
    refine q_asg (v := .int ((r.water + r.comes : Nat) : Int)) (ev_is (by walk_at "ev") (congrArg V.int (by omega))) fun H2 e2 => ?_
    have ht2 := e2 _ _ ht1
    refine q_asg (v := .int (r.goes : Nat)) (ev_is (by walk_at "ev") (congrArg V.int (by unfold Km420.Room.goes; omega))) fun H3 e3 => ?_
    have e13 := (e1.trans e2).trans e3
    have hg : r.goes ≤ r.water + r.comes := by unfold Km420.Room.goes; omega
    refine s_retP (ep_tupP (Φ := fun vs H' => ∃ x, vs = [x, .int (r.comes : Nat), .int (r.goes : Nat)] ∧ TupAt (rmV r.minute) x H') ?_ (fun vs H' ⟨x, hx, _⟩ => by rw [hx]; exact Nat.le_of_ble_eq_true rfl) (fun vs H1 H2 e ⟨x, hx, h⟩ => ⟨x, hx, h.ex e⟩)) (fun v H4 e4 ⟨vs, ⟨x, hx, hm⟩, hv⟩ => q v H4 (e13.trans e4) ⟨x, hm, by rw [← hx]; exact hv⟩)
    refine epa_cons (φ := TupAt (rmV r.minute)) (ep_call (vs := [.ref t, .int ((r.water + r.comes - r.goes : Nat) : Int)]) (ea_cons (ev_var rfl) (ea_cons (ev_is (by walk_at "ev") (congrArg V.int (by omega))) ea_nil)) (u_room_with (hv0.ex e13))) fun x H4 e4 hx => ?_
    exact epa_ev (ev_var rfl) (epa_ev (ev_var rfl) fun H5 e5 Q q => q [] H5 (Ex.refl _) ⟨x, rfl, hx.ex e5⟩)
/-! ### minutes till it is dry -/
def dryV (r : Rm) : Int := match Km420.dryIn 1441 0 r with
  | some n => (n : Int)
  | none => -1
def after (r : Rm) : Nat → Rm
  | 0 => r
  | n + 1 => (after r n).minute
theorem minute_ok {r : Rm} (h : r.water ≤ r.most) : r.minute.water ≤ r.minute.most := by
  show r.water + r.comes - r.goes ≤ r.most
  have : r.comes ≤ r.most - r.water := by
    unfold Km420.Room.comes
    split
    · omega
    · exact Nat.min_le_right _ _
  omega
theorem after_ok {r : Rm} (h : r.water ≤ r.most) : ∀ n, (after r n).water ≤ (after r n).most
  | 0 => h
  | n + 1 => minute_ok (after_ok h n)
theorem dry_on (f n : Nat) (r : Rm) : Km420.dryIn (f + 1) n r = if r.water = 0 then some n else Km420.dryIn f (n + 1) r.minute := rfl
def sp_minutes_till_dry (K : PySem.W.Frag) : Sp := fun vs H Q _ => ∃ (v : V) (r : Rm), vs = [v] ∧ TupAt (rmV r) v H ∧ r.water ≤ r.most ∧ RetV (.int (dryV r)) H Q
theorem u_minutes_till_dry {H : Hp} {v : V} {r : Rm} (h : TupAt (rmV r) v H) (hw : r.water ≤ r.most) : SpV (sp_minutes_till_dry K) [v] H (.int (dryV r)) := fun H1 e Q q E => ⟨v, r, rfl, h.ex e, hw, q⟩
theorem k_minutes_till_dry (T : Facts K mg) (h_after_minute : Kn P w K mg base "after_minute" 2 ["room"] (sp_after_minute K)) : Kn P w K mg base "minutes_till_dry" 3 ["room"] (sp_minutes_till_dry K) := by
  refine T.raw_minutes_till_dry.kn sc_minutes_till_dry (fun vs H Q E h => ?_) (fun cdv A outer s H vs Q E hr h => ?_)
  · obtain ⟨v, r, rfl, _⟩ := h
    rfl
  · obtain ⟨v, r, rfl, hv, hw, q⟩ := h
    refine ⟨_, (pss_cons (ps_set (i := 1) sc_minutes_till_dry.nd rfl (Or.inl rfl) (pv 0))
      (pss_cons (ps_for PassesOwn.never rfl (pi_range1 rfl T.n_range (pa_cons (pe_op op_add (pe_gi T.g_LONGEST) pe_int) pa_nil)) (pg_name (i := 2) sc_minutes_till_dry.nd rfl (Or.inl rfl))
        (pss_cons (ps_if (pt_cmpR op_eq (pe_ix ix_tup (pv 1) pe_int (fun _ _ => rfl)) pe_int (nomark _)) (pss_one (ps_ret (pv 2))) pss_nil)
        (pss_one (ps_set (i := 1) sc_minutes_till_dry.nd rfl (Or.inl rfl) (pe_ix ix_tup (pe_kn h_after_minute hr (pa_cons (pv 1) pa_nil)) pe_int (fun _ _ => rfl))))))
      (pss_one (ps_ret (pe_un un_neg pe_int))))), ?_⟩
    obtain ⟨dd, hdd⟩ : ∃ dd, dd = Km420.dryIn 1441 0 r := ⟨_, rfl⟩
    refine q_asg (ev_var rfl) fun H0 e0 => ?_
    refine q_forR1 (n := 1441) (by walk_at "ea") ⟨by decide, by decide⟩ (fun i σ' H' => ∃ x y, σ' = [some v, some x, y] ∧ Ex H H' ∧ TupAt (rmV (after r i)) x H' ∧ dd = Km420.dryIn (1441 - i) i (after r i))
      (fun H1 e1 => ⟨v, none, rfl, e0.trans e1, hv.ex (e0.trans e1), hdd⟩) (fun i σ' H' hi p => ?_) (fun σ' H' p => ?_)
    · obtain ⟨x, y, rfl, e, hx, hd⟩ := p
      have hx0 := hx
      obtain ⟨t, rfl, ht⟩ := hx
      have hi' : i < 1441 := by omega
      rw [show 1441 - i = (1441 - (i + 1)) + 1 by omega, dry_on] at hd
      refine q_when (et_test (by walk_at "ev")) (fun c H1 e1 => ?_) (fun c H1 e1 => ?_)
      · have c' : (after r i).water = 0 := by have := of_decide_eq_true c; omega
        rw [if_pos c'] at hd
        refine s_ret (v := .int (dryV r)) (ev_is (ev_var rfl) ?_) (RetV.on q (e.trans e1))
        unfold dryV
        rw [← hdd, hd]
      · have c' : ¬ (after r i).water = 0 := by have := of_decide_eq_false c; omega
        rw [if_neg c'] at hd
        refine s_asgP (φ := TupAt (rmV (after r (i + 1)))) ?_ fun z H2 e2 hz => ⟨z, _, rfl, (e.trans e1).trans e2, hz, hd⟩
        intro H2 e2 Q2 q2
        refine ep_call (vs := [.ref t]) (φ := AfterAt (after r i)) (H := H1) (ea_cons (ev_var rfl) ea_nil) (u_after_minute (hx0.ex e1) (after_ok hw i)) H2 e2 _ fun u H3 e3 hu => ?_
        obtain ⟨z, hz, t2, rfl, ht2⟩ := hu
        exact ⟨t2, _, 0, z, rfl, rfl, st_of ht2, rfl, q2 z H3 e3 hz⟩
    · obtain ⟨x, y, rfl, e, hx, hd⟩ := p
      refine s_ret (v := .int (dryV r)) (ev_is (by walk_at "ev") ?_) (RetV.on q e)
      unfold dryV
      rw [← hdd, hd]
      rfl
/-! ### water in rooms -/
def sp_water_in (K : PySem.W.Frag) : Sp := fun vs H Q _ => ∃ (p : Addr) (rs : List Rm), vs = [.ref p] ∧ Rows H p (rs.map rmV) ∧ rs.length ≤ 1000 ∧ RetV (.int (Km420.sum (rs.map fun (r : Rm) => r.water) : Nat)) H Q
theorem u_water_in {H : Hp} {p : Addr} {rs : List Rm} (h : Rows H p (rs.map rmV)) (hl : rs.length ≤ 1000) : SpV (sp_water_in K) [.ref p] H (.int (Km420.sum (rs.map fun (r : Rm) => r.water) : Nat)) := fun H1 e Q q E => ⟨p, rs, rfl, h.ex e, hl, q⟩
theorem k_water_in (T : Facts K mg) : Kn P w K mg base "water_in" 1 ["rooms"] (sp_water_in K) := by
  refine T.raw_water_in.kn sc_water_in (fun vs H Q E h => ?_) (fun cdv A outer s H vs Q E hr h => ?_)
  · obtain ⟨p, rs, rfl, _⟩ := h
    rfl
  · obtain ⟨p, rs, rfl, ⟨ts, hp, ht⟩, hl, q⟩ := h
    refine ⟨_, (pss_one (ps_ret (pe_callB (cr_sum rfl) (by rfl) T.n_sum bt_sum (pa_cons (pe_lc (own := [("room", 1)]) (g := (gName 1)) (tt := tYes) (te := (tOp (rIxT K) (tVar 1) (tC (.int 5)))) rfl sc_water_in.nd (pi_list (pv 0)) (blkOk_by (N := ["rooms", "room"]) (sc := defScope s_water_in) (by decide +kernel)) (fun _ _ _ _ _ => (pg_name (i := 1) sc_water_in.nd rfl (Or.inl rfl))) (fun _ _ _ _ _ => pts_nil) (fun _ _ _ _ _ => (pe_ix ix_tup (pv 1) pe_int (fun _ _ => rfl)))) pa_nil)))), ?_⟩
    rw [← sum_cast] at q
    refine s_ret (ev_sumN (el_lcM (xs := ts) ((rs.map fun (r : Rm) => ((r.water : Nat) : Int)).map V.int) (by rw [List.length_map, List.length_map, ht.size]) (ev_var rfl) (sq_of hp) (by rw [ht.size]; omega) fun i x y H1 hx hy e => ?_)) q
    obtain ⟨r, hr, t, rfl, htr⟩ := ht.of hx
    rw [List.map_map] at hy
    have ey := map_at hr hy
    subst ey
    have htr := e _ _ htr
    exact turn_name rfl (by walk_at "ev")
end
end Wr
/-! ### part: B -/
set_option Elab.async false
set_option linter.all false
set_option maxRecDepth 100000
set_option maxHeartbeats 4000000
/-! # The walk, second part: pulls -/
namespace Wr
open PySem PySem.Spec PyProof.Rows L2 Evl
/-! the evaluation of what hangs on nothing but what is known -/
local macro_rules | `(tactic| walk_at "cm") => `(tactic| first | exact Or.inl ⟨by decide, by decide⟩ | exact ⟨by decide, by decide⟩ | exact Or.inr ⟨by decide, by decide⟩ | exact Or.inl ⟨by omega, by omega⟩ | exact Or.inr ⟨by omega, by omega⟩ | exact ⟨by omega, by omega⟩ | exact ⟨by omega, by omega, by omega⟩)
local macro_rules | `(tactic| walk_at "at") => `(tactic| first | rfl | assumption)
local macro_rules | `(tactic| walk_at "rv") => `(tactic| first | exact rv_I0 | exact rv_eqI | exact rv_neI | exact rv_ixT (st_of (by assumption)) (by walk_at "at") | exact rv_ixT (by assumption) (by walk_at "at") | exact rv_ixL (sq_of (by assumption)) (by walk_at "at") | exact rv_ixL (by assumption) (by walk_at "at") | (apply rv_I; walk_at "cm"))
local macro_rules | `(tactic| walk_at "ea") => `(tactic| first | exact ea_nil | (apply ea_cons; walk_at "ev"; walk_at "ea"))
local macro_rules | `(tactic| walk_at "rc") => `(tactic| first | exact rc_min2 | exact rc_max2 | exact rc_min3 | exact rc_int | exact rc_len (sq_of (by assumption)) | exact rc_len (by assumption))
local macro_rules | `(tactic| walk_at "ev") => `(tactic| first | exact ev_c | exact ev_var rfl | assumption | (apply ev_op; walk_at "ev"; walk_at "ev"; walk_at "rv") | (apply ev_un; walk_at "ev"; exact ru_neg) | (apply ev_cb; walk_at "ea"; walk_at "rc"))
section
variable {P : Program} {w : World} {K : PySem.W.Frag} {mg : Str → Option Value} {base : Heap}
/-- lines as they are borne: not too many, along the wreck -/
structure LdOk (ls : List Li) : Prop where
  len : ls.length ≤ 1000
  at_ : ∀ l ∈ ls, -5000 ≤ l.at_ ∧ l.at_ ≤ 5000
theorem LdOk.rev {ls : List Li} (h : LdOk ls) : LdOk ls.reverse := ⟨by rw [List.length_reverse]; exact h.len, fun l hl => h.at_ l (List.mem_reverse.mp hl)⟩
abbrev Loads (H : Hp) (p : Addr) (ls : List Li) : Prop := Rows H p (ls.map ldV)
/-! ## borne -/
def sp_borne (K : PySem.W.Frag) : Sp := fun vs H Q _ => ∃ (p : Addr) (ls : List Li), vs = [.ref p] ∧ Loads H p ls ∧ LdOk ls ∧ RetV (.int (Km420.bears ls : Nat)) H Q
theorem u_borne {H : Hp} {p : Addr} {ls : List Li} (h : Loads H p ls) (ok : LdOk ls) : SpV (sp_borne K) [.ref p] H (.int (Km420.bears ls : Nat)) := fun H1 e Q q E => ⟨p, ls, rfl, h.ex e, ok, q⟩
theorem k_borne (T : Facts K mg) : Kn P w K mg base "borne" 1 ["loads"] (sp_borne K) := by
  refine T.raw_borne.kn sc_borne (fun vs H Q E h => ?_) (fun cdv A outer s H vs Q E hr h => ?_)
  · obtain ⟨p, ls, rfl, _⟩ := h
    rfl
  · obtain ⟨p, ls, rfl, ⟨ts, hp, ht⟩, ok, q⟩ := h
    refine ⟨_, (pss_one (ps_ret (pe_callB (cr_sum rfl) (by rfl) T.n_sum bt_sum (pa_cons (pe_lc (own := [("place", 1), ("grams", 2)]) (g := (gTup K 2 (gCons (gName 1) (gCons (gName 2) gNil)))) (tt := tYes) (te := (tVar 2)) rfl sc_borne.nd (pi_list (pv 0)) (blkOk_by (N := ["loads", "place", "grams"]) (sc := defScope s_borne) (by decide +kernel)) (fun _ _ _ _ _ => (pg_tup rfl (pgs_cons (pg_name (i := 1) sc_borne.nd rfl (Or.inl rfl)) (pgs_cons (pg_name (i := 2) sc_borne.nd rfl (Or.inl rfl)) pgs_nil)))) (fun _ _ _ _ _ => pts_nil) (fun _ _ _ _ _ => (pv 2))) pa_nil)))), ?_⟩
    unfold Km420.bears at q
    rw [← sum_cast] at q
    have hl := ok.len
    refine s_ret (ev_sumN (el_lcM (xs := ts) ((ls.map fun (l : Li) => ((l.most : Nat) : Int)).map V.int) (by rw [List.length_map, List.length_map, ht.size]) (ev_var rfl) (sq_of hp) (by rw [ht.size]; omega) fun i x y H1 hx hy e => ?_)) q
    obtain ⟨l, hl, hv⟩ := ht.of hx
    rw [List.map_map] at hy
    have ey := map_at hl hy
    subst ey
    exact turn_two (hv.ex e) rfl (ev_var rfl)
/-! ## poured -/
def restAt : List Li → Nat → Nat → Nat
  | [], n, _ => n
  | _ :: _, n, 0 => n
  | l :: r, n, i + 1 => restAt r (n - min l.most n) i
theorem restAt_zero : ∀ (ls : List Li) (n : Nat), restAt ls n 0 = n
  | [], _ => rfl
  | _ :: _, _ => rfl
theorem restAt_fill : ∀ {ls : List Li} {n i : Nat} {l : Li}, ls[i]? = some l → (Km420.fills ls n)[i]? = some (min l.most (restAt ls n i)) ∧ restAt ls n (i + 1) = restAt ls n i - min l.most (restAt ls n i)
  | [], _, _, _, h => by simp at h
  | a :: r, n, 0, l, h => by
    have e : a = l := Option.some.inj h
    subst e
    exact ⟨rfl, restAt_zero r _⟩
  | a :: r, n, i + 1, l, h => restAt_fill (ls := r) (n := n - min a.most n) (i := i) h
def sp_poured (K : PySem.W.Frag) : Sp := fun vs H Q _ => ∃ (p : Addr) (ls : List Li) (n : Nat), vs = [.ref p, .int n] ∧ Loads H p ls ∧ LdOk ls ∧ RetP (NewL H (natV (Km420.fills ls n))) H Q
theorem u_poured {H : Hp} {p : Addr} {ls : List Li} {n : Nat} (h : Loads H p ls) (ok : LdOk ls) : SpP (sp_poured K) [.ref p, .int n] H (NewL H (natV (Km420.fills ls n))) := fun H1 e Q q E => ⟨p, ls, n, rfl, h.ex e, ok, fun v H2 e2 ⟨a, h1, h2, h3⟩ => q v H2 e2 ⟨a, h1, fresh_back e h2, h3⟩⟩
theorem k_poured (T : Facts K mg) : Kn P w K mg base "poured" 1 ["loads", "need"] (sp_poured K) := by
  refine T.raw_poured.kn sc_poured (fun vs H Q E h => ?_) (fun cdv A outer s H vs Q E hr h => ?_)
  · obtain ⟨p, ls, n, rfl, _⟩ := h
    rfl
  · obtain ⟨p, ls, n, rfl, hp, ok, q⟩ := h
    refine ⟨_, (pss_cons (ps_set (i := 2) sc_poured.nd rfl (Or.inl rfl) (pe_lst pa_nil))
      (pss_cons (ps_set (i := 3) sc_poured.nd rfl (Or.inl rfl) (pv 1))
      (pss_cons (ps_for PassesOwn.never rfl (pi_list (pv 0)) (pg_tup rfl (pgs_cons (pg_name (i := 4) sc_poured.nd rfl (Or.inl rfl)) (pgs_cons (pg_name (i := 5) sc_poured.nd rfl (Or.inl rfl)) pgs_nil)))
        (pss_cons (ps_set (i := 6) sc_poured.nd rfl (Or.inl rfl) (pe_callB (call_min2 rfl) (by rfl) T.n_min bt_min (pa_cons (pv 5) (pa_cons (pv 3) pa_nil))))
        (pss_cons (ps_expr (pe_bm PySem.F.plainAttrs_list PySem.F.slot_list_append PySem.F.type_list_append mt_append (pv 2) (pa_cons (pv 6) pa_nil)))
        (pss_one (ps_set (i := 3) sc_poured.nd rfl (Or.inl rfl) (pe_op op_sub (pv 3) (pv 6)))))))
      (pss_one (ps_ret (pv 2)))))), ?_⟩
    refine q_asgL (xs := []) (el_lst ea_nil (Nat.zero_le _)) fun d H0 nd e0 hd => ?_
    refine q_asg (ev_var rfl) fun H1 e1 => ?_
    obtain ⟨ts, hp1, ht⟩ := hp.ex (e0.trans e1)
    have hok := ok.len
    refine q_forL (xs := ts) (ev_var rfl) (sq_of hp1) (fun i σ' H' => ∃ y1 y2 y3, σ' = [some (.ref p), some (.int n), some (.ref d), some (.int (restAt ls n i : Nat)), y1, y2, y3] ∧ (Ex H H' ∧ Tups H' ts (ls.map ldV) ∧ H' p = some (.lst ts)) ∧ H' d = some (.lst (natV ((Km420.fills ls n).take i))))
      (fun H2 e2 => ⟨none, none, none, by rw [restAt_zero]; rfl, ⟨(e0.trans e1).trans e2, ht.ex e2, e2 _ _ hp1⟩, by rw [List.take_zero]; exact e2 _ _ (e1 _ _ hd)⟩) (fun i σ' H' _ p => ?_) (fun i x σ' H' hx p => ?_) (fun σ' H' p => ?_)
    · obtain ⟨y1, y2, y3, rfl, ⟨_, _, h3⟩, _⟩ := p
      exact sq_of h3
    · obtain ⟨y1, y2, y3, rfl, ⟨h1, h2, h3⟩, h4⟩ := p
      obtain ⟨l, hl, hv⟩ := h2.of hx
      obtain ⟨f1, f2⟩ := restAt_fill (n := n) hl
      refine g_two hv _ ?_
      refine q_asg (v := .int ((min l.most (restAt ls n i) : Nat) : Int)) (ev_is (by walk_at "ev") (congrArg V.int (by omega))) fun H3 e3 => ?_
      have hi : i < ls.length := (List.getElem?_eq_some_iff.mp hl).1
      refine q_app (xs := natV ((Km420.fills ls n).take i)) (l := d) (e3 _ _ h4) (ev_var rfl) (ev_var rfl) (by rw [natV_len, List.length_take, fills_len]; omega) fun H4 e4 => ?_
      have e34 := e3.trans e4
      have hdp : H4 d = some (.lst (natV ((Km420.fills ls n).take i))) := e34 _ _ h4
      have hEx : Ex H (upd H4 d (.lst (natV ((Km420.fills ls n).take i) ++ [.int ((min l.most (restAt ls n i) : Nat) : Int)]))) := Ex.mut (h1.trans e34) nd
      refine s_asg (v := .int (restAt ls n (i + 1) : Nat)) (ev_is (by walk_at "ev") (congrArg V.int (by rw [f2]; omega))) fun H5 e5 => ?_
      refine ⟨_, _, _, rfl, ⟨hEx.trans e5, ((h2.ex e34).keep (tups_upd hdp)).ex e5, e5 _ _ ?_⟩, e5 _ _ ?_⟩
      · have hne : p ≠ d := by
          obtain ⟨ts0, hp0, _⟩ := hp
          exact ne_of_none hp0 nd
        rw [upd_ne hne]
        exact e34 _ _ h3
      · rw [upd_same, take_snoc f1, natV_snoc]
    · obtain ⟨y1, y2, y3, rfl, ⟨h1, h2, h3⟩, h4⟩ := p
      refine s_ret (ev_var rfl) fun H2 e2 => q _ H2 (h1.trans e2) ⟨d, rfl, nd, ?_⟩
      rw [h2.size, ← fills_len ls n, List.take_length] at h4
      exact e2 _ _ h4
/-! ## poured_back -/
def sp_poured_back (K : PySem.W.Frag) : Sp := fun vs H Q _ => ∃ (p : Addr) (ls : List Li) (n : Nat), vs = [.ref p, .int n] ∧ Loads H p ls ∧ LdOk ls ∧ RetP (NewL H (natV (Km420.fills ls.reverse n).reverse)) H Q
theorem u_poured_back {H : Hp} {p : Addr} {ls : List Li} {n : Nat} (h : Loads H p ls) (ok : LdOk ls) : SpP (sp_poured_back K) [.ref p, .int n] H (NewL H (natV (Km420.fills ls.reverse n).reverse)) := fun H1 e Q q E => ⟨p, ls, n, rfl, h.ex e, ok, fun v H2 e2 ⟨a, h1, h2, h3⟩ => q v H2 e2 ⟨a, h1, fresh_back e h2, h3⟩⟩
theorem k_poured_back (T : Facts K mg) (h_poured : Kn P w K mg base "poured" 1 ["loads", "need"] (sp_poured K)) : Kn P w K mg base "poured_back" 2 ["loads", "need"] (sp_poured_back K) := by
  refine T.raw_poured_back.kn sc_poured_back (fun vs H Q E h => ?_) (fun cdv A outer s H vs Q E hr h => ?_)
  · obtain ⟨p, ls, n, rfl, _⟩ := h
    rfl
  · obtain ⟨p, ls, n, rfl, ⟨ts, hp, ht⟩, ok, q⟩ := h
    refine ⟨_, (pss_cons (ps_set (i := 2) sc_poured_back.nd rfl (Or.inl rfl) (pe_kn h_poured hr (pa_cons (pe_revL (pv 0)) (pa_cons (pv 1) pa_nil))))
      (pss_one (ps_ret (pe_revL (pv 2))))), ?_⟩
    refine q_asgP (φ := NewL H (natV (Km420.fills ls.reverse n))) (ep_callP (Φ := fun vs H1 => ∃ a, vs = [.ref a, .int n] ∧ Loads H1 a ls.reverse) (epa_cons (ep_newL (el_rev (ev_var rfl) (sq_of hp))) fun x H1 e1 ⟨a, hx, n1, h1⟩ => ?_) fun vs H1 e1 ⟨a, hv, h1⟩ => ?_) fun v H1 e1 ⟨d, hv, nd, hd⟩ => ?_
    · refine epa_ev (ev_var rfl) fun H2 e2 Q q => q [] H2 (Ex.refl _) ⟨a, by rw [hx], ts.reverse, e2 _ _ h1, ?_⟩
      rw [List.map_reverse]
      exact (ht.ex (e1.trans e2)).rev
    · subst hv
      intro H2 e2 Q q
      exact u_poured h1 ok.rev H2 e2 Q fun v H3 e3 ⟨b, h2, h3, h4⟩ => q v H3 e3 ⟨b, h2, fresh_back e1 h3, h4⟩
    · subst hv
      refine s_retL (el_rev (ev_var rfl) (sq_of hd)) fun b H2 nb e2 hb => q _ H2 (e1.trans e2) ⟨b, rfl, fresh_back e1 nb, ?_⟩
      rw [hb, natV_rev]
/-! ## moment_of -/
def sp_moment_of (K : PySem.W.Frag) : Sp := fun vs H Q _ => ∃ (p a : Addr) (ls : List Li) (t : List Nat), vs = [.ref p, .ref a] ∧ Loads H p ls ∧ LdOk ls ∧ H a = some (.lst (natV t)) ∧ t.length = ls.length ∧ RetV (.int (Km420.momentOf ls t)) H Q
theorem u_moment_of {H : Hp} {p a : Addr} {ls : List Li} {t : List Nat} (h : Loads H p ls) (ok : LdOk ls) (ha : H a = some (.lst (natV t))) (hl : t.length = ls.length) : SpV (sp_moment_of K) [.ref p, .ref a] H (.int (Km420.momentOf ls t)) := fun H1 e Q q E => ⟨p, a, ls, t, rfl, h.ex e, ok, e _ _ ha, hl, q⟩
def prods (ls : List Li) (t : List Nat) : List Int := (ls.zip t).map fun p => p.1.at_ * (p.2 : Int)
theorem prods_sum (ls : List Li) (t : List Nat) : (prods ls t).sum = Km420.momentOf ls t := by
  rw [sum_total]
  unfold prods Km420.momentOf
  congr 1
  exact List.map_congr_left fun p _ => Int.mul_comm _ _
theorem prods_len {ls : List Li} {t : List Nat} (h : t.length = ls.length) : (prods ls t).length = ls.length := by
  unfold prods
  rw [List.length_map, List.length_zip, h, Nat.min_self]
theorem prods_at {ls : List Li} {t : List Nat} {i : Nat} {l : Li} (hl : ls[i]? = some l) (hi : i < t.length) : (prods ls t)[i]? = some (l.at_ * ((t.getD i 0 : Nat) : Int)) := by
  unfold prods
  have hz : (ls.zip t)[i]? = some (l, t[i]) := List.getElem?_zip_eq_some.mpr ⟨hl, List.getElem?_eq_getElem hi⟩
  rw [List.getElem?_map, hz, List.getD_eq_getElem?_getD, List.getElem?_eq_getElem hi]
  rfl
theorem k_moment_of (T : Facts K mg) : Kn P w K mg base "moment_of" 1 ["loads", "pulls"] (sp_moment_of K) := by
  refine T.raw_moment_of.kn sc_moment_of (fun vs H Q E h => ?_) (fun cdv A outer s H vs Q E hr h => ?_)
  · obtain ⟨p, a, ls, t, rfl, _⟩ := h
    rfl
  · obtain ⟨p, a, ls, t, rfl, ⟨ts, hp, ht⟩, ok, ha, hl, q⟩ := h
    refine ⟨_, (pss_one (ps_ret (pe_callB (cr_sum rfl) (by rfl) T.n_sum bt_sum (pa_cons (pe_lc (own := [("k", 2)]) (g := (gName 2)) (tt := tYes) (te := (tOp (rI CMul fun i j => V.int (i * j)) (tOp (rIxT K) (tOp (rIxL K) (tVar 0) (tVar 2)) (tC (.int 0))) (tOp (rIxL K) (tVar 1) (tVar 2)))) rfl sc_moment_of.nd (pi_range1 rfl T.n_range (pa_cons (pe_callB call_len_seq (by rfl) T.n_len bt_len (pa_cons (pv 0) pa_nil)) pa_nil)) (blkOk_by (N := ["loads", "pulls", "k"]) (sc := defScope s_moment_of) (by decide +kernel)) (fun _ _ _ _ _ => (pg_name (i := 2) sc_moment_of.nd rfl (Or.inl rfl))) (fun _ _ _ _ _ => pts_nil) (fun _ _ _ _ _ => (pe_op op_mul (pe_ix ix_tup (pe_ix ix_list (pv 0) (pv 2) (fun _ _ => rfl)) pe_int (fun _ _ => rfl)) (pe_ix ix_list (pv 1) (pv 2) (fun _ _ => rfl))))) pa_nil)))), ?_⟩
    rw [← prods_sum] at q
    have hn := ok.len
    have hts := ht.size
    refine s_ret (ev_sumN (el_lcN (n := ts.length) ((prods ls t).map V.int) (by rw [List.length_map, prods_len hl, ht.size]) (by walk_at "ea") (by omega) (fun _ => rfl) fun i y H1 hi hy e => ?_)) q
    have hi1 : i < ls.length := by omega
    obtain ⟨v, hv, t0, rfl, ht0⟩ := ht.to (List.getElem?_eq_getElem hi1)
    have hi2 : i < t.length := by omega
    have ey := map_at (prods_at (List.getElem?_eq_getElem hi1) hi2) hy
    subst ey
    have a1 : atI ts (i : Int) = some (.ref t0) := atI_nat hv
    have a2 := natV_ix hi2
    have hp1 := e _ _ hp
    have ha1 := e _ _ ha
    have ht1 := e _ _ ht0
    have hb := ok.at_ _ (List.getElem_mem hi1)
    walk_at "ev"
/-! ## the least, the greatest moment -/
theorem max_nat (z : Int) : max (0 : Int) z = ((z.toNat : Nat) : Int) := by omega
def sp_least_moment (K : PySem.W.Frag) : Sp := fun vs H Q _ => ∃ (p : Addr) (ls : List Li) (z : Int), vs = [.ref p, .int z] ∧ Loads H p ls ∧ LdOk ls ∧ RetV (.int (Km420.least ls z.toNat)) H Q
theorem u_least_moment {H : Hp} {p : Addr} {ls : List Li} {z : Int} (h : Loads H p ls) (ok : LdOk ls) : SpV (sp_least_moment K) [.ref p, .int z] H (.int (Km420.least ls z.toNat)) := fun H1 e Q q E => ⟨p, ls, z, rfl, h.ex e, ok, q⟩
theorem k_least_moment (T : Facts K mg) (h_poured : Kn P w K mg base "poured" 1 ["loads", "need"] (sp_poured K)) (h_moment_of : Kn P w K mg base "moment_of" 1 ["loads", "pulls"] (sp_moment_of K)) : Kn P w K mg base "least_moment" 2 ["loads", "left"] (sp_least_moment K) := by
  refine T.raw_least_moment.kn sc_least_moment (fun vs H Q E h => ?_) (fun cdv A outer s H vs Q E hr h => ?_)
  · obtain ⟨p, ls, z, rfl, _⟩ := h
    rfl
  · obtain ⟨p, ls, z, rfl, hp, ok, q⟩ := h
    refine ⟨_, (pss_one (ps_ret (pe_kn h_moment_of hr (pa_cons (pv 0) (pa_cons (pe_kn h_poured hr (pa_cons (pv 0) (pa_cons (pe_callB (call_max2 rfl) (by rfl) T.n_max bt_max (pa_cons pe_int (pa_cons (pv 1) pa_nil))) pa_nil))) pa_nil))))), ?_⟩
    refine s_ret (ev_ep (ep_callP (Φ := fun vs H1 => ∃ a, vs = [.ref p, .ref a] ∧ H1 a = some (.lst (natV (Km420.fills ls z.toNat)))) (epa_ev (ev_var rfl) (epa_one (φ := NewL H (natV (Km420.fills ls z.toNat))) ?_ fun x H1 e1 ⟨a, hx, _, h1⟩ => ⟨a, by rw [hx], h1⟩)) fun vs H1 e1 ⟨a, hv, h1⟩ => ?_)) q
    · exact ep_call (vs := [.ref p, .int (z.toNat : Nat)]) (ea_cons (ev_var rfl) (ea_cons (ev_is (by walk_at "ev") (congrArg V.int (max_nat z))) ea_nil)) (u_poured hp ok)
    · subst hv
      intro H2 e2 Q q
      exact u_moment_of (hp.ex e1) ok h1 (fills_len _ _) H2 e2 Q fun H3 e3 => q _ H3 e3 rfl
def sp_greatest_moment (K : PySem.W.Frag) : Sp := fun vs H Q _ => ∃ (p : Addr) (ls : List Li) (z : Int), vs = [.ref p, .int z] ∧ Loads H p ls ∧ LdOk ls ∧ RetV (.int (Km420.greatest ls z.toNat)) H Q
theorem u_greatest_moment {H : Hp} {p : Addr} {ls : List Li} {z : Int} (h : Loads H p ls) (ok : LdOk ls) : SpV (sp_greatest_moment K) [.ref p, .int z] H (.int (Km420.greatest ls z.toNat)) := fun H1 e Q q E => ⟨p, ls, z, rfl, h.ex e, ok, q⟩
theorem k_greatest_moment (T : Facts K mg) (h_poured_back : Kn P w K mg base "poured_back" 2 ["loads", "need"] (sp_poured_back K)) (h_moment_of : Kn P w K mg base "moment_of" 1 ["loads", "pulls"] (sp_moment_of K)) : Kn P w K mg base "greatest_moment" 3 ["loads", "left"] (sp_greatest_moment K) := by
  refine T.raw_greatest_moment.kn sc_greatest_moment (fun vs H Q E h => ?_) (fun cdv A outer s H vs Q E hr h => ?_)
  · obtain ⟨p, ls, z, rfl, _⟩ := h
    rfl
  · obtain ⟨p, ls, z, rfl, hp, ok, q⟩ := h
    refine ⟨_, (pss_one (ps_ret (pe_kn h_moment_of hr (pa_cons (pv 0) (pa_cons (pe_kn h_poured_back hr (pa_cons (pv 0) (pa_cons (pe_callB (call_max2 rfl) (by rfl) T.n_max bt_max (pa_cons pe_int (pa_cons (pv 1) pa_nil))) pa_nil))) pa_nil))))), ?_⟩
    rw [← greatest_is] at q
    refine s_ret (ev_ep (ep_callP (Φ := fun vs H1 => ∃ a, vs = [.ref p, .ref a] ∧ H1 a = some (.lst (natV (Km420.fills ls.reverse z.toNat).reverse))) (epa_ev (ev_var rfl) (epa_one (φ := NewL H (natV (Km420.fills ls.reverse z.toNat).reverse)) ?_ fun x H1 e1 ⟨a, hx, _, h1⟩ => ⟨a, by rw [hx], h1⟩)) fun vs H1 e1 ⟨a, hv, h1⟩ => ?_)) q
    · exact ep_call (vs := [.ref p, .int (z.toNat : Nat)]) (ea_cons (ev_var rfl) (ea_cons (ev_is (by walk_at "ev") (congrArg V.int (max_nat z))) ea_nil)) (u_poured_back hp ok)
    · subst hv
      intro H2 e2 Q q
      exact u_moment_of (hp.ex e1) ok h1 (by rw [List.length_reverse, fills_len, List.length_reverse]) H2 e2 Q fun H3 e3 => q _ H3 e3 rfl
/-! ## can_hang -/
def sp_can_hang (K : PySem.W.Frag) : Sp := fun vs H Q _ => ∃ (p : Addr) (ls : List Li) (z m : Int) (tilt : Nat), vs = [.ref p, .int z, .int m, .int tilt] ∧ Loads H p ls ∧ LdOk ls ∧ RetV (.bl (Km420.hangs ls z m tilt)) H Q
theorem u_can_hang {H : Hp} {p : Addr} {ls : List Li} {z m : Int} {tilt : Nat} (h : Loads H p ls) (ok : LdOk ls) : SpV (sp_can_hang K) [.ref p, .int z, .int m, .int tilt] H (.bl (Km420.hangs ls z m tilt)) := fun H1 e Q q E => ⟨p, ls, z, m, tilt, rfl, h.ex e, ok, q⟩
theorem k_can_hang (T : Facts K mg) (h_borne : Kn P w K mg base "borne" 1 ["loads"] (sp_borne K)) (h_least_moment : Kn P w K mg base "least_moment" 2 ["loads", "left"] (sp_least_moment K)) (h_greatest_moment : Kn P w K mg base "greatest_moment" 3 ["loads", "left"] (sp_greatest_moment K)) :
    Kn P w K mg base "can_hang" 4 ["loads", "left", "moment", "tilt"] (sp_can_hang K) := by
  refine T.raw_can_hang.kn sc_can_hang (fun vs H Q E h => ?_) (fun cdv A outer s H vs Q E hr h => ?_)
  · obtain ⟨p, ls, z, m, tilt, rfl, _⟩ := h
    rfl
  · obtain ⟨p, ls, z, m, tilt, rfl, hp, ok, q⟩ := h
    refine ⟨_, (pss_cons (ps_if (pt_cmpR op_lt (pe_kn h_borne hr (pa_cons (pv 0) pa_nil)) (pv 1) (nomark _)) (pss_one (ps_ret pe_bl)) pss_nil)
      (pss_cons (ps_if (pt_cmpR op_gt (pe_kn h_least_moment hr (pa_cons (pv 0) (pa_cons (pv 1) pa_nil))) (pe_op op_add (pv 2) (pv 3)) (nomark _)) (pss_one (ps_ret pe_bl)) pss_nil)
      (pss_one (ps_ret (pe_cmpR op_ge (pe_kn h_greatest_moment hr (pa_cons (pv 0) (pa_cons (pv 1) pa_nil))) (pe_op op_sub (pv 2) (pv 3)) (nomark _)))))), ?_⟩
    have eh : Km420.hangs ls z m tilt = (decide (z.toNat ≤ Km420.bears ls) && (decide (Km420.least ls z.toNat ≤ m + tilt) && decide (m - tilt ≤ Km420.greatest ls z.toNat))) := rfl
    refine q_when (et_test (ev_op (ev_kall (by walk_at "ea") (u_borne hp ok)) (ev_var rfl) rv_I0)) (fun c H1 e => ?_) (fun c H1 e => ?_)
    · have c' := of_decide_eq_true c
      rw [eh, decide_eq_false (by omega), Bool.false_and] at q
      exact s_ret ev_c (RetV.on q e)
    · have c' := of_decide_eq_false c
      rw [eh, decide_eq_true (show z.toNat ≤ Km420.bears ls by omega), Bool.true_and] at q
      have hp1 := hp.ex e
      refine q_when (et_test (ev_op (ev_kall (by walk_at "ea") (u_least_moment hp1 ok)) (by walk_at "ev") rv_I0)) (fun c2 H2 e2 => ?_) (fun c2 H2 e2 => ?_)
      · have c3 := of_decide_eq_true c2
        rw [decide_eq_false (by omega), Bool.false_and] at q
        exact s_ret ev_c (RetV.on q (e.trans e2))
      · have c3 := of_decide_eq_false c2
        rw [decide_eq_true (show Km420.least ls z.toNat ≤ m + tilt by omega), Bool.true_and] at q
        exact s_ret (ev_op (ev_kall (by walk_at "ea") (u_greatest_moment (hp1.ex e2) ok)) (by walk_at "ev") rv_I0) (RetV.on q (e.trans e2))
end
end Wr
/-! ### part: C -/
set_option Elab.async false
set_option linter.all false
set_option maxRecDepth 100000
set_option maxHeartbeats 4000000
/-! # The walk, third part: pulls that are moved -/
namespace Wr
open PySem PySem.Spec PyProof.Rows L2 Evl
/-! the evaluation of what hangs on nothing but what is known -/
local macro_rules | `(tactic| walk_at "cm") => `(tactic| first | exact Or.inl ⟨by decide, by decide⟩ | exact ⟨by decide, by decide⟩ | exact Or.inr ⟨by decide, by decide⟩ | exact Or.inl ⟨by omega, by omega⟩ | exact Or.inr ⟨by omega, by omega⟩ | exact ⟨by omega, by omega⟩ | exact ⟨by omega, by omega, by omega⟩)
local macro_rules | `(tactic| walk_at "at") => `(tactic| first | rfl | assumption)
local macro_rules | `(tactic| walk_at "rv") => `(tactic| first | exact rv_I0 | exact rv_eqI | exact rv_neI | exact rv_ixT (st_of (by assumption)) (by walk_at "at") | exact rv_ixT (by assumption) (by walk_at "at") | exact rv_ixL (sq_of (by assumption)) (by walk_at "at") | exact rv_ixL (by assumption) (by walk_at "at") | (apply rv_I; walk_at "cm"))
local macro_rules | `(tactic| walk_at "ea") => `(tactic| first | exact ea_nil | (apply ea_cons; walk_at "ev"; walk_at "ea"))
local macro_rules | `(tactic| walk_at "rc") => `(tactic| first | exact rc_min2 | exact rc_max2 | exact rc_min3 | exact rc_int | exact rc_len (sq_of (by assumption)) | exact rc_len (by assumption))
local macro_rules | `(tactic| walk_at "ev") => `(tactic| first | exact ev_c | exact ev_var rfl | assumption | (apply ev_op; walk_at "ev"; walk_at "ev"; walk_at "rv") | (apply ev_un; walk_at "ev"; exact ru_neg) | (apply ev_cb; walk_at "ea"; walk_at "rc"))
section
variable {P : Program} {w : World} {K : PySem.W.Frag} {mg : Str → Option Value} {base : Heap}
/-! ## first_pulling, last_bearing -/
def sp_first_pulling (K : PySem.W.Frag) : Sp := fun vs H Q _ => ∃ (a : Addr) (t : List Nat), vs = [.ref a] ∧ H a = some (.lst (natV t)) ∧ t.length ≤ 1000 ∧ RetV (.int (firstP t : Nat)) H Q
theorem u_first_pulling {H : Hp} {a : Addr} {t : List Nat} (ha : H a = some (.lst (natV t))) (hl : t.length ≤ 1000) : SpV (sp_first_pulling K) [.ref a] H (.int (firstP t : Nat)) := fun H1 e Q q E => ⟨a, t, rfl, e _ _ ha, hl, q⟩
theorem k_first_pulling (T : Facts K mg) : Kn P w K mg base "first_pulling" 1 ["pulls"] (sp_first_pulling K) := by
  refine T.raw_first_pulling.kn sc_first_pulling (fun vs H Q E h => ?_) (fun cdv A outer s H vs Q E hr h => ?_)
  · obtain ⟨a, t, rfl, _⟩ := h
    rfl
  · obtain ⟨a, t, rfl, ha, hl, q⟩ := h
    refine ⟨_, (pss_cons (ps_for PassesOwn.never rfl (pi_range1 rfl T.n_range (pa_cons (pe_callB call_len_seq (by rfl) T.n_len bt_len (pa_cons (pv 0) pa_nil)) pa_nil)) (pg_name (i := 1) sc_first_pulling.nd rfl (Or.inl rfl))
        (pss_one (ps_if (pt_cmpR op_gt (pe_ix ix_list (pv 0) (pv 1) (fun _ _ => rfl)) pe_int (nomark _)) (pss_one (ps_ret (pv 1))) pss_nil)))
      (pss_one (ps_ret (pe_callB call_len_seq (by rfl) T.n_len bt_len (pa_cons (pv 0) pa_nil))))), ?_⟩
    have hn : (natV t).length = t.length := natV_len t
    refine q_forR1 (n := (((natV t).length : Nat) : Int)) (by walk_at "ea") ⟨by omega, by omega⟩ (fun i σ' H' => ∃ y, σ' = [some (.ref a), y] ∧ Ex H H' ∧ ∀ j, j < i → pulls t j = false)
      (fun H1 e1 => ⟨none, rfl, e1, fun j hj => absurd hj (Nat.not_lt_zero _)⟩) (fun i σ' H' hi p => ?_) (fun σ' H' p => ?_)
    · obtain ⟨y, rfl, e, hb⟩ := p
      have hi1 : i < t.length := by omega
      have a1 := natV_ix hi1
      have ha1 := e _ _ ha
      refine s_when (et_test (by walk_at "ev")) (fun c H1 e1 => ?_) (fun c H1 e1 => ?_)
      · have c1 := of_decide_eq_true c
        have hp : pulls t i = true := decide_eq_true (by omega)
        have ef : firstP t = i := by
          unfold firstP
          rw [find_range hi1 hp hb]
          rfl
        rw [ef] at q
        exact s_ret (ev_var rfl) (RetV.on q (e.trans e1))
      · have c1 := of_decide_eq_false c
        refine ⟨_, rfl, e.trans e1, fun j hj => ?_⟩
        by_cases hji : j = i
        · subst hji
          exact decide_eq_false (by omega)
        · exact hb j (by omega)
    · obtain ⟨y, rfl, e, hb⟩ := p
      have ha1 := e _ _ ha
      have ef : firstP t = t.length := by
        unfold firstP
        rw [find_range_none fun j hj => hb j (by omega)]
        rfl
      rw [ef, ← hn] at q
      exact s_ret (by walk_at "ev") (RetV.on q e)
def sp_last_bearing (K : PySem.W.Frag) : Sp := fun vs H Q _ => ∃ (p a : Addr) (ls : List Li) (t : List Nat), vs = [.ref p, .ref a] ∧ Loads H p ls ∧ LdOk ls ∧ H a = some (.lst (natV t)) ∧ t.length = ls.length ∧ RetV (.int (lastB ls t)) H Q
theorem u_last_bearing {H : Hp} {p a : Addr} {ls : List Li} {t : List Nat} (h : Loads H p ls) (ok : LdOk ls) (ha : H a = some (.lst (natV t))) (hl : t.length = ls.length) : SpV (sp_last_bearing K) [.ref p, .ref a] H (.int (lastB ls t)) := fun H1 e Q q E => ⟨p, a, ls, t, rfl, h.ex e, ok, e _ _ ha, hl, q⟩
theorem k_last_bearing (T : Facts K mg) : Kn P w K mg base "last_bearing" 1 ["loads", "pulls"] (sp_last_bearing K) := by
  refine T.raw_last_bearing.kn sc_last_bearing (fun vs H Q E h => ?_) (fun cdv A outer s H vs Q E hr h => ?_)
  · obtain ⟨p, a, ls, t, rfl, _⟩ := h
    rfl
  · obtain ⟨p, a, ls, t, rfl, ⟨ts, hp, ht⟩, ok, ha, hl, q⟩ := h
    refine ⟨_, (pss_cons (ps_for PassesOwn.never rfl (pi_range3 rfl T.n_range (pa_cons (pe_op op_sub (pe_callB call_len_seq (by rfl) T.n_len bt_len (pa_cons (pv 1) pa_nil)) pe_int) (pa_cons (pe_un un_neg pe_int) (pa_cons (pe_un un_neg pe_int) pa_nil)))) (pg_name (i := 2) sc_last_bearing.nd rfl (Or.inl rfl))
        (pss_one (ps_if (pt_cmpR op_lt (pe_ix ix_list (pv 1) (pv 2) (fun _ _ => rfl)) (pe_ix ix_tup (pe_ix ix_list (pv 0) (pv 2) (fun _ _ => rfl)) pe_int (fun _ _ => rfl)) (nomark _)) (pss_one (ps_ret (pv 2))) pss_nil)))
      (pss_one (ps_ret (pe_un un_neg pe_int)))), ?_⟩
    have hn : (natV t).length = t.length := natV_len t
    have hok := ok.len
    refine q_forDown (n := (natV t).length) (by walk_at "ea") (by omega) (fun i σ' H' => ∃ y, σ' = [some (.ref p), some (.ref a), y] ∧ Ex H H' ∧ ∀ j, t.length - i ≤ j → j < t.length → more ls t j = false)
      (fun H1 e1 => ⟨none, rfl, e1, fun j h1 h2 => by omega⟩) (fun i σ' H' hi p => ?_) (fun σ' H' p => ?_)
    · obtain ⟨y, rfl, e, hb⟩ := p
      rw [hn] at hi
      have hi1 : t.length - 1 - i < t.length := by omega
      have hi2 : t.length - 1 - i < ls.length := by omega
      rw [hn]
      obtain ⟨v, hv, t0, rfl, ht0⟩ := ht.to (List.getElem?_eq_getElem hi2)
      generalize hk : t.length - 1 - i = k at *
      have a1 := natV_ix hi1
      have a2 : atI ts (k : Int) = some (.ref t0) := atI_nat hv
      have ha1 := e _ _ ha
      have hp1 := e _ _ hp
      have ht1 := e _ _ ht0
      have em : more ls t k = decide (t.getD k 0 < ls[k].most) := by
        unfold more
        rw [List.getElem?_eq_getElem hi2]
      refine s_when (et_test (by walk_at "ev")) (fun c H1 e1 => ?_) (fun c H1 e1 => ?_)
      · have c1 := of_decide_eq_true c
        have hm : more ls t k = true := by
          rw [em]
          exact decide_eq_true (by omega)
        have ef : lastB ls t = (k : Int) := by
          unfold lastB
          rw [find_back hi2 hm fun j h1 h2 => hb j (by omega) (by omega)]
        rw [ef] at q
        exact s_ret (ev_var rfl) (RetV.on q (e.trans e1))
      · have c1 := of_decide_eq_false c
        refine ⟨_, rfl, e.trans e1, fun j h1 h2 => ?_⟩
        by_cases hjk : j = k
        · subst hjk
          rw [em]
          exact decide_eq_false (by omega)
        · exact hb j (by omega) h2
    · obtain ⟨y, rfl, e, hb⟩ := p
      have ef : lastB ls t = -1 := by
        unfold lastB
        rw [find_back_none fun j hj => hb j (by omega) (by omega)]
      rw [ef] at q
      exact s_ret (by walk_at "ev") (RetV.on q e)
/-! ## to_move -/
theorem lastB_lt (ls : List Li) (t : List Nat) : lastB ls t < (ls.length : Int) := by
  unfold lastB
  split
  · rename_i j h
    have := (find_back_is h).1
    omega
  · omega
def sp_to_move (K : PySem.W.Frag) : Sp := fun vs H Q _ => ∃ (p a : Addr) (ls : List Li) (t : List Nat) (i : Nat) (j d : Int), vs = [.ref p, .ref a, .int i, .int j, .int d] ∧ Loads H p ls ∧ LdOk ls ∧ Rises ls ∧ H a = some (.lst (natV t)) ∧ Borne ls t ∧ j < (ls.length : Int) ∧ RetV (.int (toMove ls t i j d : Nat)) H Q
theorem u_to_move {H : Hp} {p a : Addr} {ls : List Li} {t : List Nat} {i : Nat} {j d : Int} (h : Loads H p ls) (ok : LdOk ls) (R : Rises ls) (ha : H a = some (.lst (natV t))) (B : Borne ls t) (hj : j < (ls.length : Int)) : SpV (sp_to_move K) [.ref p, .ref a, .int i, .int j, .int d] H (.int (toMove ls t i j d : Nat)) := fun H1 e Q q E => ⟨p, a, ls, t, i, j, d, rfl, h.ex e, ok, R, e _ _ ha, B, hj, q⟩
theorem k_to_move (T : Facts K mg) : Kn P w K mg base "to_move" 1 ["loads", "pulls", "first", "last", "lack"] (sp_to_move K) := by
  refine T.raw_to_move.kn sc_to_move (fun vs H Q E h => ?_) (fun cdv A outer s H vs Q E hr h => ?_)
  · obtain ⟨p, a, ls, t, i, j, d, rfl, _⟩ := h
    rfl
  · obtain ⟨p, a, ls, t, i, j, d, rfl, ⟨ts, hp, ht⟩, ok, R, ha, B, hj, q⟩ := h
    refine ⟨_, (pss_cons (ps_if (PW.pt (pw_or (pt_cmpR op_le (pv 4) pe_int (nomark _)) (pw_or1 (pt_cmpR op_le (pv 3) (pv 2) (nomark _))))) (pss_one (ps_ret pe_int)) pss_nil)
      (pss_cons (ps_set (i := 5) sc_to_move.nd rfl (Or.inl rfl) (pe_op op_sub (pe_ix ix_tup (pe_ix ix_list (pv 0) (pv 3) (fun _ _ => rfl)) pe_int (fun _ _ => rfl)) (pe_ix ix_tup (pe_ix ix_list (pv 0) (pv 2) (fun _ _ => rfl)) pe_int (fun _ _ => rfl))))
      (pss_one (ps_ret (pe_callB (call_min3 rfl) (by rfl) T.n_min bt_min (pa_cons (pe_ix ix_list (pv 1) (pv 2) (fun _ _ => rfl)) (pa_cons (pe_op op_sub (pe_ix ix_tup (pe_ix ix_list (pv 0) (pv 3) (fun _ _ => rfl)) pe_int (fun _ _ => rfl)) (pe_ix ix_list (pv 1) (pv 3) (fun _ _ => rfl))) (pa_cons (pe_op op_fdiv (pv 4) (pv 5)) pa_nil)))))))), ?_⟩
    refine q_when (et_or (a := decide (d ≤ 0)) (b := decide (j ≤ (i : Int))) (et_test (by walk_at "ev")) fun _ => et_test (by walk_at "ev")) (fun c H1 e => ?_) (fun c H1 e => ?_)
    · have c1 : d ≤ 0 ∨ j ≤ (i : Int) := by
        rw [Bool.or_eq_true, decide_eq_true_iff, decide_eq_true_iff] at c
        exact c
      have z : toMove ls t i j d = 0 := by
        unfold toMove
        rw [if_pos c1]
      rw [z] at q
      exact s_ret (v := .int ((0 : Nat) : Int)) ev_c (RetV.on q e)
    · rw [Bool.or_eq_false_iff, decide_eq_false_iff_not, decide_eq_false_iff_not] at c
      obtain ⟨c1, c2⟩ := c
      obtain ⟨j, rfl⟩ : ∃ n : Nat, j = (n : Int) := ⟨j.toNat, by omega⟩
      have hj1 : j < ls.length := by omega
      have hi1 : i < ls.length := by omega
      have hlen := B.len
      have hx := List.getElem?_eq_getElem hi1
      have hy := List.getElem?_eq_getElem hj1
      obtain ⟨v, hv, t1, rfl, ht1⟩ := ht.to hx
      obtain ⟨u, hu, t2, rfl, ht2⟩ := ht.to hy
      have a1 : atI ts (i : Int) = some (.ref t1) := atI_nat hv
      have a2 : atI ts (j : Int) = some (.ref t2) := atI_nat hu
      have a3 := natV_ix (t := t) (i := i) (by omega)
      have a4 := natV_ix (t := t) (i := j) (by omega)
      have way := R i j _ _ (by omega) hx hy
      have b1 := ok.at_ _ (List.getElem_mem hi1)
      have b2 := ok.at_ _ (List.getElem_mem hj1)
      have b3 := B.le j _ hy
      have hp0 := e _ _ hp
      have ha0 := e _ _ ha
      have h1 := e _ _ ht1
      have h2 := e _ _ ht2
      refine q_asg (v := .int (ls[j].at_ - ls[i].at_)) (by walk_at "ev") fun H2 e2 => ?_
      have hp0 := e2 _ _ hp0
      have ha0 := e2 _ _ ha0
      have h1 := e2 _ _ h1
      have h2 := e2 _ _ h2
      refine s_ret (ev_is (by walk_at "ev") ?_) (RetV.on q (e.trans e2))
      refine congrArg V.int ?_
      unfold toMove
      rw [if_neg (by omega), Int.toNat_natCast, hx, hy]
      have hd : 0 ≤ d / (ls[j].at_ - ls[i].at_) := Int.ediv_nonneg (by omega) (by omega)
      show min (min ((t.getD i 0 : Nat) : Int) ((ls[j].most : Int) - (t.getD j 0 : Nat))) (d / (ls[j].at_ - ls[i].at_)) = ((min (min (t.getD i 0) (ls[j].most - t.getD j 0)) (d / (ls[j].at_ - ls[i].at_)).toNat : Nat) : Int)
      omega
/-! ## level_pulls -/
def pullsOf (ls : List Li) (z m : Int) : List Nat := Km420.shift ls m (2 * Km420.LINES) (Km420.fills ls z.toNat)
def sp_level_pulls (K : PySem.W.Frag) : Sp := fun vs H Q _ => ∃ (p : Addr) (ls : List Li) (z m : Int), vs = [.ref p, .int z, .int m] ∧ Loads H p ls ∧ LdOk ls ∧ Rises ls ∧ ls.length ≤ 4 ∧ RetP (NewL H (natV (pullsOf ls z m))) H Q
theorem u_level_pulls {H : Hp} {p : Addr} {ls : List Li} {z m : Int} (h : Loads H p ls) (ok : LdOk ls) (R : Rises ls) (hl : ls.length ≤ 4) : SpP (sp_level_pulls K) [.ref p, .int z, .int m] H (NewL H (natV (pullsOf ls z m))) := fun H1 e Q q E => ⟨p, ls, z, m, rfl, h.ex e, ok, R, hl, fun v H2 e2 ⟨a, h1, h2, h3⟩ => q v H2 e2 ⟨a, h1, fresh_back e h2, h3⟩⟩
theorem k_level_pulls (T : Facts K mg) (h_poured : Kn P w K mg base "poured" 1 ["loads", "need"] (sp_poured K)) (h_first_pulling : Kn P w K mg base "first_pulling" 1 ["pulls"] (sp_first_pulling K)) (h_last_bearing : Kn P w K mg base "last_bearing" 1 ["loads", "pulls"] (sp_last_bearing K))
    (h_to_move : Kn P w K mg base "to_move" 1 ["loads", "pulls", "first", "last", "lack"] (sp_to_move K)) (h_moment_of : Kn P w K mg base "moment_of" 1 ["loads", "pulls"] (sp_moment_of K)) : Kn P w K mg base "level_pulls" 2 ["loads", "left", "moment"] (sp_level_pulls K) := by
  refine T.raw_level_pulls.kn sc_level_pulls (fun vs H Q E h => ?_) (fun cdv A outer s H vs Q E hr h => ?_)
  · obtain ⟨p, ls, z, m, rfl, _⟩ := h
    rfl
  · obtain ⟨p, ls, z, m, rfl, hp, ok, R, hl4, q⟩ := h
    refine ⟨_, (pss_cons (ps_set (i := 3) sc_level_pulls.nd rfl (Or.inl rfl) (pe_kn h_poured hr (pa_cons (pv 0) (pa_cons (pe_callB (call_max2 rfl) (by rfl) T.n_max bt_max (pa_cons pe_int (pa_cons (pv 1) pa_nil))) pa_nil))))
      (pss_cons (ps_for PassesOwn.never rfl (pi_range1 rfl T.n_range (pa_cons (pe_op op_add (pe_op op_mul pe_int (pe_callB call_len_seq (by rfl) T.n_len bt_len (pa_cons (pv 0) pa_nil))) pe_int) pa_nil)) (pg_name (i := 4) sc_level_pulls.nd rfl (Or.inl rfl))
        (pss_cons (ps_set (i := 5) sc_level_pulls.nd rfl (Or.inl rfl) (pe_kn h_first_pulling hr (pa_cons (pv 3) pa_nil)))
        (pss_cons (ps_set (i := 6) sc_level_pulls.nd rfl (Or.inl rfl) (pe_kn h_last_bearing hr (pa_cons (pv 0) (pa_cons (pv 3) pa_nil))))
        (pss_cons (ps_set (i := 7) sc_level_pulls.nd rfl (Or.inl rfl) (pe_kn h_to_move hr (pa_cons (pv 0) (pa_cons (pv 3) (pa_cons (pv 5) (pa_cons (pv 6) (pa_cons (pe_op op_sub (pv 2) (pe_kn h_moment_of hr (pa_cons (pv 0) (pa_cons (pv 3) pa_nil)))) pa_nil)))))))
        (pss_cons (ps_if (pt_cmpR op_eq (pv 7) pe_int (nomark _)) (pss_one (ps_ret (pv 3))) pss_nil)
        (pss_cons (ps_asg (pe_op op_sub (pe_ix ix_list (pv 3) (pv 5) (fun _ _ => rfl)) (pv 7)) (pg_sub (pv 3) (pv 5) set_list))
        (pss_one (ps_asg (pe_op op_add (pe_ix ix_list (pv 3) (pv 6) (fun _ _ => rfl)) (pv 7)) (pg_sub (pv 3) (pv 6) set_list)))))))))
      (pss_one (ps_ret (pv 3))))), ?_⟩
    have B0 := fills_borne ls z.toNat
    have eres := shift_is (want := m) R B0 hl4
    obtain ⟨res, hres⟩ : ∃ res, res = Km420.shift ls m (2 * ls.length + 2) (Km420.fills ls z.toNat) := ⟨_, rfl⟩
    have hq : pullsOf ls z m = res := by rw [hres, eres]; rfl
    rw [hq] at q
    refine q_asgP (φ := NewL H (natV (Km420.fills ls z.toNat))) (ep_call (vs := [.ref p, .int (z.toNat : Nat)]) (ea_cons (ev_var rfl) (ea_cons (ev_is (by walk_at "ev") (congrArg V.int (max_nat z))) ea_nil)) (u_poured hp ok)) fun v H0 e0 ⟨d, hv, nd, hd⟩ => ?_
    subst hv
    have hp0 := hp.ex e0
    obtain ⟨ts, hpl, htl⟩ := hp0
    have hts := htl.size
    have hpd : p ≠ d := by
      obtain ⟨ts0, h0, _⟩ := hp
      exact ne_of_none h0 nd
    refine q_forR1 (n := 2 * ((ts.length : Nat) : Int) + 2) (by walk_at "ea") ⟨by omega, by omega⟩ (fun i σ' H' => ∃ t y4 y5 y6 y7, σ' = [some (.ref p), some (.int z), some (.int m), some (.ref d), y4, y5, y6, y7] ∧ Ex H H' ∧ H' d = some (.lst (natV t)) ∧ Borne ls t ∧ res = Km420.shift ls m (2 * ls.length + 2 - i) t)
      (fun H1 e1 => ⟨_, none, none, none, none, rfl, e0.trans e1, e1 _ _ hd, B0, hres⟩) (fun i σ' H' hi pw => ?_) (fun σ' H' pw => ?_)
    · obtain ⟨t, y4, y5, y6, y7, rfl, e, hd1, B, hr1⟩ := pw
      rw [show 2 * ls.length + 2 - i = (2 * ls.length + 2 - (i + 1)) + 1 by omega, shift_succ ls m _ B.len] at hr1
      have hlen := B.len
      refine q_asg (ev_kall (by walk_at "ea") (u_first_pulling hd1 (by omega))) fun H1 e1 => ?_
      have hd2 := e1 _ _ hd1
      have hp2 := hp.ex (e.trans e1)
      refine q_asg (ev_kall (by walk_at "ea") (u_last_bearing hp2 ok hd2 B.len)) fun H2 e2 => ?_
      have hd3 := e2 _ _ hd2
      have hp3 := hp2.ex e2
      refine q_asg (v := .int (gramsOf ls m t : Nat)) (ev_kall (vs := [.ref p, .ref d, .int (firstP t : Nat), .int (lastB ls t), .int (m - Km420.momentOf ls t)]) (ea_cons (ev_var rfl) (ea_cons (ev_var rfl) (ea_cons (ev_var rfl) (ea_cons (ev_var rfl) (ea_cons (ev_op (ev_var rfl) (ev_kall (by walk_at "ea") (u_moment_of hp3 ok hd3 B.len)) rv_I0) ea_nil)))))
        (u_to_move hp3 ok R hd3 B (lastB_lt ls t))) fun H3 e3 => ?_
      have hd4 := e3 _ _ hd3
      have e13 := (e1.trans e2).trans e3
      refine q_when (et_test (by walk_at "ev")) (fun c H4 e4 => ?_) (fun c H4 e4 => ?_)
      · have c1 : gramsOf ls m t = 0 := by have := of_decide_eq_true c; omega
        rw [if_pos c1] at hr1
        subst hr1
        exact s_ret (ev_var rfl) fun H5 e5 => q _ H5 (((e.trans e13).trans e4).trans e5) ⟨d, rfl, nd, e5 _ _ (e4 _ _ hd4)⟩
      · have c1 : ¬ gramsOf ls m t = 0 := by have := of_decide_eq_false c; omega
        rw [if_neg c1] at hr1
        obtain ⟨a, b, x, y, M⟩ := moves_of B.len c1
        have hab := M.ij
        have hbl := M.hj
        have hd5 := e4 _ _ hd4
        rw [M.fi, M.la, Int.toNat_natCast] at hr1
        rw [M.fi, M.la]
        have hg : gramsOf ls m t ≤ t.getD a 0 := by have := M.g; omega
        have a1 := natV_ix (t := t) (i := a) (by omega)
        refine q_setL (j := a) hd5 (v := .int ((t.getD a 0 - gramsOf ls m t : Nat) : Int)) (ev_is (by walk_at "ev") (congrArg V.int (by omega))) (ev_var rfl) (ev_var rfl) (by rw [natV_len]; omega) fun H5 e5 => ?_
        rw [natV_set]
        generalize hG : gramsOf ls m t = g at *
        have hd6 : upd H5 d (.lst (natV (t.set a (t.getD a 0 - g)))) d = some (.lst (natV (t.set a (t.getD a 0 - g)))) := upd_same
        have hx6 : Ex H (upd H5 d (.lst (natV (t.set a (t.getD a 0 - g))))) := Ex.mut (((e.trans e13).trans e4).trans e5) nd
        have a2 := natV_ix (t := t.set a (t.getD a 0 - g)) (i := b) (by rw [List.length_set]; omega)
        rw [getD_set (by omega), if_neg (by omega)] at a2
        refine s_setL (j := b) hd6 (v := .int ((t.getD b 0 + g : Nat) : Int)) (ev_is (by walk_at "ev") (congrArg V.int (by omega))) (ev_var rfl) (ev_var rfl) (by rw [natV_len, List.length_set]; omega) fun H7 e7 => ?_
        rw [natV_set]
        refine ⟨moved t a b g, _, _, _, _, rfl, Ex.mut (hx6.trans e7) nd, upd_same, ?_, hr1⟩
        have := M.borne B
        rw [hG] at this
        exact this
    · obtain ⟨t, y4, y5, y6, y7, rfl, e, hd1, B, hr1⟩ := pw
      rw [show 2 * ls.length + 2 - (2 * ((ts.length : Nat) : Int) + 2).toNat = 0 by omega, shift_zero] at hr1
      subst hr1
      exact s_ret (ev_var rfl) fun H5 e5 => q _ H5 (e.trans e5) ⟨d, rfl, nd, e5 _ _ hd1⟩
end
end Wr
/-! ### part: Obj -/
set_option Elab.async false
set_option linter.all false
set_option maxRecDepth 100000
set_option maxHeartbeats 4000000
/-! # A stand in the heap -/
namespace Wr
open PySem PySem.Spec PyProof.Rows L2 Evl
theorem lk_here {k : Str} {v : V} {r : List (Str × V)} : List.lookup k ((k, v) :: r) = some v := by
  have e : (k == k) = true := beq_self_eq_true k
  simp only [List.lookup, e]
theorem lk_past {k g : Str} {v : V} {r : List (Str × V)} (h : (k == g) = false) : List.lookup k ((g, v) :: r) = List.lookup k r := by
  simp only [List.lookup, h]
theorem put_here {f : Str} {v x : V} {r : List (Str × V)} : putF f v ((f, x) :: r) = (f, v) :: r := if_pos rfl
theorem put_past {f g : Str} {v x : V} {r : List (Str × V)} (h : ¬ g = f) : putF f v ((g, x) :: r) = (g, x) :: putF f v r := if_neg h
def sdF (s : Sd) (lr ll : Addr) : List (Str × V) := [("kg", .int s.kg), ("place", .int s.at_), ("tilt", .int s.tilt), ("depth", .int s.depth), ("rooms", .ref lr), ("lines", .ref ll), ("minute", .int s.minute), ("height", .int s.height), ("drops", .int s.drops), ("leaked", .int s.leaked), ("pumped", .int s.pumped)]
abbrev CS (K : PySem.W.Frag) : Addr := He.ga K "Stand"
/-- the stand at a: its dict, the lists of its rooms, its lines -/
structure SdIs (K : PySem.W.Frag) (H : Hp) (a dx lr ll : Addr) (s : Sd) : Prop where
  ins : H a = some (.ins (CS K) dx (sdF s lr ll))
  rooms : Rows H lr (s.rooms.map rmV)
  lines : Rows H ll (s.lines.map lnV)
  ne : lr ≠ ll
def SdAt (K : PySem.W.Frag) (H : Hp) (a : Addr) (s : Sd) : Prop := ∃ dx lr ll, SdIs K H a dx lr ll s
/-- all but what stands at a is as it was -/
def But (a : Addr) (H H' : Hp) : Prop := ∀ b o, H b = some o → b ≠ a → H' b = some o
section
variable {K : PySem.W.Frag} {mg : Str → Option Value} {H H' H1 H2 : Hp} {a dx lr ll l : Addr} {s : Sd} {σ : L2.St} {te ta tv : TE} {D : Ends} {tz : TS} {y : V} {φ : V → Hp → Prop}
theorem SdIs.ex (h : SdIs K H a dx lr ll s) (e : Ex H H') : SdIs K H' a dx lr ll s := ⟨e _ _ h.ins, h.rooms.ex e, h.lines.ex e, h.ne⟩
theorem SdAt.ex (h : SdAt K H a s) (e : Ex H H') : SdAt K H' a s := by
  obtain ⟨dx, lr, ll, h⟩ := h
  exact ⟨dx, lr, ll, h.ex e⟩
theorem Ex.but (e : Ex H H') : But a H H' := fun b o h _ => e b o h
theorem But.trans (e : But a H H1) (f : But a H1 H2) : But a H H2 := fun b o h n => f b o (e b o h n) n
theorem But.on (e : But a H H1) (f : Ex H1 H2) : But a H H2 := fun b o h n => f b o (e b o h n)
theorem But.put (e : But a H H1) {o : HO} : But a H (upd H1 a o) := fun b u h n => by
  rw [upd_ne n]
  exact e b u h n
/-- what was not there is changed: nothing is -/
theorem But.new (e : But a H1 H2) (f : Ex H H1) (n : H a = none) : Ex H H2 := fun b o h => e b o (f b o h) (ne_of_none h n)
theorem SdIs.ner (h : SdIs K H a dx lr ll s) : lr ≠ a := by
  obtain ⟨vs, h1, _⟩ := h.rooms
  exact ne_of h1 h.ins fun z => nomatch z
theorem SdIs.nel (h : SdIs K H a dx lr ll s) : ll ≠ a := by
  obtain ⟨vs, h1, _⟩ := h.lines
  exact ne_of h1 h.ins fun z => nomatch z
theorem ins_tups {C : Addr} {fs : List (Str × V)} {o : HO} (h : H a = some (.ins C dx fs)) : ∀ b ys, H b = some (.tup ys) → upd H a o b = some (.tup ys) := fun b ys e => by
  rw [upd_ne (ne_of e h fun z => nomatch z)]
  exact e
/-- other fields, the same lists -/
theorem SdIs.put (h : SdIs K H a dx lr ll s) (t : Sd) (hr : t.rooms = s.rooms) (hl : t.lines = s.lines) : SdIs K (upd H a (.ins (CS K) dx (sdF t lr ll))) a dx lr ll t := ⟨upd_same, by
  rw [hr]
  exact h.rooms.keep (ins_tups h.ins) (upd_ne h.ner), by
  rw [hl]
  exact h.lines.keep (ins_tups h.ins) (upd_ne h.nel), h.ne⟩
/-- another list of rooms, of lines -/
theorem SdIs.putR (h : SdIs K H a dx lr ll s) {rs : List Rm} (hr : Rows H l (rs.map rmV)) (n : l ≠ ll) : SdIs K (upd H a (.ins (CS K) dx (sdF { s with rooms := rs } l ll))) a dx l ll { s with rooms := rs } := ⟨upd_same, hr.keep (ins_tups h.ins) (upd_ne (by
  obtain ⟨vs, h1, _⟩ := hr
  exact ne_of h1 h.ins fun z => nomatch z)), h.lines.keep (ins_tups h.ins) (upd_ne h.nel), n⟩
theorem SdIs.putL (h : SdIs K H a dx lr ll s) {xs : List Ln} (hl : Rows H l (xs.map lnV)) (n : lr ≠ l) : SdIs K (upd H a (.ins (CS K) dx (sdF { s with lines := xs } lr l))) a dx lr l { s with lines := xs } := ⟨upd_same, h.rooms.keep (ins_tups h.ins) (upd_ne h.ner), hl.keep (ins_tups h.ins) (upd_ne (by
  obtain ⟨vs, h1, _⟩ := hl
  exact ne_of h1 h.ins fun z => nomatch z)), n⟩
/-- a room, a line at its place in the list -/
theorem SdIs.setR (h : SdIs K H a dx lr ll s) {k : Nat} {v : V} {r : Rm} {vs : List V} (hv : H lr = some (.lst vs)) (ht : Tups H vs (s.rooms.map rmV)) (hr : TupAt (rmV r) v H) : SdIs K (upd H lr (.lst (vs.set k v))) a dx lr ll { s with rooms := s.rooms.set k r } := by
  refine ⟨?_, ⟨vs.set k v, upd_same, ?_⟩, h.lines.keep (tups_upd hv) (upd_ne h.ne.symm), h.ne⟩
  · rw [upd_ne h.ner.symm]
    exact h.ins
  · show Tups _ _ ((s.rooms.set k r).map rmV)
    rw [List.map_set]
    exact (ht.set hr).keep (tups_upd hv)
theorem SdIs.setL (h : SdIs K H a dx lr ll s) {k : Nat} {v : V} {x : Ln} {vs : List V} (hv : H ll = some (.lst vs)) (ht : Tups H vs (s.lines.map lnV)) (hx : TupAt (lnV x) v H) : SdIs K (upd H ll (.lst (vs.set k v))) a dx lr ll { s with lines := s.lines.set k x } := by
  refine ⟨?_, h.rooms.keep (tups_upd hv) (upd_ne h.ne), ⟨vs.set k v, upd_same, ?_⟩, h.ne⟩
  · rw [upd_ne h.nel.symm]
    exact h.ins
  · show Tups _ _ ((s.lines.set k x).map lnV)
    rw [List.map_set]
    exact (ht.set hx).keep (tups_upd hv)
/-! ### a field is stored -/
theorem s_fld {C : Addr} {fs : List (Str × V)} {f : Str} (hv : Ev tv σ H y) (ha : Ev ta σ H (.ref a)) (ho : H a = some (.ins C dx fs)) (hc : Cls K C) (hn : NoAttr K C f) (hl : fs.length < 1000) (k : ∀ H1, Ex H H1 → D.nx σ (upd H1 a (.ins C dx (putF f y fs)))) : sFld K ta tv f D σ H :=
  hv H (Ex.refl H) _ fun H1 e1 => ha H1 e1 _ fun H2 e2 => ⟨a, C, dx, fs, rfl, (e1.trans e2) _ _ ho, hc, hn, hl, k H2 (e1.trans e2)⟩
theorem q_fld {C : Addr} {fs : List (Str × V)} {f : Str} (hv : Ev tv σ H y) (ha : Ev ta σ H (.ref a)) (ho : H a = some (.ins C dx fs)) (hc : Cls K C) (hn : NoAttr K C f) (hl : fs.length < 1000) (k : ∀ H1, Ex H H1 → tz D σ (upd H1 a (.ins C dx (putF f y fs)))) : tSeq (sFld K ta tv f) tz D σ H := s_fld (D := { D with nx := tz D }) hv ha ho hc hn hl k
theorem s_fldP {C : Addr} {fs : List (Str × V)} {f : Str} (hv : EvP tv σ H φ) (ha : Ev ta σ H (.ref a)) (ho : H a = some (.ins C dx fs)) (hc : Cls K C) (hn : NoAttr K C f) (hl : fs.length < 1000) (m : ∀ v H1 H2, Ex H1 H2 → φ v H1 → φ v H2) (k : ∀ v H1, Ex H H1 → φ v H1 → D.nx σ (upd H1 a (.ins C dx (putF f v fs)))) : sFld K ta tv f D σ H :=
  hv H (Ex.refl H) _ fun v H1 e1 p => ha H1 e1 _ fun H2 e2 => ⟨a, C, dx, fs, rfl, (e1.trans e2) _ _ ho, hc, hn, hl, k v H2 (e1.trans e2) (m _ _ _ e2 p)⟩
theorem q_fldP {C : Addr} {fs : List (Str × V)} {f : Str} (hv : EvP tv σ H φ) (ha : Ev ta σ H (.ref a)) (ho : H a = some (.ins C dx fs)) (hc : Cls K C) (hn : NoAttr K C f) (hl : fs.length < 1000) (m : ∀ v H1 H2, Ex H1 H2 → φ v H1 → φ v H2) (k : ∀ v H1, Ex H H1 → φ v H1 → tz D σ (upd H1 a (.ins C dx (putF f v fs)))) : tSeq (sFld K ta tv f) tz D σ H := s_fldP (D := { D with nx := tz D }) hv ha ho hc hn hl m k
theorem newL_ex {H0 : Hp} {xs : List V} : ∀ v H1 H2, Ex H1 H2 → NewL H0 xs v H1 → NewL H0 xs v H2 := fun v H1 H2 e ⟨p, h1, h2, h3⟩ => ⟨p, h1, h2, e _ _ h3⟩

theorem sdF_kg : (sdF s lr ll).lookup ("kg" : Str) = some (.int s.kg) := lk_here
theorem ev_kg (T : Facts K mg) (h : SdIs K H a dx lr ll s) (ha : Ev te σ H (.ref a)) : Ev (tFld K te "kg") σ H (.int s.kg) := ev_fld ha h.ins T.cl_Stand T.na_Stand_kg sdF_kg
theorem sdF_place : (sdF s lr ll).lookup ("place" : Str) = some (.int s.at_) := (lk_past (by decide +kernel)).trans (lk_here)
theorem ev_place (T : Facts K mg) (h : SdIs K H a dx lr ll s) (ha : Ev te σ H (.ref a)) : Ev (tFld K te "place") σ H (.int s.at_) := ev_fld ha h.ins T.cl_Stand T.na_Stand_place sdF_place
theorem sdF_tilt : (sdF s lr ll).lookup ("tilt" : Str) = some (.int s.tilt) := (lk_past (by decide +kernel)).trans ((lk_past (by decide +kernel)).trans (lk_here))
theorem ev_tilt (T : Facts K mg) (h : SdIs K H a dx lr ll s) (ha : Ev te σ H (.ref a)) : Ev (tFld K te "tilt") σ H (.int s.tilt) := ev_fld ha h.ins T.cl_Stand T.na_Stand_tilt sdF_tilt
theorem sdF_depth : (sdF s lr ll).lookup ("depth" : Str) = some (.int s.depth) := (lk_past (by decide +kernel)).trans ((lk_past (by decide +kernel)).trans ((lk_past (by decide +kernel)).trans (lk_here)))
theorem ev_depth (T : Facts K mg) (h : SdIs K H a dx lr ll s) (ha : Ev te σ H (.ref a)) : Ev (tFld K te "depth") σ H (.int s.depth) := ev_fld ha h.ins T.cl_Stand T.na_Stand_depth sdF_depth
theorem sdF_rooms : (sdF s lr ll).lookup ("rooms" : Str) = some (.ref lr) := (lk_past (by decide +kernel)).trans ((lk_past (by decide +kernel)).trans ((lk_past (by decide +kernel)).trans ((lk_past (by decide +kernel)).trans (lk_here))))
theorem ev_rooms (T : Facts K mg) (h : SdIs K H a dx lr ll s) (ha : Ev te σ H (.ref a)) : Ev (tFld K te "rooms") σ H (.ref lr) := ev_fld ha h.ins T.cl_Stand T.na_Stand_rooms sdF_rooms
theorem sdF_lines : (sdF s lr ll).lookup ("lines" : Str) = some (.ref ll) := (lk_past (by decide +kernel)).trans ((lk_past (by decide +kernel)).trans ((lk_past (by decide +kernel)).trans ((lk_past (by decide +kernel)).trans ((lk_past (by decide +kernel)).trans (lk_here)))))
theorem ev_lines (T : Facts K mg) (h : SdIs K H a dx lr ll s) (ha : Ev te σ H (.ref a)) : Ev (tFld K te "lines") σ H (.ref ll) := ev_fld ha h.ins T.cl_Stand T.na_Stand_lines sdF_lines
theorem sdF_minute : (sdF s lr ll).lookup ("minute" : Str) = some (.int s.minute) := (lk_past (by decide +kernel)).trans ((lk_past (by decide +kernel)).trans ((lk_past (by decide +kernel)).trans ((lk_past (by decide +kernel)).trans ((lk_past (by decide +kernel)).trans ((lk_past (by decide +kernel)).trans (lk_here))))))
theorem ev_minute (T : Facts K mg) (h : SdIs K H a dx lr ll s) (ha : Ev te σ H (.ref a)) : Ev (tFld K te "minute") σ H (.int s.minute) := ev_fld ha h.ins T.cl_Stand T.na_Stand_minute sdF_minute
theorem sdF_height : (sdF s lr ll).lookup ("height" : Str) = some (.int s.height) := (lk_past (by decide +kernel)).trans ((lk_past (by decide +kernel)).trans ((lk_past (by decide +kernel)).trans ((lk_past (by decide +kernel)).trans ((lk_past (by decide +kernel)).trans ((lk_past (by decide +kernel)).trans ((lk_past (by decide +kernel)).trans (lk_here)))))))
theorem ev_height (T : Facts K mg) (h : SdIs K H a dx lr ll s) (ha : Ev te σ H (.ref a)) : Ev (tFld K te "height") σ H (.int s.height) := ev_fld ha h.ins T.cl_Stand T.na_Stand_height sdF_height
theorem sdF_drops : (sdF s lr ll).lookup ("drops" : Str) = some (.int s.drops) := (lk_past (by decide +kernel)).trans ((lk_past (by decide +kernel)).trans ((lk_past (by decide +kernel)).trans ((lk_past (by decide +kernel)).trans ((lk_past (by decide +kernel)).trans ((lk_past (by decide +kernel)).trans ((lk_past (by decide +kernel)).trans ((lk_past (by decide +kernel)).trans (lk_here))))))))
theorem ev_drops (T : Facts K mg) (h : SdIs K H a dx lr ll s) (ha : Ev te σ H (.ref a)) : Ev (tFld K te "drops") σ H (.int s.drops) := ev_fld ha h.ins T.cl_Stand T.na_Stand_drops sdF_drops
theorem sdF_leaked : (sdF s lr ll).lookup ("leaked" : Str) = some (.int s.leaked) := (lk_past (by decide +kernel)).trans ((lk_past (by decide +kernel)).trans ((lk_past (by decide +kernel)).trans ((lk_past (by decide +kernel)).trans ((lk_past (by decide +kernel)).trans ((lk_past (by decide +kernel)).trans ((lk_past (by decide +kernel)).trans ((lk_past (by decide +kernel)).trans ((lk_past (by decide +kernel)).trans (lk_here)))))))))
theorem ev_leaked (T : Facts K mg) (h : SdIs K H a dx lr ll s) (ha : Ev te σ H (.ref a)) : Ev (tFld K te "leaked") σ H (.int s.leaked) := ev_fld ha h.ins T.cl_Stand T.na_Stand_leaked sdF_leaked
theorem sdF_pumped : (sdF s lr ll).lookup ("pumped" : Str) = some (.int s.pumped) := (lk_past (by decide +kernel)).trans ((lk_past (by decide +kernel)).trans ((lk_past (by decide +kernel)).trans ((lk_past (by decide +kernel)).trans ((lk_past (by decide +kernel)).trans ((lk_past (by decide +kernel)).trans ((lk_past (by decide +kernel)).trans ((lk_past (by decide +kernel)).trans ((lk_past (by decide +kernel)).trans ((lk_past (by decide +kernel)).trans (lk_here))))))))))
theorem ev_pumped (T : Facts K mg) (h : SdIs K H a dx lr ll s) (ha : Ev te σ H (.ref a)) : Ev (tFld K te "pumped") σ H (.int s.pumped) := ev_fld ha h.ins T.cl_Stand T.na_Stand_pumped sdF_pumped
theorem putF_rooms {rs : List Rm} : putF "rooms" (.ref l) (sdF s lr ll) = sdF { s with rooms := rs } l ll := (put_past (by decide +kernel)).trans (congrArg _ ((put_past (by decide +kernel)).trans (congrArg _ ((put_past (by decide +kernel)).trans (congrArg _ ((put_past (by decide +kernel)).trans (congrArg _ (put_here))))))))
theorem putF_lines {xs : List Ln} : putF "lines" (.ref l) (sdF s lr ll) = sdF { s with lines := xs } lr l := (put_past (by decide +kernel)).trans (congrArg _ ((put_past (by decide +kernel)).trans (congrArg _ ((put_past (by decide +kernel)).trans (congrArg _ ((put_past (by decide +kernel)).trans (congrArg _ ((put_past (by decide +kernel)).trans (congrArg _ (put_here))))))))))
theorem putF_minute {n : Nat} : putF "minute" (.int n) (sdF s lr ll) = sdF { s with minute := n } lr ll := (put_past (by decide +kernel)).trans (congrArg _ ((put_past (by decide +kernel)).trans (congrArg _ ((put_past (by decide +kernel)).trans (congrArg _ ((put_past (by decide +kernel)).trans (congrArg _ ((put_past (by decide +kernel)).trans (congrArg _ ((put_past (by decide +kernel)).trans (congrArg _ (put_here))))))))))))
theorem putF_height {n : Nat} : putF "height" (.int n) (sdF s lr ll) = sdF { s with height := n } lr ll := (put_past (by decide +kernel)).trans (congrArg _ ((put_past (by decide +kernel)).trans (congrArg _ ((put_past (by decide +kernel)).trans (congrArg _ ((put_past (by decide +kernel)).trans (congrArg _ ((put_past (by decide +kernel)).trans (congrArg _ ((put_past (by decide +kernel)).trans (congrArg _ ((put_past (by decide +kernel)).trans (congrArg _ (put_here))))))))))))))
theorem putF_drops {n : Nat} : putF "drops" (.int n) (sdF s lr ll) = sdF { s with drops := n } lr ll := (put_past (by decide +kernel)).trans (congrArg _ ((put_past (by decide +kernel)).trans (congrArg _ ((put_past (by decide +kernel)).trans (congrArg _ ((put_past (by decide +kernel)).trans (congrArg _ ((put_past (by decide +kernel)).trans (congrArg _ ((put_past (by decide +kernel)).trans (congrArg _ ((put_past (by decide +kernel)).trans (congrArg _ ((put_past (by decide +kernel)).trans (congrArg _ (put_here))))))))))))))))
theorem putF_leaked {n : Nat} : putF "leaked" (.int n) (sdF s lr ll) = sdF { s with leaked := n } lr ll := (put_past (by decide +kernel)).trans (congrArg _ ((put_past (by decide +kernel)).trans (congrArg _ ((put_past (by decide +kernel)).trans (congrArg _ ((put_past (by decide +kernel)).trans (congrArg _ ((put_past (by decide +kernel)).trans (congrArg _ ((put_past (by decide +kernel)).trans (congrArg _ ((put_past (by decide +kernel)).trans (congrArg _ ((put_past (by decide +kernel)).trans (congrArg _ ((put_past (by decide +kernel)).trans (congrArg _ (put_here))))))))))))))))))
theorem putF_pumped {n : Nat} : putF "pumped" (.int n) (sdF s lr ll) = sdF { s with pumped := n } lr ll := (put_past (by decide +kernel)).trans (congrArg _ ((put_past (by decide +kernel)).trans (congrArg _ ((put_past (by decide +kernel)).trans (congrArg _ ((put_past (by decide +kernel)).trans (congrArg _ ((put_past (by decide +kernel)).trans (congrArg _ ((put_past (by decide +kernel)).trans (congrArg _ ((put_past (by decide +kernel)).trans (congrArg _ ((put_past (by decide +kernel)).trans (congrArg _ ((put_past (by decide +kernel)).trans (congrArg _ ((put_past (by decide +kernel)).trans (congrArg _ (put_here))))))))))))))))))))
theorem sdF_len : (sdF s lr ll).length < 1000 := Nat.lt_of_lt_of_le (show 11 < 12 by decide) (by decide)
/-! ### a stand is changed: all else is as it was -/
theorem q_sd {f : Str} (T : Facts K mg) (sy : SdIs K H a dx lr ll s) (hv : Ev tv σ H y) (ha : Ev ta σ H (.ref a)) (hn : NoAttr K (CS K) f) (t : Sd) (hp : putF f y (sdF s lr ll) = sdF t lr ll) (hr : t.rooms = s.rooms) (hl : t.lines = s.lines)
    (k : ∀ H1, But a H H1 → SdIs K H1 a dx lr ll t → tz D σ H1) : tSeq (sFld K ta tv f) tz D σ H := q_fld hv ha sy.ins T.cl_Stand hn sdF_len fun H1 e1 => by
  rw [hp]
  exact k _ (Ex.but e1).put ((sy.ex e1).put t hr hl)
theorem s_sd {f : Str} (T : Facts K mg) (sy : SdIs K H a dx lr ll s) (hv : Ev tv σ H y) (ha : Ev ta σ H (.ref a)) (hn : NoAttr K (CS K) f) (t : Sd) (hp : putF f y (sdF s lr ll) = sdF t lr ll) (hr : t.rooms = s.rooms) (hl : t.lines = s.lines)
    (k : ∀ H1, But a H H1 → SdIs K H1 a dx lr ll t → D.nx σ H1) : sFld K ta tv f D σ H := s_fld hv ha sy.ins T.cl_Stand hn sdF_len fun H1 e1 => by
  rw [hp]
  exact k _ (Ex.but e1).put ((sy.ex e1).put t hr hl)
theorem q_sdR (T : Facts K mg) (sy : SdIs K H a dx lr ll s) (rs : List Rm) (hv : EvP tv σ H fun v H' => ∃ l, v = .ref l ∧ H l = none ∧ Rows H' l (rs.map rmV)) (ha : Ev ta σ H (.ref a))
    (k : ∀ H1 l, But a H H1 → H l = none → SdIs K H1 a dx l ll { s with rooms := rs } → tz D σ H1) : tSeq (sFld K ta tv "rooms") tz D σ H := q_fldP hv ha sy.ins T.cl_Stand T.na_Stand_rooms sdF_len (fun v H1 H2 e ⟨l, h1, h2, h3⟩ => ⟨l, h1, h2, h3.ex e⟩) fun v H1 e1 ⟨l, hv, n, hr⟩ => by
  subst hv
  rw [putF_rooms (rs := rs)]
  refine k _ l (Ex.but e1).put n ((sy.ex e1).putR hr ?_)
  obtain ⟨vl, hvl, _⟩ := sy.lines
  exact (ne_of_none hvl n).symm
/-- a list that is there already -/
theorem q_sdR2 (T : Facts K mg) (sy : SdIs K H a dx lr ll s) (rs : List Rm) (hv : Ev tv σ H (.ref l)) (hr : Rows H l (rs.map rmV)) (hne : l ≠ ll) (ha : Ev ta σ H (.ref a))
    (k : ∀ H1, But a H H1 → SdIs K H1 a dx l ll { s with rooms := rs } → tz D σ H1) : tSeq (sFld K ta tv "rooms") tz D σ H := q_fld hv ha sy.ins T.cl_Stand T.na_Stand_rooms sdF_len fun H1 e1 => by
  rw [putF_rooms (rs := rs)]
  exact k _ (Ex.but e1).put ((sy.ex e1).putR (hr.ex e1) hne)
/-- a list that is none of the stand's is changed -/
theorem SdIs.other (h : SdIs K H a dx lr ll s) {d : Addr} {xs ys : List V} (hd : H d = some (.lst xs)) (n1 : d ≠ lr) (n2 : d ≠ ll) : SdIs K (upd H d (.lst ys)) a dx lr ll s := ⟨by
  rw [upd_ne (ne_of h.ins hd fun z => nomatch z)]
  exact h.ins, h.rooms.keep (tups_upd hd) (upd_ne n1.symm), h.lines.keep (tups_upd hd) (upd_ne n2.symm), h.ne⟩
theorem q_sdL (T : Facts K mg) (sy : SdIs K H a dx lr ll s) (xs : List Ln) (hv : EvP tv σ H fun v H' => ∃ l, v = .ref l ∧ H l = none ∧ Rows H' l (xs.map lnV)) (ha : Ev ta σ H (.ref a))
    (k : ∀ H1 l, But a H H1 → H l = none → SdIs K H1 a dx lr l { s with lines := xs } → tz D σ H1) : tSeq (sFld K ta tv "lines") tz D σ H := q_fldP hv ha sy.ins T.cl_Stand T.na_Stand_lines sdF_len (fun v H1 H2 e ⟨l, h1, h2, h3⟩ => ⟨l, h1, h2, h3.ex e⟩) fun v H1 e1 ⟨l, hv, n, hr⟩ => by
  subst hv
  rw [putF_lines (xs := xs)]
  refine k _ l (Ex.but e1).put n ((sy.ex e1).putL hr ?_)
  obtain ⟨vl, hvl, _⟩ := sy.rooms
  exact ne_of_none hvl n
end
end Wr
/-! ### part: D -/
set_option Elab.async false
set_option linter.all false
set_option maxRecDepth 100000
set_option maxHeartbeats 4000000
/-! # The walk, fourth part: stands -/
namespace Wr
open PySem PySem.Spec PyProof.Rows L2 Evl
/-! the evaluation of what hangs on nothing but what is known -/
local macro_rules | `(tactic| walk_at "cm") => `(tactic| first | exact Or.inl ⟨by decide, by decide⟩ | exact ⟨by decide, by decide⟩ | exact Or.inr ⟨by decide, by decide⟩ | exact Or.inl ⟨by omega, by omega⟩ | exact Or.inr ⟨by omega, by omega⟩ | exact ⟨by omega, by omega⟩ | exact ⟨by omega, by omega, by omega⟩)
local macro_rules | `(tactic| walk_at "at") => `(tactic| first | rfl | assumption)
local macro_rules | `(tactic| walk_at "rv") => `(tactic| first | exact rv_I0 | exact rv_eqI | exact rv_neI | exact rv_ixT (st_of (by assumption)) (by walk_at "at") | exact rv_ixT (by assumption) (by walk_at "at") | exact rv_ixL (sq_of (by assumption)) (by walk_at "at") | exact rv_ixL (by assumption) (by walk_at "at") | (apply rv_I; walk_at "cm"))
local macro_rules | `(tactic| walk_at "ea") => `(tactic| first | exact ea_nil | (apply ea_cons; walk_at "ev"; walk_at "ea"))
local macro_rules | `(tactic| walk_at "rc") => `(tactic| first | exact rc_min2 | exact rc_max2 | exact rc_min3 | exact rc_int | exact rc_len (sq_of (by assumption)) | exact rc_len (by assumption))
local macro_rules | `(tactic| walk_at "ev") => `(tactic| first | exact ev_c | exact ev_var rfl | assumption | (apply ev_op; walk_at "ev"; walk_at "ev"; walk_at "rv") | (apply ev_un; walk_at "ev"; exact ru_neg) | (apply ev_cb; walk_at "ea"; walk_at "rc"))
section
variable {P : Program} {w : World} {K : PySem.W.Frag} {mg : Str → Option Value} {base : Heap}
theorem But.free {a l : Addr} {H G : Hp} {o : HO} (e : But a H G) (n : G l = none) (h : G a = some o) : H l = none := by
  cases q : H l with
  | none => rfl
  | some u =>
    have hla : l ≠ a := fun z => by rw [z, h] at n; cases n
    rw [e l u q hla] at n
    cases n
/-! ## Stand's __init__ -/
def sd0 (kg : Nat) (at_ : Int) (tilt depth : Nat) : Sd := ⟨kg, at_, tilt, depth, [], [], 0, 0, 0, 0, 0⟩
theorem sdF_new {kg tilt depth : Nat} {at_ : Int} {lr ll : Addr} : putF "pumped" (.int 0) (putF "leaked" (.int 0) (putF "drops" (.int 0) (putF "height" (.int 0) (putF "minute" (.int 0) (putF "lines" (.ref ll) (putF "rooms" (.ref lr) (putF "depth" (.int depth) (putF "tilt" (.int tilt) (putF "place" (.int at_) (putF "kg" (.int kg) [])))))))))) = sdF (sd0 kg at_ tilt depth) lr ll := by rfl
def sp_Stand_init (K : PySem.W.Frag) : Sp := fun vs H Q _ => ∃ (p dx : Addr) (kg : Nat) (at_ : Int) (tilt depth : Nat), vs = [.ref p, .int kg, .int at_, .int tilt, .int depth] ∧ H p = some (.ins (CS K) dx []) ∧
  ∀ H' lr ll, But p H H' → H lr = none → H ll = none → SdIs K H' p dx lr ll (sd0 kg at_ tilt depth) → Q .non H'
theorem k_Stand_init (T : Facts K mg) : Km P w K mg base "Stand" "__init__" 1 ["self", "kg", "place", "tilt", "depth"] (sp_Stand_init K) := by
  refine T.raw_Stand_init.km sc_Stand_init (fun vs H Q E h => ?_) (fun cdv A outer s H vs Q E hr h => ?_)
  · obtain ⟨p, dx, kg, at_, tilt, depth, rfl, _⟩ := h
    rfl
  · obtain ⟨p, dx, kg, at_, tilt, depth, rfl, hp, q⟩ := h
    refine ⟨_, (pss_cons (ps_fld (pv 0) (pv 1) rfl)
      (pss_cons (ps_fld (pv 0) (pv 2) rfl)
      (pss_cons (ps_fld (pv 0) (pv 3) rfl)
      (pss_cons (ps_fld (pv 0) (pv 4) rfl)
      (pss_cons (ps_fld (pv 0) (pe_lst pa_nil) rfl)
      (pss_cons (ps_fld (pv 0) (pe_lst pa_nil) rfl)
      (pss_cons (ps_fld (pv 0) pe_int rfl)
      (pss_cons (ps_fld (pv 0) pe_int rfl)
      (pss_cons (ps_fld (pv 0) pe_int rfl)
      (pss_cons (ps_fld (pv 0) pe_int rfl)
      (pss_one (ps_fld (pv 0) pe_int rfl)))))))))))), ?_⟩
    have len : ∀ n, n ≤ 11 → n < 1000 := fun n h => by omega
    refine q_fld (ev_var rfl) (ev_var rfl) hp T.cl_Stand T.na_Stand_kg (len _ (by decide)) fun H1 e1 => ?_
    refine q_fld (ev_var rfl) (ev_var rfl) upd_same T.cl_Stand T.na_Stand_place (len _ (Nat.le_of_ble_eq_true rfl)) fun H2 e2 => ?_
    refine q_fld (ev_var rfl) (ev_var rfl) upd_same T.cl_Stand T.na_Stand_tilt (len _ (Nat.le_of_ble_eq_true rfl)) fun H3 e3 => ?_
    refine q_fld (ev_var rfl) (ev_var rfl) upd_same T.cl_Stand T.na_Stand_depth (len _ (Nat.le_of_ble_eq_true rfl)) fun H4 e4 => ?_
    have b4 := (((((((Ex.but e1).put).on e2).put).on e3).put).on e4).put (o := .ins (CS K) dx (putF "depth" (.int depth) (putF "tilt" (.int tilt) (putF "place" (.int at_) (putF "kg" (.int kg) [])))))
    refine q_fldP (ep_newL (el_lst ea_nil (Nat.zero_le _))) (ev_var rfl) upd_same T.cl_Stand T.na_Stand_rooms (len _ (Nat.le_of_ble_eq_true rfl)) newL_ex fun v H5 e5 ⟨lr, hv, nlr, hlr⟩ => ?_
    subst hv
    have hrp : lr ≠ p := ne_of hlr (e5 _ _ upd_same) fun z => nomatch z
    have b5 := (b4.on e5).put (o := .ins (CS K) dx (putF "rooms" (.ref lr) (putF "depth" (.int depth) (putF "tilt" (.int tilt) (putF "place" (.int at_) (putF "kg" (.int kg) []))))))
    refine q_fldP (ep_newL (el_lst ea_nil (Nat.zero_le _))) (ev_var rfl) upd_same T.cl_Stand T.na_Stand_lines (len _ (Nat.le_of_ble_eq_true rfl)) newL_ex fun v H6 e6 ⟨ll, hv, nll, hll⟩ => ?_
    subst hv
    have hlp : ll ≠ p := ne_of hll (e6 _ _ upd_same) fun z => nomatch z
    have hr6 : H6 lr = some (.lst []) := e6 _ _ (by rw [upd_ne hrp]; exact hlr)
    have hne : lr ≠ ll := ne_of_none (by rw [upd_ne hrp]; exact hlr) nll
    refine q_fld ev_c (ev_var rfl) upd_same T.cl_Stand T.na_Stand_minute (len _ (Nat.le_of_ble_eq_true rfl)) fun H7 e7 => ?_
    refine q_fld ev_c (ev_var rfl) upd_same T.cl_Stand T.na_Stand_height (len _ (Nat.le_of_ble_eq_true rfl)) fun H8 e8 => ?_
    refine q_fld ev_c (ev_var rfl) upd_same T.cl_Stand T.na_Stand_drops (len _ (Nat.le_of_ble_eq_true rfl)) fun H9 e9 => ?_
    refine q_fld ev_c (ev_var rfl) upd_same T.cl_Stand T.na_Stand_leaked (len _ (Nat.le_of_ble_eq_true rfl)) fun H10 e10 => ?_
    refine s_fld ev_c (ev_var rfl) upd_same T.cl_Stand T.na_Stand_pumped (len _ (Nat.le_of_ble_eq_true rfl)) fun H11 e11 => ?_
    rw [sdF_new]
    have lst : ∀ l, l ≠ p → H6 l = some (.lst []) → upd H11 p (.ins (CS K) dx (sdF (sd0 kg at_ tilt depth) lr ll)) l = some (.lst []) := fun l n h => by
      rw [upd_ne n]
      refine e11 _ _ ?_
      rw [upd_ne n]
      refine e10 _ _ ?_
      rw [upd_ne n]
      refine e9 _ _ ?_
      rw [upd_ne n]
      refine e8 _ _ ?_
      rw [upd_ne n]
      refine e7 _ _ ?_
      rw [upd_ne n]
      exact h
    refine q _ lr ll ((((((((((((b5.on e6).put).on e7).put).on e8).put).on e9).put).on e10).put).on e11).put) (b4.free nlr upd_same) (b5.free nll upd_same) ⟨upd_same, ⟨[], lst lr hrp hr6, Tups.nil⟩, ⟨[], lst ll hlp hll, Tups.nil⟩, hne⟩
/-- a new stand -/
def NewSd (K : PySem.W.Frag) (H0 : Hp) (s : Sd) : V → Hp → Prop := fun v H => ∃ x dx lr ll, v = .ref x ∧ H0 x = none ∧ H0 lr = none ∧ H0 ll = none ∧ SdIs K H x dx lr ll s
theorem ep_stand {σ : L2.St} {H : Hp} {ta : TA} {kg : Nat} {at_ : Int} {tilt depth : Nat} (h : EvA ta σ H [.int kg, .int at_, .int tilt, .int depth]) : EvP (tMake (CS K) (sp_Stand_init K) [] E0 ta) σ H (NewSd K H (sd0 kg at_ tilt depth)) := fun H1 e Q q =>
  h H1 e _ fun H2 e2 => fun x dx nx nd ne => by
    have ex : Ex H2 (upd (upd H2 dx (.own x)) x (.ins (CS K) dx [])) := fun b o hb => by
      rw [upd_ne (ne_of_none hb nx), upd_ne (ne_of_none hb nd)]
      exact hb
    refine ⟨x, dx, kg, at_, tilt, depth, rfl, upd_same, fun H' lr ll bt n1 n2 sd => ⟨rfl, ?_⟩⟩
    have e3 : Ex H2 H' := bt.new ex nx
    exact q _ H' (e2.trans e3) ⟨x, dx, lr, ll, rfl, fresh_back (e.trans e2) nx, fresh_back ((e.trans e2).trans ex) n1, fresh_back ((e.trans e2).trans ex) n2, sd⟩
/-! ## twin -/
def sp_twin (K : PySem.W.Frag) : Sp := fun vs H Q _ => ∃ (a : Addr) (s : Sd), vs = [.ref a] ∧ SdAt K H a s ∧ s.rooms.length ≤ 1000 ∧ s.lines.length ≤ 1000 ∧ RetP (NewSd K H s) H Q
theorem NewSd.back {H0 H1 H : Hp} {s : Sd} {v : V} (h : NewSd K H1 s v H) (e : Ex H0 H1) : NewSd K H0 s v H := by
  obtain ⟨x, dx, lr, ll, h1, h2, h3, h4, h5⟩ := h
  exact ⟨x, dx, lr, ll, h1, fresh_back e h2, fresh_back e h3, fresh_back e h4, h5⟩
theorem u_twin {H : Hp} {a : Addr} {s : Sd} (h : SdAt K H a s) (hr : s.rooms.length ≤ 1000) (hl : s.lines.length ≤ 1000) : SpP (sp_twin K) [.ref a] H (NewSd K H s) := fun H1 e Q q E => ⟨a, s, rfl, h.ex e, hr, hl, fun v H2 e2 n => q v H2 e2 (n.back e)⟩
theorem k_twin (T : Facts K mg) (h_Stand_init : Km P w K mg base "Stand" "__init__" 1 ["self", "kg", "place", "tilt", "depth"] (sp_Stand_init K)) : Kn P w K mg base "twin" 3 ["stand"] (sp_twin K) := by
  refine T.raw_twin.kn sc_twin (fun vs H Q E h => ?_) (fun cdv A outer s H vs Q E hr h => ?_)
  · obtain ⟨a, s, rfl, _⟩ := h
    rfl
  · obtain ⟨a, s, rfl, ⟨dx, lr, ll, sd⟩, hr1, hl1, q⟩ := h
    refine ⟨_, (pss_cons (ps_set (i := 1) sc_twin.nd rfl (Or.inl rfl) (pe_mk T.mk_Stand T.m_Stand h_Stand_init hr (pa_cons (pe_fld (pv 0) rfl) (pa_cons (pe_fld (pv 0) rfl) (pa_cons (pe_fld (pv 0) rfl) (pa_cons (pe_fld (pv 0) rfl) pa_nil))))))
      (pss_cons (ps_fld (pv 1) (pe_callTy call_list_of (by rfl) T.n_list bt_list (pa_cons (pe_fld (pv 0) rfl) pa_nil)) rfl)
      (pss_cons (ps_fld (pv 1) (pe_callTy call_list_of (by rfl) T.n_list bt_list (pa_cons (pe_fld (pv 0) rfl) pa_nil)) rfl)
      (pss_cons (ps_fld (pv 1) (pe_fld (pv 0) rfl) rfl)
      (pss_cons (ps_fld (pv 1) (pe_fld (pv 0) rfl) rfl)
      (pss_cons (ps_fld (pv 1) (pe_fld (pv 0) rfl) rfl)
      (pss_cons (ps_fld (pv 1) (pe_fld (pv 0) rfl) rfl)
      (pss_cons (ps_fld (pv 1) (pe_fld (pv 0) rfl) rfl)
      (pss_one (ps_ret (pv 1))))))))))), ?_⟩
    refine q_asgP (ep_stand (kg := s.kg) (at_ := s.at_) (tilt := s.tilt) (depth := s.depth) (ea_cons (ev_kg T sd (ev_var rfl)) (ea_cons (ev_place T sd (ev_var rfl)) (ea_cons (ev_tilt T sd (ev_var rfl)) (ea_cons (ev_depth T sd (ev_var rfl)) ea_nil))))) fun v H1 e1 ⟨x, dy, mr, ml, hv, nx, n1, n2, sy⟩ => ?_
    subst hv
    have sd1 := sd.ex e1
    obtain ⟨vr, hvr, htr⟩ := sd1.rooms
    refine q_sdR T sy s.rooms ((ep_newL (el_list (ev_rooms T sd1 (ev_var rfl)) (sq_of hvr))).imp fun v H2 e2 ⟨l, hv, n, hl⟩ => ⟨l, hv, n, vr, hl, htr.ex e2⟩) (ev_var rfl) fun H2 r2 b2 nr2 sy2 => ?_
    have ex2 := b2.new e1 nx
    have sd2 := sd.ex ex2
    obtain ⟨vl, hvl, htl⟩ := sd2.lines
    refine q_sdL T sy2 s.lines ((ep_newL (el_list (ev_lines T sd2 (ev_var rfl)) (sq_of hvl))).imp fun v H3 e3 ⟨l, hv, n, hl⟩ => ⟨l, hv, n, vl, hl, htl.ex e3⟩) (ev_var rfl) fun H3 l3 b3 nl3 sy3 => ?_
    have ex3 := b3.new ex2 nx
    refine q_sd T sy3 (ev_minute T (sd.ex ex3) (ev_var rfl)) (ev_var rfl) T.na_Stand_minute _ putF_minute rfl rfl fun H4 b4 sy4 => ?_
    have ex4 := b4.new ex3 nx
    refine q_sd T sy4 (ev_height T (sd.ex ex4) (ev_var rfl)) (ev_var rfl) T.na_Stand_height _ putF_height rfl rfl fun H5 b5 sy5 => ?_
    have ex5 := b5.new ex4 nx
    refine q_sd T sy5 (ev_drops T (sd.ex ex5) (ev_var rfl)) (ev_var rfl) T.na_Stand_drops _ putF_drops rfl rfl fun H6 b6 sy6 => ?_
    have ex6 := b6.new ex5 nx
    refine q_sd T sy6 (ev_leaked T (sd.ex ex6) (ev_var rfl)) (ev_var rfl) T.na_Stand_leaked _ putF_leaked rfl rfl fun H7 b7 sy7 => ?_
    have ex7 := b7.new ex6 nx
    refine q_sd T sy7 (ev_pumped T (sd.ex ex7) (ev_var rfl)) (ev_var rfl) T.na_Stand_pumped _ putF_pumped rfl rfl fun H8 b8 sy8 => ?_
    have ex8 := b8.new ex7 nx
    exact s_ret (ev_var rfl) fun H9 e9 => q _ H9 (ex8.trans e9) ⟨x, dy, r2, l3, rfl, nx, fresh_back e1 nr2, fresh_back ex2 nl3, sy8.ex e9⟩
end
end Wr
/-! ### part: E -/
set_option Elab.async false
set_option linter.all false
set_option maxRecDepth 100000
set_option maxHeartbeats 4000000
/-! # The walk, fifth part: weights, lines, whether it can hang -/
namespace Wr
open PySem PySem.Spec PyProof.Rows L2 Evl
/-! the evaluation of what hangs on nothing but what is known -/
local macro_rules | `(tactic| walk_at "cm") => `(tactic| first | exact Or.inl ⟨by decide, by decide⟩ | exact ⟨by decide, by decide⟩ | exact Or.inr ⟨by decide, by decide⟩ | exact Or.inl ⟨by omega, by omega⟩ | exact Or.inr ⟨by omega, by omega⟩ | exact ⟨by omega, by omega⟩ | exact ⟨by omega, by omega, by omega⟩)
local macro_rules | `(tactic| walk_at "at") => `(tactic| first | rfl | assumption)
local macro_rules | `(tactic| walk_at "rv") => `(tactic| first | exact rv_I0 | exact rv_eqI | exact rv_neI | exact rv_ixT (st_of (by assumption)) (by walk_at "at") | exact rv_ixT (by assumption) (by walk_at "at") | exact rv_ixL (sq_of (by assumption)) (by walk_at "at") | exact rv_ixL (by assumption) (by walk_at "at") | (apply rv_I; walk_at "cm"))
local macro_rules | `(tactic| walk_at "ea") => `(tactic| first | exact ea_nil | (apply ea_cons; walk_at "ev"; walk_at "ea"))
local macro_rules | `(tactic| walk_at "rc") => `(tactic| first | exact rc_min2 | exact rc_max2 | exact rc_min3 | exact rc_int | exact rc_len (sq_of (by assumption)) | exact rc_len (by assumption))
local macro_rules | `(tactic| walk_at "ev") => `(tactic| first | exact ev_c | exact ev_var rfl | assumption | (apply ev_op; walk_at "ev"; walk_at "ev"; walk_at "rv") | (apply ev_un; walk_at "ev"; exact ru_neg) | (apply ev_cb; walk_at "ea"; walk_at "rc"))
section
variable {P : Program} {w : World} {K : PySem.W.Frag} {mg : Str → Option Value} {base : Heap}
theorem s_retP1 {σ : L2.St} {H : Hp} {D : Ends} {te : TE} {φ : V → Hp → Prop} {r : List V → Hp → VK → Prop} (h : EvP te σ H φ) (k : ∀ v H1, Ex H H1 → φ v H1 → r [v] H1 D.rt) : tRet (tCB r (tCons te tNil)) D σ H := h H (Ex.refl H) _ fun v H1 e p => k v H1 e p
/-- rooms as they may be -/
structure RmsOk (rs : List Rm) : Prop where
  len : rs.length ≤ 1000
  all : ∀ r ∈ rs, RoomOk r
theorem Good.rms {s : Sd} (g : Good s) : RmsOk s.rooms := ⟨Nat.le_trans g.rn (by decide), g.rooms⟩
/-! ## left_with, moment_with -/
def sp_left_with (K : PySem.W.Frag) : Sp := fun vs H Q _ => ∃ (a p : Addr) (s : Sd) (rs : List Rm), vs = [.ref a, .ref p] ∧ SdAt K H a s ∧ Rows H p (rs.map rmV) ∧ RmsOk rs ∧ RetV (.int (netOf s rs)) H Q
theorem u_left_with {H : Hp} {a p : Addr} {s : Sd} {rs : List Rm} (h : SdAt K H a s) (hp : Rows H p (rs.map rmV)) (ok : RmsOk rs) : SpV (sp_left_with K) [.ref a, .ref p] H (.int (netOf s rs)) := fun H1 e Q q E => ⟨a, p, s, rs, rfl, h.ex e, hp.ex e, ok, q⟩
theorem k_left_with (T : Facts K mg) (h_air_grams : Kn P w K mg base "air_grams" 1 ["room"] (sp_air_grams K)) : Kn P w K mg base "left_with" 2 ["stand", "rooms"] (sp_left_with K) := by
  refine T.raw_left_with.kn sc_left_with (fun vs H Q E h => ?_) (fun cdv A outer st H vs Q E hr h => ?_)
  · obtain ⟨a, p, s, rs, rfl, _⟩ := h
    rfl
  · obtain ⟨a, p, s, rs, rfl, ⟨dx, lr, ll, sd⟩, ⟨ts, hp, ht⟩, ok, q⟩ := h
    refine ⟨_, (pss_one (ps_ret (pe_op op_sub (pe_op op_mul (pe_gi T.g_GRAMS) (pe_fld (pv 0) rfl)) (pe_callB (cr_sum rfl) (by rfl) T.n_sum bt_sum (pa_cons (pe_lc (own := [("room", 2)]) (g := (gName 2)) (tt := tYes) (te := (tCall (sp_air_grams K) [] E0 (tCons (tVar 2) tNil))) rfl sc_left_with.nd (pi_list (pv 1)) (blkOk_by (N := ["stand", "rooms", "room"]) (sc := defScope s_left_with) (by decide +kernel)) (fun _ _ _ _ _ => (pg_name (i := 2) sc_left_with.nd rfl (Or.inl rfl))) (fun _ _ _ _ _ => pts_nil) (fun _ _ _ _ _ => (pe_kn h_air_grams hr (pa_cons (pv 2) pa_nil)))) pa_nil))))), ?_⟩
    have hl := ok.len
    have hts := ht.size
    refine s_ret (ev_is (ev_op (ev_op ev_c (ev_kg T sd (ev_var rfl)) (rv_I (.inl ⟨by decide, by decide⟩))) (ev_sumN (el_lcM (xs := ts) ((rs.map fun (r : Rm) => ((r.lifts : Nat) : Int)).map V.int) (by rw [List.length_map, List.length_map, ht.size]) (ev_var rfl) (sq_of hp) (by omega) fun i x y H1 hx hy e => ?_)) rv_I0) ?_) q
    · obtain ⟨r, hr, hv⟩ := ht.of hx
      rw [List.map_map] at hy
      have ey := map_at hr hy
      subst ey
      exact turn_name rfl (ev_kall (ea_cons (ev_var rfl) ea_nil) (u_air_grams (hv.ex e) (ok.all r (List.mem_of_getElem? hr)).water))
    · refine congrArg V.int ?_
      rw [sum_cast]
      unfold netOf
      omega
def sp_moment_with (K : PySem.W.Frag) : Sp := fun vs H Q _ => ∃ (a p : Addr) (s : Sd) (rs : List Rm), vs = [.ref a, .ref p] ∧ SdAt K H a s ∧ Rows H p (rs.map rmV) ∧ RmsOk rs ∧ -5000 ≤ s.at_ ∧ s.at_ ≤ 5000 ∧ RetV (.int (momOf s rs)) H Q
theorem u_moment_with {H : Hp} {a p : Addr} {s : Sd} {rs : List Rm} (h : SdAt K H a s) (hp : Rows H p (rs.map rmV)) (ok : RmsOk rs) (g : Good s) : SpV (sp_moment_with K) [.ref a, .ref p] H (.int (momOf s rs)) := fun H1 e Q q E => ⟨a, p, s, rs, rfl, h.ex e, hp.ex e, ok, g.at1, g.at2, q⟩
theorem k_moment_with (T : Facts K mg) (h_air_grams : Kn P w K mg base "air_grams" 1 ["room"] (sp_air_grams K)) : Kn P w K mg base "moment_with" 2 ["stand", "rooms"] (sp_moment_with K) := by
  refine T.raw_moment_with.kn sc_moment_with (fun vs H Q E h => ?_) (fun cdv A outer st H vs Q E hr h => ?_)
  · obtain ⟨a, p, s, rs, rfl, _⟩ := h
    rfl
  · obtain ⟨a, p, s, rs, rfl, ⟨dx, lr, ll, sd⟩, ⟨ts, hp, ht⟩, ok, ha1, ha2, q⟩ := h
    refine ⟨_, (pss_one (ps_ret (pe_op op_sub (pe_op op_mul (pe_op op_mul (pe_gi T.g_GRAMS) (pe_fld (pv 0) rfl)) (pe_fld (pv 0) rfl)) (pe_callB (cr_sum rfl) (by rfl) T.n_sum bt_sum (pa_cons (pe_lc (own := [("room", 2)]) (g := (gName 2)) (tt := tYes) (te := (tOp (rI CMul fun i j => V.int (i * j)) (tCall (sp_air_grams K) [] E0 (tCons (tVar 2) tNil)) (tOp (rIxT K) (tVar 2) (tC (.int 1))))) rfl sc_moment_with.nd (pi_list (pv 1)) (blkOk_by (N := ["stand", "rooms", "room"]) (sc := defScope s_moment_with) (by decide +kernel)) (fun _ _ _ _ _ => (pg_name (i := 2) sc_moment_with.nd rfl (Or.inl rfl))) (fun _ _ _ _ _ => pts_nil) (fun _ _ _ _ _ => (pe_op op_mul (pe_kn h_air_grams hr (pa_cons (pv 2) pa_nil)) (pe_ix ix_tup (pv 2) pe_int (fun _ _ => rfl))))) pa_nil))))), ?_⟩
    have hl := ok.len
    have hts := ht.size
    refine s_ret (ev_is (ev_op (ev_op (ev_op ev_c (ev_kg T sd (ev_var rfl)) (rv_I (.inl ⟨by decide, by decide⟩))) (ev_place T sd (ev_var rfl)) (rv_I (.inr ⟨by omega, by omega⟩))) (ev_sumN (el_lcM (xs := ts) ((rs.map fun (r : Rm) => ((r.lifts : Nat) : Int) * r.at_).map V.int) (by rw [List.length_map, List.length_map, ht.size]) (ev_var rfl) (sq_of hp) (by omega) fun i x y H1 hx hy e => ?_)) rv_I0) ?_) q
    · obtain ⟨r, hr, hv⟩ := ht.of hx
      rw [List.map_map] at hy
      have ey := map_at hr hy
      subst ey
      have rk := ok.all r (List.mem_of_getElem? hr)
      have r1 := rk.at1
      have r2 := rk.at2
      have hv1 := hv.ex e
      obtain ⟨t, rfl, ht1⟩ := hv1
      exact turn_name rfl (ev_op (ev_kall (ea_cons (ev_var rfl) ea_nil) (u_air_grams ⟨t, rfl, ht1⟩ rk.water)) (by walk_at "ev") (rv_I (.inr ⟨by omega, by omega⟩)))
    · refine congrArg V.int ?_
      rw [sum_total]
      unfold momOf
      have e1 : (1000 : Int) * (s.kg : Int) = ((1000 * s.kg : Nat) : Int) := by omega
      rw [e1]
def sp_left_of (K : PySem.W.Frag) : Sp := fun vs H Q _ => ∃ (a : Addr) (s : Sd), vs = [.ref a] ∧ SdAt K H a s ∧ Good s ∧ RetV (.int s.w.net) H Q
theorem u_left_of {H : Hp} {a : Addr} {s : Sd} (h : SdAt K H a s) (g : Good s) : SpV (sp_left_of K) [.ref a] H (.int s.w.net) := fun H1 e Q q E => ⟨a, s, rfl, h.ex e, g, q⟩
theorem k_left_of (T : Facts K mg) (h_left_with : Kn P w K mg base "left_with" 2 ["stand", "rooms"] (sp_left_with K)) : Kn P w K mg base "left_of" 3 ["stand"] (sp_left_of K) := by
  refine T.raw_left_of.kn sc_left_of (fun vs H Q E h => ?_) (fun cdv A outer st H vs Q E hr h => ?_)
  · obtain ⟨a, s, rfl, _⟩ := h
    rfl
  · obtain ⟨a, s, rfl, ⟨dx, lr, ll, sd⟩, g, q⟩ := h
    refine ⟨_, (pss_one (ps_ret (pe_kn h_left_with hr (pa_cons (pv 0) (pa_cons (pe_fld (pv 0) rfl) pa_nil))))), ?_⟩
    exact s_ret (ev_kall (ea_cons (ev_var rfl) (ea_cons (ev_rooms T sd (ev_var rfl)) ea_nil)) (u_left_with ⟨dx, lr, ll, sd⟩ sd.rooms g.rms)) q
def sp_moment_now (K : PySem.W.Frag) : Sp := fun vs H Q _ => ∃ (a : Addr) (s : Sd), vs = [.ref a] ∧ SdAt K H a s ∧ Good s ∧ RetV (.int s.w.moment) H Q
theorem u_moment_now {H : Hp} {a : Addr} {s : Sd} (h : SdAt K H a s) (g : Good s) : SpV (sp_moment_now K) [.ref a] H (.int s.w.moment) := fun H1 e Q q E => ⟨a, s, rfl, h.ex e, g, q⟩
theorem k_moment_now (T : Facts K mg) (h_moment_with : Kn P w K mg base "moment_with" 2 ["stand", "rooms"] (sp_moment_with K)) : Kn P w K mg base "moment_now" 3 ["stand"] (sp_moment_now K) := by
  refine T.raw_moment_now.kn sc_moment_now (fun vs H Q E h => ?_) (fun cdv A outer st H vs Q E hr h => ?_)
  · obtain ⟨a, s, rfl, _⟩ := h
    rfl
  · obtain ⟨a, s, rfl, ⟨dx, lr, ll, sd⟩, g, q⟩ := h
    refine ⟨_, (pss_one (ps_ret (pe_kn h_moment_with hr (pa_cons (pv 0) (pa_cons (pe_fld (pv 0) rfl) pa_nil))))), ?_⟩
    exact s_ret (ev_kall (ea_cons (ev_var rfl) (ea_cons (ev_rooms T sd (ev_var rfl)) ea_nil)) (u_moment_with ⟨dx, lr, ll, sd⟩ sd.rooms g.rms g)) q
def sp_told_moment (K : PySem.W.Frag) : Sp := fun vs H Q _ => ∃ m : Int, vs = [.int m] ∧ RetV (.int (m / 100000 + 1000000000)) H Q
theorem u_told_moment {H : Hp} {m : Int} : SpV (sp_told_moment K) [.int m] H (.int (m / 100000 + 1000000000)) := fun H1 e Q q E => ⟨m, rfl, q⟩
theorem k_told_moment (T : Facts K mg) : Kn P w K mg base "told_moment" 1 ["moment"] (sp_told_moment K) := by
  refine T.raw_told_moment.kn sc_told_moment (fun vs H Q E h => ?_) (fun cdv A outer st H vs Q E hr h => ?_)
  · obtain ⟨m, rfl, _⟩ := h
    rfl
  · obtain ⟨m, rfl, q⟩ := h
    refine ⟨_, (pss_one (ps_ret (pe_op op_add (pe_op op_fdiv (pv 0) (pe_gi T.g_TOLD)) (pe_gi T.g_MORE)))), ?_⟩
    exact s_ret (by walk_at "ev") q
/-! ## loads_of -/
def LoadsV (ls : List Li) : V → Hp → Prop := fun v H => ∃ q, v = .ref q ∧ Loads H q ls
theorem LoadsV.ex {ls : List Li} {v : V} {H H' : Hp} (h : LoadsV ls v H) (e : Ex H H') : LoadsV ls v H' := by
  obtain ⟨q, h1, h2⟩ := h
  exact ⟨q, h1, h2.ex e⟩
def sp_loads_of (K : PySem.W.Frag) : Sp := fun vs H Q _ => ∃ (p : Addr) (xs : List Ln), vs = [.ref p] ∧ Rows H p (xs.map lnV) ∧ xs.length ≤ 1000 ∧ (xs.map Ln.at_).Nodup ∧ RetP (LoadsV (order (xs.map Ln.l))) H Q
theorem u_loads_of {H : Hp} {p : Addr} {xs : List Ln} (h : Rows H p (xs.map lnV)) (hl : xs.length ≤ 1000) (nd : (xs.map Ln.at_).Nodup) : SpP (sp_loads_of K) [.ref p] H (LoadsV (order (xs.map Ln.l))) := fun H1 e Q q E => ⟨p, xs, rfl, h.ex e, hl, nd, q⟩
/-- the pair that a value stands for -/
def pairOf (H : Hp) (v : V) : Int × Int := match v with
  | .ref t => (match H t with
    | some (.tup [.int i, .int j]) => (i, j)
    | _ => (0, 0))
  | _ => (0, 0)
theorem pairOf_is {H : Hp} {v : V} {i j : Int} (h : TupAt [.int i, .int j] v H) : pairOf H v = (i, j) := by
  obtain ⟨t, rfl, ht⟩ := h
  show (match H t with
    | some (.tup [.int i, .int j]) => (i, j)
    | _ => (0, 0)) = (i, j)
  rw [ht]
theorem map_pairs {H : Hp} {vs : List V} {ls : List Li} (h : Tups H vs (ls.map ldV)) : vs.map (pairOf H) = ls.map fun l => (l.at_, (l.most : Int)) := by
  apply List.ext_getElem?
  intro i
  rw [List.getElem?_map, List.getElem?_map]
  cases e : ls[i]? with
  | none =>
    rw [List.getElem?_eq_none (by rw [h.size]; exact List.getElem?_eq_none_iff.mp e)]
    rfl
  | some l =>
    obtain ⟨v, hv, ht⟩ := h.to e
    rw [hv]
    show some (pairOf H v) = some _
    rw [pairOf_is ht]
theorem tups_of_pairs {H : Hp} {ys vs : List V} {ms ls : List Li} (hp : ys.Perm vs) (h : Tups H vs (ms.map ldV)) (e : ys.map (pairOf H) = ls.map fun l => (l.at_, (l.most : Int))) : Tups H ys (ls.map ldV) := by
  have hlen : ys.length = ls.length := by
    have := congrArg List.length e
    rw [List.length_map, List.length_map] at this
    exact this
  refine ⟨by rw [List.length_map]; exact hlen, fun i v hv => ?_⟩
  have hi : i < ls.length := by rw [← hlen]; exact (List.getElem?_eq_some_iff.mp hv).1
  obtain ⟨k, hk⟩ := List.getElem?_of_mem (hp.mem_iff.mp (List.mem_of_getElem? hv))
  obtain ⟨m, hm, ht⟩ := h.of hk
  have e1 : (ys.map (pairOf H))[i]? = some (m.at_, (m.most : Int)) := by
    rw [List.getElem?_map, hv]
    show some (pairOf H v) = _
    rw [pairOf_is ht]
  rw [e, List.getElem?_map, List.getElem?_eq_getElem hi] at e1
  have e2 := Option.some.inj e1
  have e3 : ls[i].at_ = m.at_ := congrArg Prod.fst e2
  have e4 : (ls[i].most : Int) = m.most := congrArg Prod.snd e2
  refine ⟨ldV ls[i], by rw [List.getElem?_map, List.getElem?_eq_getElem hi]; rfl, ?_⟩
  have e5 : ldV ls[i] = ldV m := by
    unfold ldV
    rw [e3, e4]
  rw [e5]
  exact ht
theorem order_pairs {l : List Li} {ps : List (Int × Int)} (hp : ps.Perm (l.map fun x => (x.at_, (x.most : Int)))) (hs : ps.Pairwise fun a b => a.1 ≤ b.1) (hn : (l.map Km420.Line.at_).Nodup) : ps = (order l).map fun x => (x.at_, (x.most : Int)) := by
  have e1 : (l.map fun x => (x.at_, (x.most : Int))).map (fun p => (p.1, p.2.toNat)) = l.map strip := by
    rw [List.map_map]
    exact List.map_congr_left fun x _ => rfl
  have h1 := order_is (l := l) (ps := ps.map fun p => (p.1, p.2.toNat)) (by rw [← e1]; exact hp.map _) (List.pairwise_map.mpr hs) hn
  have e2 : ∀ p ∈ ps, ((p.1, ((p.2.toNat : Nat) : Int)) : Int × Int) = p := fun p h => by
    obtain ⟨x, _, hx⟩ := List.mem_map.mp (hp.mem_iff.mp h)
    rw [← hx]
    rfl
  have e3 : ps = (ps.map fun p => (p.1, p.2.toNat)).map fun p => ((p.1, ((p.2 : Nat) : Int)) : Int × Int) := by
    rw [List.map_map]
    exact ((List.map_congr_left (g := id) fun p h => e2 p h).trans (List.map_id ps)).symm
  rw [e3, h1, List.map_map]
  rfl
theorem k_loads_of (T : Facts K mg) : Kn P w K mg base "loads_of" 1 ["lines"] (sp_loads_of K) := by
  refine T.raw_loads_of.kn sc_loads_of (fun vs H Q E h => ?_) (fun cdv A outer st H vs Q E hr h => ?_)
  · obtain ⟨p, xs, rfl, _⟩ := h
    rfl
  · obtain ⟨p, xs, rfl, ⟨ts, hp, ht⟩, hl, nd, q⟩ := h
    refine ⟨_, (pss_one (ps_ret (pe_callB cr_sortedPO (by rfl) T.n_sorted bt_sorted (pa_cons (pe_lc (own := [("place", 1), ("kg", 2), ("hooked", 3)]) (g := (gTup K 3 (gCons (gName 1) (gCons (gName 2) (gCons (gName 3) gNil))))) (tt := tYes) (te := (tTup (tCons (tVar 1) (tCons (tOp (rI CMul fun i j => V.int (i * j)) (tC (.int 1000)) (tVar 2)) tNil)))) rfl sc_loads_of.nd (pi_list (pv 0)) (blkOk_by (N := ["lines", "place", "kg", "hooked"]) (sc := defScope s_loads_of) (by decide +kernel)) (fun _ _ _ _ _ => (pg_tup rfl (pgs_cons (pg_name (i := 1) sc_loads_of.nd rfl (Or.inl rfl)) (pgs_cons (pg_name (i := 2) sc_loads_of.nd rfl (Or.inl rfl)) (pgs_cons (pg_name (i := 3) sc_loads_of.nd rfl (Or.inl rfl)) pgs_nil))))) (fun _ _ _ _ _ => pts_nil) (fun _ _ _ _ _ => (pe_tup (pa_cons (pv 1) (pa_cons (pe_op op_mul (pe_gi T.g_GRAMS) (pv 2)) pa_nil))))) pa_nil)))), ?_⟩
    have hts := ht.size
    refine s_retP1 (ep_lcL (xs := ts) (ev_var rfl) (sq_of hp) (by omega) (fun i acc H' => Tups H' acc ((xs.take i).map fun (x : Ln) => ldV x.l)) (fun _ _ => Tups.nil) (fun i acc H1 h => by
        have := h.size
        rw [List.length_take] at this
        omega) (fun i acc H1 H2 k h => h.keep k) (fun i x acc H1 hx e hw => ?_)) fun v H2 e2 ⟨acc, ⟨d, hv, nD, hd⟩, hw⟩ => ?_
    · obtain ⟨l, hl, hv⟩ := ht.of hx
      refine turnP_three (b := true) (hv.ex e) rfl et_yes (fun z => Bool.noConfusion z) (fun _ => (ep_tup (vs := ldV l.l) (ea_cons (ev_var rfl) (ea_cons (ev_is (by walk_at "ev") (congrArg V.int ?_)) ea_nil)) (Nat.le_of_ble_eq_true rfl)).imp fun y H3 e3 hy => ?_)
      · show (1000 : Int) * (l.kg : Int) = ((1000 * l.kg : Nat) : Int)
        omega
      · rw [take_snoc hl, List.map_append]
        exact (hw.ex e3).snoc hy
    · subst hv
      have hw1 : Tups H2 acc ((xs.map Ln.l).map ldV) := by
        rw [hts, List.take_length] at hw
        rw [List.map_map]
        exact hw
      have hpr := map_pairs hw1
      refine ⟨d, acc, pairOf H2, rfl, sq_of hd, fun x hx => ?_, fun ys b srt stb nb => ?_⟩
      · obtain ⟨k, hk⟩ := List.getElem?_of_mem hx
        obtain ⟨l, _, hv⟩ := hw1.of hk
        have := pairOf_is hv
        obtain ⟨t, rfl, ht1⟩ := hv
        rw [this]
        exact ⟨t, rfl, ht1⟩
      · refine q _ _ (e2.trans (Ex.new nb)) ⟨b, rfl, ys, upd_same, ?_⟩
        refine (tups_of_pairs stb.perm hw1 ?_).ex (Ex.new nb)
        refine order_pairs (l := xs.map Ln.l) ?_ ?_ ?_
        · rw [← hpr]
          exact stb.perm.map _
        · refine List.pairwise_map.mpr (List.Pairwise.imp ?_ srt)
          intro a b hab
          have := SrtO.lexB_no.mp hab
          omega
        · rw [List.map_map]
          exact nd
end
end Wr
/-! ### part: F -/
set_option Elab.async false
set_option linter.all false
set_option maxRecDepth 100000
set_option maxHeartbeats 4000000
/-! # The walk, sixth part: whether it can hang; a minute -/
namespace Wr
open PySem PySem.Spec PyProof.Rows L2 Evl
/-! the evaluation of what hangs on nothing but what is known -/
local macro_rules | `(tactic| walk_at "cm") => `(tactic| first | exact Or.inl ⟨by decide, by decide⟩ | exact ⟨by decide, by decide⟩ | exact Or.inr ⟨by decide, by decide⟩ | exact Or.inl ⟨by omega, by omega⟩ | exact Or.inr ⟨by omega, by omega⟩ | exact ⟨by omega, by omega⟩ | exact ⟨by omega, by omega, by omega⟩)
local macro_rules | `(tactic| walk_at "at") => `(tactic| first | rfl | assumption)
local macro_rules | `(tactic| walk_at "rv") => `(tactic| first | exact rv_I0 | exact rv_eqI | exact rv_neI | exact rv_ixT (st_of (by assumption)) (by walk_at "at") | exact rv_ixT (by assumption) (by walk_at "at") | exact rv_ixL (sq_of (by assumption)) (by walk_at "at") | exact rv_ixL (by assumption) (by walk_at "at") | (apply rv_I; walk_at "cm"))
local macro_rules | `(tactic| walk_at "ea") => `(tactic| first | exact ea_nil | (apply ea_cons; walk_at "ev"; walk_at "ea"))
local macro_rules | `(tactic| walk_at "rc") => `(tactic| first | exact rc_min2 | exact rc_max2 | exact rc_min3 | exact rc_int | exact rc_len (sq_of (by assumption)) | exact rc_len (by assumption))
local macro_rules | `(tactic| walk_at "ev") => `(tactic| first | exact ev_c | exact ev_var rfl | assumption | (apply ev_op; walk_at "ev"; walk_at "ev"; walk_at "rv") | (apply ev_un; walk_at "ev"; exact ru_neg) | (apply ev_cb; walk_at "ea"; walk_at "rc"))
section
variable {P : Program} {w : World} {K : PySem.W.Frag} {mg : Str → Option Value} {base : Heap}
/-! ## hooked_lines, hooked_loads -/
def LinesV (xs : List Ln) : V → Hp → Prop := fun v H => ∃ q, v = .ref q ∧ Rows H q (xs.map lnV)
theorem LinesV.ex {xs : List Ln} {v : V} {H H' : Hp} (h : LinesV xs v H) (e : Ex H H') : LinesV xs v H' := by
  obtain ⟨q, h1, h2⟩ := h
  exact ⟨q, h1, h2.ex e⟩
def sp_hooked_lines (K : PySem.W.Frag) : Sp := fun vs H Q _ => ∃ (a : Addr) (s : Sd), vs = [.ref a] ∧ SdAt K H a s ∧ s.lines.length ≤ 1000 ∧ RetP (LinesV (s.lines.filter Ln.on_)) H Q
theorem u_hooked_lines {H : Hp} {a : Addr} {s : Sd} (h : SdAt K H a s) (hl : s.lines.length ≤ 1000) : SpP (sp_hooked_lines K) [.ref a] H (LinesV (s.lines.filter Ln.on_)) := fun H1 e Q q E => ⟨a, s, rfl, h.ex e, hl, q⟩
theorem k_hooked_lines (T : Facts K mg) : Kn P w K mg base "hooked_lines" 1 ["stand"] (sp_hooked_lines K) := by
  refine T.raw_hooked_lines.kn sc_hooked_lines (fun vs H Q E h => ?_) (fun cdv A outer st H vs Q E hr h => ?_)
  · obtain ⟨a, s, rfl, _⟩ := h
    rfl
  · obtain ⟨a, s, rfl, ⟨dx, lr, ll, sd⟩, hl, q⟩ := h
    refine ⟨_, (pss_one (ps_ret (pe_lc (own := [("line", 1)]) (g := (gName 1)) (tt := (tTest (tOp rEq (tOp (rIxT K) (tVar 1) (tC (.int 2))) (tC (.int 1))))) (te := (tVar 1)) rfl sc_hooked_lines.nd (pi_list (pe_fld (pv 0) rfl)) (blkOk_by (N := ["stand", "line"]) (sc := defScope s_hooked_lines) (by decide +kernel)) (fun _ _ _ _ _ => (pg_name (i := 1) sc_hooked_lines.nd rfl (Or.inl rfl))) (fun _ _ _ _ _ => pts_one (pt_cmpR op_eq (pe_ix ix_tup (pv 1) pe_int (fun _ _ => rfl)) pe_int (nomark _))) (fun _ _ _ _ _ => (pv 1))))), ?_⟩
    obtain ⟨ts, hp, ht⟩ := sd.lines
    have hts := ht.size
    refine s_retP (ep_lcL (xs := ts) (ev_lines T sd (ev_var rfl)) (sq_of hp) (by omega) (fun i acc H' => Tups H' acc (((s.lines.take i).filter Ln.on_).map lnV)) (fun _ _ => Tups.nil) (fun i acc H1 h => by
        have h1 := h.size
        have h2 := List.length_filter_le Ln.on_ (s.lines.take i)
        rw [List.length_take] at h2
        omega) (fun i acc H1 H2 k h => h.keep k) (fun i x acc H1 hx e hw => ?_)) fun v H2 e2 ⟨acc, ⟨d, hv, nD, hd⟩, hw⟩ => q v H2 e2 ⟨d, hv, acc, hd, ?_⟩
    · obtain ⟨l, hl, hv⟩ := ht.of hx
      have hv1 := hv.ex e
      obtain ⟨t, rfl, ht1⟩ := hv1
      refine turnP_name (b := decide (b01 l.on_ = 1)) rfl (et_test (by walk_at "ev")) (fun c => ?_) (fun c => (ep_ev (ev_var rfl)).imp fun y H3 e3 hy => ?_)
      · have c1 : l.on_ = false := by
          cases h : l.on_ with
          | false => rfl
          | true => exact absurd (b01_one.mpr h) (of_decide_eq_false c)
        rw [take_snoc hl, List.filter_append, List.filter_cons, if_neg (by rw [c1]; exact Bool.false_ne_true), List.filter_nil, List.append_nil]
        exact hw
      · have c1 := b01_one.mp (of_decide_eq_true c)
        rw [take_snoc hl, List.filter_append, List.filter_cons, if_pos c1, List.filter_nil, List.map_append]
        rw [hy]
        exact (hw.ex e3).snoc ⟨t, rfl, e3 _ _ ht1⟩
    · rw [hts, List.take_length] at hw
      exact hw
def sp_hooked_loads (K : PySem.W.Frag) : Sp := fun vs H Q _ => ∃ (a : Addr) (s : Sd), vs = [.ref a] ∧ SdAt K H a s ∧ Good s ∧ RetP (LoadsV s.w.used) H Q
theorem u_hooked_loads {H : Hp} {a : Addr} {s : Sd} (h : SdAt K H a s) (g : Good s) : SpP (sp_hooked_loads K) [.ref a] H (LoadsV s.w.used) := fun H1 e Q q E => ⟨a, s, rfl, h.ex e, g, q⟩
theorem Good.on {s : Sd} (g : Good s) : (s.lines.filter Ln.on_).length ≤ 4 ∧ ((s.lines.filter Ln.on_).map Ln.at_).Nodup := by
  obtain ⟨_, h2, h3⟩ := g.sub (List.filter_sublist (p := Ln.on_) (l := s.lines))
  exact ⟨h2, h3⟩
theorem k_hooked_loads (T : Facts K mg) (h_loads_of : Kn P w K mg base "loads_of" 1 ["lines"] (sp_loads_of K)) (h_hooked_lines : Kn P w K mg base "hooked_lines" 1 ["stand"] (sp_hooked_lines K)) : Kn P w K mg base "hooked_loads" 2 ["stand"] (sp_hooked_loads K) := by
  refine T.raw_hooked_loads.kn sc_hooked_loads (fun vs H Q E h => ?_) (fun cdv A outer st H vs Q E hr h => ?_)
  · obtain ⟨a, s, rfl, _⟩ := h
    rfl
  · obtain ⟨a, s, rfl, sd, g, q⟩ := h
    refine ⟨_, (pss_one (ps_ret (pe_kn h_loads_of hr (pa_cons (pe_kn h_hooked_lines hr (pa_cons (pv 0) pa_nil)) pa_nil)))), ?_⟩
    obtain ⟨o1, o2⟩ := g.on
    rw [used_is] at q
    refine s_retP (ep_callP (Φ := fun vs H1 => ∃ b, vs = [.ref b] ∧ Rows H1 b ((s.lines.filter Ln.on_).map lnV)) (epa_one (φ := LinesV (s.lines.filter Ln.on_)) (ep_call (ea_cons (ev_var rfl) ea_nil) (u_hooked_lines sd (Nat.le_trans g.ln (by decide)))) fun x H1 e1 ⟨b, hb, hr⟩ => ⟨b, by rw [hb], hr⟩) fun vs H1 e1 ⟨b, hv, hr⟩ => ?_) q
    subst hv
    exact u_loads_of hr (by omega) o2
/-! ## hangs_with, hangs -/
theorem LdFine.ok {ls : List Li} (h : LdFine ls) : LdOk ls := ⟨Nat.le_trans h.len (by decide), h.at_⟩
/-- lines that may be hooked together -/
structure LnsOk (xs : List Ln) : Prop where
  all : ∀ x ∈ xs, LnOk x
  len : xs.length ≤ 4
  nd : (xs.map Ln.at_).Nodup
theorem Good.lns {s : Sd} (g : Good s) {xs : List Ln} (h : xs.Sublist s.lines) : LnsOk xs := by
  obtain ⟨h1, h2, h3⟩ := g.sub h
  exact ⟨h1, h2, h3⟩
theorem LnsOk.fine {xs : List Ln} (h : LnsOk xs) : LdFine (order (xs.map Ln.l)) := order_fine h.all h.len h.nd
def hangW (s : Sd) (rs : List Rm) (xs : List Ln) : Bool := Km420.hangs (order (xs.map Ln.l)) (netOf s rs) (momOf s rs) (100000 * s.tilt)
def sp_hangs_with (K : PySem.W.Frag) : Sp := fun vs H Q _ => ∃ (a p q : Addr) (s : Sd) (rs : List Rm) (xs : List Ln), vs = [.ref a, .ref p, .ref q] ∧ SdAt K H a s ∧ Good s ∧ Rows H p (rs.map rmV) ∧ RmsOk rs ∧ Rows H q (xs.map lnV) ∧ LnsOk xs ∧ RetV (.bl (hangW s rs xs)) H Q
theorem u_hangs_with {H : Hp} {a p q : Addr} {s : Sd} {rs : List Rm} {xs : List Ln} (h : SdAt K H a s) (g : Good s) (hp : Rows H p (rs.map rmV)) (ok : RmsOk rs) (hq : Rows H q (xs.map lnV)) (lo : LnsOk xs) : SpV (sp_hangs_with K) [.ref a, .ref p, .ref q] H (.bl (hangW s rs xs)) := fun H1 e Q k E => ⟨a, p, q, s, rs, xs, rfl, h.ex e, g, hp.ex e, ok, hq.ex e, lo, k⟩
theorem k_hangs_with (T : Facts K mg) (h_can_hang : Kn P w K mg base "can_hang" 4 ["loads", "left", "moment", "tilt"] (sp_can_hang K)) (h_loads_of : Kn P w K mg base "loads_of" 1 ["lines"] (sp_loads_of K)) (h_left_with : Kn P w K mg base "left_with" 2 ["stand", "rooms"] (sp_left_with K))
    (h_moment_with : Kn P w K mg base "moment_with" 2 ["stand", "rooms"] (sp_moment_with K)) : Kn P w K mg base "hangs_with" 5 ["stand", "rooms", "lines"] (sp_hangs_with K) := by
  refine T.raw_hangs_with.kn sc_hangs_with (fun vs H Q E h => ?_) (fun cdv A outer st H vs Q E hr h => ?_)
  · obtain ⟨a, p, q, s, rs, xs, rfl, _⟩ := h
    rfl
  · obtain ⟨a, p, q, s, rs, xs, rfl, sd, g, hp, ok, hq, lo, k⟩ := h
    refine ⟨_, (pss_one (ps_ret (pe_kn h_can_hang hr (pa_cons (pe_kn h_loads_of hr (pa_cons (pv 2) pa_nil)) (pa_cons (pe_kn h_left_with hr (pa_cons (pv 0) (pa_cons (pv 1) pa_nil))) (pa_cons (pe_kn h_moment_with hr (pa_cons (pv 0) (pa_cons (pv 1) pa_nil))) (pa_cons (pe_op op_mul (pe_gi T.g_TOLD) (pe_fld (pv 0) rfl)) pa_nil))))))), ?_⟩
    refine s_ret (ev_ep (ep_callP (Φ := fun vs H1 => ∃ b, vs = [.ref b, .int (netOf s rs), .int (momOf s rs), .int ((100000 * s.tilt : Nat) : Int)] ∧ Loads H1 b (order (xs.map Ln.l))) (epa_cons (φ := LoadsV (order (xs.map Ln.l))) (ep_call (vs := [.ref q]) (ea_cons (ev_var rfl) ea_nil) (u_loads_of hq (Nat.le_trans lo.len (by decide)) lo.nd)) fun x H1 e1 ⟨b, hb, hl⟩ => ?_) fun vs H1 e1 ⟨b, hv, hl⟩ => ?_)) k
    · have sd1 := sd.ex e1
      have sd2 := sd1
      obtain ⟨dx, lr, ll, sd3⟩ := sd2
      have hp1 := hp.ex e1
      refine epa_ev (ev_kall (vs := [.ref a, .ref p]) (ea_cons (ev_var rfl) (ea_cons (ev_var rfl) ea_nil)) (u_left_with sd1 hp1 ok)) (epa_ev (ev_kall (vs := [.ref a, .ref p]) (ea_cons (ev_var rfl) (ea_cons (ev_var rfl) ea_nil)) (u_moment_with sd1 hp1 ok g)) (epa_ev (v := .int ((100000 * s.tilt : Nat) : Int)) (ev_is (ev_op ev_c (ev_tilt T sd3 (ev_var rfl)) (rv_I (.inl ⟨by decide, by decide⟩))) (congrArg V.int ?_)) fun H2 e2 Q q => q [] H2 (Ex.refl _) ⟨b, by rw [hb], hl.ex e2⟩))
      show (100000 : Int) * (s.tilt : Int) = ((100000 * s.tilt : Nat) : Int)
      omega
    · subst hv
      intro H2 e2 Q q2
      exact u_can_hang hl lo.fine.ok H2 e2 Q fun H3 e3 => q2 _ H3 e3 rfl
def sp_hangs (K : PySem.W.Frag) : Sp := fun vs H Q _ => ∃ (a : Addr) (s : Sd), vs = [.ref a] ∧ SdAt K H a s ∧ Good s ∧ RetV (.bl s.w.can) H Q
theorem u_hangs {H : Hp} {a : Addr} {s : Sd} (h : SdAt K H a s) (g : Good s) : SpV (sp_hangs K) [.ref a] H (.bl s.w.can) := fun H1 e Q q E => ⟨a, s, rfl, h.ex e, g, q⟩
theorem k_hangs (T : Facts K mg) (h_hangs_with : Kn P w K mg base "hangs_with" 5 ["stand", "rooms", "lines"] (sp_hangs_with K)) (h_hooked_lines : Kn P w K mg base "hooked_lines" 1 ["stand"] (sp_hooked_lines K)) : Kn P w K mg base "hangs" 6 ["stand"] (sp_hangs K) := by
  refine T.raw_hangs.kn sc_hangs (fun vs H Q E h => ?_) (fun cdv A outer st H vs Q E hr h => ?_)
  · obtain ⟨a, s, rfl, _⟩ := h
    rfl
  · obtain ⟨a, s, rfl, sd, g, q⟩ := h
    refine ⟨_, (pss_one (ps_ret (pe_kn h_hangs_with hr (pa_cons (pv 0) (pa_cons (pe_fld (pv 0) rfl) (pa_cons (pe_kn h_hooked_lines hr (pa_cons (pv 0) pa_nil)) pa_nil)))))), ?_⟩
    rw [← hangs_now] at q
    obtain ⟨dx, lr, ll, sd0⟩ := id sd
    refine s_ret (ev_ep (ep_callP (Φ := fun vs H1 => ∃ b, vs = [.ref a, .ref lr, .ref b] ∧ Rows H1 b ((s.lines.filter Ln.on_).map lnV)) (epa_ev (ev_var rfl) (epa_ev (ev_rooms T sd0 (ev_var rfl)) (epa_one (φ := LinesV (s.lines.filter Ln.on_)) (ep_call (ea_cons (ev_var rfl) ea_nil) (u_hooked_lines sd (Nat.le_trans g.ln (by decide)))) fun x H1 e1 ⟨b, hb, hl⟩ => ⟨b, by rw [hb], hl⟩))) fun vs H1 e1 ⟨b, hv, hl⟩ => ?_)) q
    subst hv
    intro H2 e2 Q q2
    exact u_hangs_with (sd.ex e1) g (sd0.rooms.ex e1) g.rms hl (g.lns List.filter_sublist) H2 e2 Q fun H3 e3 => q2 _ H3 e3 rfl
/-! ## pulls_now -/
def sp_pulls_now (K : PySem.W.Frag) : Sp := fun vs H Q _ => ∃ (a : Addr) (s : Sd), vs = [.ref a] ∧ SdAt K H a s ∧ Good s ∧ RetP (NewL H (natV s.w.pulls)) H Q
theorem u_pulls_now {H : Hp} {a : Addr} {s : Sd} (h : SdAt K H a s) (g : Good s) : SpP (sp_pulls_now K) [.ref a] H (NewL H (natV s.w.pulls)) := fun H1 e Q q E => ⟨a, s, rfl, h.ex e, g, fun v H2 e2 ⟨b, h1, h2, h3⟩ => q v H2 e2 ⟨b, h1, fresh_back e h2, h3⟩⟩
theorem k_pulls_now (T : Facts K mg) (h_level_pulls : Kn P w K mg base "level_pulls" 2 ["loads", "left", "moment"] (sp_level_pulls K)) (h_hooked_loads : Kn P w K mg base "hooked_loads" 2 ["stand"] (sp_hooked_loads K)) (h_left_of : Kn P w K mg base "left_of" 3 ["stand"] (sp_left_of K))
    (h_moment_now : Kn P w K mg base "moment_now" 3 ["stand"] (sp_moment_now K)) : Kn P w K mg base "pulls_now" 4 ["stand"] (sp_pulls_now K) := by
  refine T.raw_pulls_now.kn sc_pulls_now (fun vs H Q E h => ?_) (fun cdv A outer st H vs Q E hr h => ?_)
  · obtain ⟨a, s, rfl, _⟩ := h
    rfl
  · obtain ⟨a, s, rfl, sd, g, q⟩ := h
    refine ⟨_, (pss_one (ps_ret (pe_kn h_level_pulls hr (pa_cons (pe_kn h_hooked_loads hr (pa_cons (pv 0) pa_nil)) (pa_cons (pe_kn h_left_of hr (pa_cons (pv 0) pa_nil)) (pa_cons (pe_kn h_moment_now hr (pa_cons (pv 0) pa_nil)) pa_nil)))))), ?_⟩
    have u := g.used
    refine s_retP (ep_callP (Φ := fun vs H1 => ∃ b, vs = [.ref b, .int s.w.net, .int s.w.moment] ∧ Loads H1 b s.w.used) (epa_cons (φ := LoadsV s.w.used) (ep_call (vs := [.ref a]) (ea_cons (ev_var rfl) ea_nil) (u_hooked_loads sd g)) fun x H1 e1 ⟨b, hb, hl⟩ => ?_) fun vs H1 e1 ⟨b, hv, hl⟩ => ?_) q
    · have sd1 := sd.ex e1
      exact epa_ev (ev_kall (vs := [.ref a]) (ea_cons (ev_var rfl) ea_nil) (u_left_of sd1 g)) (epa_ev (ev_kall (vs := [.ref a]) (ea_cons (ev_var rfl) ea_nil) (u_moment_now sd1 g)) fun H2 e2 Q q => q [] H2 (Ex.refl _) ⟨b, by rw [hb], hl.ex e2⟩)
    · subst hv
      intro H2 e2 Q q2
      exact u_level_pulls hl u.ok u.rises u.len H2 e2 Q fun v H3 e3 ⟨c, h1, h2, h3⟩ => q2 v H3 e3 ⟨c, h1, fresh_back e1 h2, h3⟩
/-! ## a minute -/
theorem sum_snoc {α : Type} (f : α → Nat) {l : List α} {i : Nat} {x : α} (h : l[i]? = some x) : Km420.sum ((l.take (i + 1)).map f) = Km420.sum ((l.take i).map f) + f x := by
  rw [take_snoc h, List.map_append, sum_app]
  show _ + Km420.sum [f x] = _
  rw [sum_cons, sum_nil]
  omega
def sp_pass_minute (K : PySem.W.Frag) : Sp := fun vs H Q _ => ∃ (a : Addr) (s : Sd), vs = [.ref a] ∧ SdAt K H a s ∧ Good s ∧ ∀ H', But a H H' → SdAt K H' a (minuteSd s) → Q .non H'
theorem k_pass_minute (T : Facts K mg) (h_after_minute : Kn P w K mg base "after_minute" 2 ["room"] (sp_after_minute K)) (h_hangs : Kn P w K mg base "hangs" 6 ["stand"] (sp_hangs K)) : Kn P w K mg base "pass_minute" 7 ["stand"] (sp_pass_minute K) := by
  refine T.raw_pass_minute.kn sc_pass_minute (fun vs H Q E h => ?_) (fun cdv A outer st H vs Q E hr h => ?_)
  · obtain ⟨a, s, rfl, _⟩ := h
    rfl
  · obtain ⟨a, s, rfl, ⟨dx, lr, ll, sd⟩, g, q⟩ := h
    refine ⟨_, (pss_cons (ps_set (i := 1) sc_pass_minute.nd rfl (Or.inl rfl) (pe_lst pa_nil))
      (pss_cons (ps_for PassesOwn.never rfl (pi_list (pe_fld (pv 0) rfl)) (pg_name (i := 2) sc_pass_minute.nd rfl (Or.inl rfl))
        (pss_cons (ps_asg (pe_kn h_after_minute hr (pa_cons (pv 2) pa_nil)) (pg_tup rfl (pgs_cons (pg_name (i := 3) sc_pass_minute.nd rfl (Or.inl rfl)) (pgs_cons (pg_name (i := 4) sc_pass_minute.nd rfl (Or.inl rfl)) (pgs_cons (pg_name (i := 5) sc_pass_minute.nd rfl (Or.inl rfl)) pgs_nil)))))
        (pss_cons (ps_expr (pe_bm PySem.F.plainAttrs_list PySem.F.slot_list_append PySem.F.type_list_append mt_append (pv 1) (pa_cons (pv 3) pa_nil)))
        (pss_cons (ps_fld (pv 0) (pe_op op_add (pe_fld (pv 0) rfl) (pv 4)) rfl)
        (pss_one (ps_fld (pv 0) (pe_op op_add (pe_fld (pv 0) rfl) (pv 5)) rfl))))))
      (pss_cons (ps_fld (pv 0) (pv 1) rfl)
      (pss_cons (ps_fld (pv 0) (pe_op op_add (pe_fld (pv 0) rfl) pe_int) rfl)
      (pss_one (ps_if (PW.pt (pw_and (pt_cmpR op_gt (pe_fld (pv 0) rfl) pe_int (nomark _)) (pw_and1 (pt_not (pt_val (pe_kn h_hangs hr (pa_cons (pv 0) pa_nil))))))) (pss_cons (ps_fld (pv 0) pe_int rfl)
        (pss_one (ps_fld (pv 0) (pe_op op_add (pe_fld (pv 0) rfl) pe_int) rfl))) pss_nil)))))), ?_⟩
    refine q_asgL (xs := []) (el_lst ea_nil (Nat.zero_le _)) fun d H0 nd e0 hd => ?_
    have had : a ≠ d := ne_of_none sd.ins nd
    have hrd : lr ≠ d := by
      obtain ⟨vs, h1, _⟩ := sd.rooms
      exact ne_of_none h1 nd
    have hld : ll ≠ d := by
      obtain ⟨vs, h1, _⟩ := sd.lines
      exact ne_of_none h1 nd
    have sd1 := sd.ex e0
    obtain ⟨ts, hp, ht⟩ := sd1.rooms
    have hts := ht.size
    have hlr : lr ≠ a := sd.ner
    have hgr := g.rn
    refine q_forL (xs := ts) (ev_rooms T sd1 (ev_var rfl)) (sq_of hp) (fun i σ' H' => ∃ y2 y3 y4 y5 acc, σ' = [some (.ref a), some (.ref d), y2, y3, y4, y5] ∧ (But a H H' ∧ H' lr = some (.lst ts) ∧ Tups H' ts (s.rooms.map rmV)) ∧ (H' d = some (.lst acc) ∧ Tups H' acc ((s.rooms.take i).map fun (r : Rm) => rmV r.minute)) ∧
        SdIs K H' a dx lr ll { s with leaked := s.leaked + Km420.sum ((s.rooms.take i).map Km420.Room.comes), pumped := s.pumped + Km420.sum ((s.rooms.take i).map Km420.Room.goes) })
      (fun H1 e1 => ⟨none, none, none, none, [], rfl, ⟨Ex.but (e0.trans e1), e1 _ _ hp, ht.ex e1⟩, ⟨e1 _ _ hd, Tups.nil⟩, sd1.ex e1⟩) (fun i σ' H' _ p => ?_) (fun i x σ' H' hx p => ?_) (fun σ' H' p => ?_)
    · obtain ⟨y2, y3, y4, y5, acc, rfl, ⟨_, h2, _⟩, _⟩ := p
      exact sq_of h2
    · obtain ⟨y2, y3, y4, y5, acc, rfl, ⟨bt, h2, h3⟩, ⟨h4, h5⟩, sy⟩ := p
      obtain ⟨r, hr, hv⟩ := h3.of hx
      have hi : i < s.rooms.length := (List.getElem?_eq_some_iff.mp hr).1
      have rk := g.rooms r (List.mem_of_getElem? hr)
      refine ep_call (vs := [x]) (φ := AfterAt r) (H := H') (ea_cons (ev_var rfl) ea_nil) (u_after_minute hv rk.water) H' (Ex.refl _) _ fun v H1 e1 ⟨z, hz, hv1⟩ => ?_
      refine g_three hv1 _ ?_
      refine q_app (xs := acc) (l := d) (e1 _ _ h4) (ev_var rfl) (ev_var rfl) (by have := h5.size; rw [List.length_take] at this; omega) fun H2 e2 => ?_
      have e12 := e1.trans e2
      have hd2 := e12 _ _ h4
      have sy2 := (sy.ex e12).other (ys := acc ++ [z]) hd2 hrd.symm hld.symm
      have hacc : Tups (upd H2 d (.lst (acc ++ [z]))) (acc ++ [z]) ((s.rooms.take (i + 1)).map fun (r : Rm) => rmV r.minute) := by
        rw [take_snoc hr, List.map_append]
        exact ((h5.ex e12).snoc (hz.ex e2)).keep (tups_upd hd2)
      have bt2 : But a H (upd H2 d (.lst (acc ++ [z]))) := fun b o hb hn => by
        rw [upd_ne (ne_of_none hb nd)]
        exact e12 _ _ (bt b o hb hn)
      have ht2 : Tups (upd H2 d (.lst (acc ++ [z]))) ts (s.rooms.map rmV) := (h3.ex e12).keep (tups_upd hd2)
      have hl2 : (upd H2 d (.lst (acc ++ [z]))) lr = some (.lst ts) := by
        rw [upd_ne hrd]
        exact e12 _ _ h2
      refine q_sd T sy2 (y := .int ((s.leaked + Km420.sum ((s.rooms.take (i + 1)).map Km420.Room.comes) : Nat) : Int)) (ev_is (ev_op (ev_leaked T sy2 (ev_var rfl)) (ev_var rfl) rv_I0) (congrArg V.int ?_)) (ev_var rfl) T.na_Stand_leaked _ putF_leaked rfl rfl fun H3 b3 sy3 => ?_
      · have q1 := sum_snoc Km420.Room.comes hr
        show ((s.leaked + Km420.sum ((s.rooms.take i).map Km420.Room.comes) : Nat) : Int) + (r.comes : Nat) = _
        omega
      · refine s_sd T sy3 (y := .int ((s.pumped + Km420.sum ((s.rooms.take (i + 1)).map Km420.Room.goes) : Nat) : Int)) (ev_is (ev_op (ev_pumped T sy3 (ev_var rfl)) (ev_var rfl) rv_I0) (congrArg V.int ?_)) (ev_var rfl) T.na_Stand_pumped _ putF_pumped rfl rfl fun H4 b4 sy4 => ?_
        · have q1 := sum_snoc Km420.Room.goes hr
          show ((s.pumped + Km420.sum ((s.rooms.take i).map Km420.Room.goes) : Nat) : Int) + (r.goes : Nat) = _
          omega
        · have b34 := b3.trans b4
          have kt : ∀ b ys, (upd H2 d (.lst (acc ++ [z]))) b = some (.tup ys) → H4 b = some (.tup ys) := fun b ys hb => b34 b _ hb (ne_of hb sy2.ins fun z => nomatch z)
          refine ⟨_, _, _, _, acc ++ [z], rfl, ⟨bt2.trans b34, b34 _ _ hl2 hlr, ht2.keep kt⟩, ⟨b34 _ _ upd_same had.symm, hacc.keep kt⟩, sy4⟩
    · obtain ⟨y2, y3, y4, y5, acc, rfl, ⟨bt, h2, h3⟩, ⟨h4, h5⟩, sy⟩ := p
      rw [hts, List.take_length] at h5 sy
      refine q_sdR2 T sy (s.rooms.map Km420.Room.minute) (ev_var rfl) ⟨acc, h4, by rw [List.map_map]; exact h5⟩ hld.symm (ev_var rfl) fun H1 b1 sy1 => ?_
      refine q_sd T sy1 (y := .int ((s.minute + 1 : Nat) : Int)) (ev_is (ev_op (ev_minute T sy1 (ev_var rfl)) ev_c rv_I0) (congrArg V.int (by show (s.minute : Int) + 1 = _; omega))) (ev_var rfl) T.na_Stand_minute _ putF_minute rfl rfl fun H2 b2 sy2 => ?_
      have sy3 : SdIs K H2 a dx d ll (waterOn s) := sy2
      have bt2 := (bt.trans b1).trans b2
      have eh : minuteSd s = if (waterOn s).height ≠ 0 ∧ (waterOn s).w.can = false then { waterOn s with height := 0, drops := (waterOn s).drops + 1 } else waterOn s := rfl
      refine s_when (et_and (a := decide ((0 : Int) < ((waterOn s).height : Nat))) (b := !(waterOn s).w.can) (et_test (ev_op (ev_height T sy3 (ev_var rfl)) ev_c rv_I0)) fun _ => et_not (et_B (ev_kall (ea_cons (ev_var rfl) ea_nil) (u_hangs ⟨dx, d, ll, sy3⟩ g.waterOn)))) (fun c H3 e3 => ?_) (fun c H3 e3 => ?_)
      · rw [Bool.and_eq_true, decide_eq_true_iff] at c
        have c1 : (waterOn s).height ≠ 0 ∧ (waterOn s).w.can = false := ⟨by omega, by
          have := c.2
          cases h : (waterOn s).w.can with
          | false => rfl
          | true => rw [h] at this; cases this⟩
        rw [if_pos c1] at eh
        refine q_sd T (sy3.ex e3) (y := .int ((0 : Nat) : Int)) ev_c (ev_var rfl) T.na_Stand_height _ putF_height rfl rfl fun H4 b4 sy4 => ?_
        refine s_sd T sy4 (y := .int (((waterOn s).drops + 1 : Nat) : Int)) (ev_is (ev_op (ev_drops T sy4 (ev_var rfl)) ev_c rv_I0) (congrArg V.int (by show ((waterOn s).drops : Int) + 1 = _; omega))) (ev_var rfl) T.na_Stand_drops _ putF_drops rfl rfl fun H5 b5 sy5 => ?_
        refine q H5 (((bt2.on e3).trans b4).trans b5) ⟨dx, d, ll, ?_⟩
        rw [eh]
        exact sy5
      · have c1 : ¬ ((waterOn s).height ≠ 0 ∧ (waterOn s).w.can = false) := fun ⟨z1, z2⟩ => by
          rw [z2, decide_eq_true (show (0 : Int) < ((waterOn s).height : Nat) by omega)] at c
          cases c
        rw [if_neg c1] at eh
        refine q H3 (bt2.on e3) ⟨dx, d, ll, ?_⟩
        rw [eh]
        exact sy3.ex e3
end
end Wr
/-! ### part: G -/
set_option Elab.async false
set_option linter.all false
set_option maxRecDepth 100000
set_option maxHeartbeats 4000000
/-! # The walk, seventh part: changes -/
namespace Wr
open PySem PySem.Spec PyProof.Rows L2 Evl
/-! the evaluation of what hangs on nothing but what is known -/
local macro_rules | `(tactic| walk_at "cm") => `(tactic| first | exact Or.inl ⟨by decide, by decide⟩ | exact ⟨by decide, by decide⟩ | exact Or.inr ⟨by decide, by decide⟩ | exact Or.inl ⟨by omega, by omega⟩ | exact Or.inr ⟨by omega, by omega⟩ | exact ⟨by omega, by omega⟩ | exact ⟨by omega, by omega, by omega⟩)
local macro_rules | `(tactic| walk_at "at") => `(tactic| first | rfl | assumption)
local macro_rules | `(tactic| walk_at "rv") => `(tactic| first | exact rv_I0 | exact rv_eqI | exact rv_neI | exact rv_ixT (st_of (by assumption)) (by walk_at "at") | exact rv_ixT (by assumption) (by walk_at "at") | exact rv_ixL (sq_of (by assumption)) (by walk_at "at") | exact rv_ixL (by assumption) (by walk_at "at") | (apply rv_I; walk_at "cm"))
local macro_rules | `(tactic| walk_at "ea") => `(tactic| first | exact ea_nil | (apply ea_cons; walk_at "ev"; walk_at "ea"))
local macro_rules | `(tactic| walk_at "rc") => `(tactic| first | exact rc_min2 | exact rc_max2 | exact rc_min3 | exact rc_int | exact rc_len (sq_of (by assumption)) | exact rc_len (by assumption))
local macro_rules | `(tactic| walk_at "ev") => `(tactic| first | exact ev_c | exact ev_var rfl | assumption | (apply ev_op; walk_at "ev"; walk_at "ev"; walk_at "rv") | (apply ev_un; walk_at "ev"; exact ru_neg) | (apply ev_cb; walk_at "ea"; walk_at "rc"))
section
variable {P : Program} {w : World} {K : PySem.W.Frag} {mg : Str → Option Value} {base : Heap}
/-! ## words for what follows -/
section
variable {σ : L2.St} {H : Hp} {te tl ta tb : TE} {D : Ends} {tz : TS} {v x : V} {φ : V → Hp → Prop}
/-- numbers handed over in a list, unpacked -/
theorem g_unl2 {n : Addr} {x y : V} {i j : Nat} (h : H n = some (.lst [x, y])) (Q : L2.St → Hp → Prop) (q : Q ((σ.set i (some x)).set j (some y)) H) : gUnl K 2 (gCons (gName i) (gCons (gName j) gNil)) (.ref n) σ H Q := ⟨n, [x, y], rfl, sq_of h, rfl, x, [y], rfl, y, [], rfl, rfl, q⟩
theorem g_unl3 {n : Addr} {x y z : V} {i j k : Nat} (h : H n = some (.lst [x, y, z])) (Q : L2.St → Hp → Prop) (q : Q (((σ.set i (some x)).set j (some y)).set k (some z)) H) : gUnl K 3 (gCons (gName i) (gCons (gName j) (gCons (gName k) gNil))) (.ref n) σ H Q := ⟨n, [x, y, z], rfl, sq_of h, rfl, x, [y, z], rfl, y, [z], rfl, z, [], rfl, rfl, q⟩
theorem q_asg3 {x y z : V} {i j k : Nat} (h : Ev te σ H v) (hv : TupAt [x, y, z] v H) (q : ∀ H1, Ex H H1 → tz D (((σ.set i (some x)).set j (some y)).set k (some z)) H1) : tSeq (tAsg te (gTup K 3 (gCons (gName i) (gCons (gName j) (gCons (gName k) gNil))))) tz D σ H := h H (Ex.refl H) _ fun H1 e => g_three (hv.ex e) _ (q H1 e)
/-- a list put behind another -/
theorem ep_cat {l : Addr} {xs : List V} {ψ : List V → Hp → Prop} (ha : Ev ta σ H (.ref l)) (hl : H l = some (.lst xs)) (hb : EvP tb σ H fun v H' => ∃ zs b, ψ zs H' ∧ v = .ref b ∧ H' b = some (.lst zs)) (sz : ∀ zs H', ψ zs H' → xs.length + zs.length ≤ 100000) (m : ∀ zs H1 H2, Ex H1 H2 → ψ zs H1 → ψ zs H2) :
    EvP (tOp rCat ta tb) σ H (fun v H' => ∃ zs, ψ zs H' ∧ NewL H (xs ++ zs) v H') := fun H1 e Q q => ha H1 e _ fun H2 e2 => hb H2 (e.trans e2) _ fun v H3 e3 ⟨zs, b, h1, hv, h2⟩ => by
  subst hv
  exact ⟨l, b, xs, zs, rfl, rfl, e3 _ _ (e2 _ _ (e _ _ hl)), h2, sz_of (sz zs H3 h1), fun p np => q _ _ ((e2.trans e3).trans (Ex.new np)) ⟨zs, m _ _ _ (Ex.new np) h1, p, rfl, fresh_back ((e.trans e2).trans e3) np, upd_same⟩⟩
/-- xs[j] = v where v is told by what holds of it -/
theorem s_setLP {l : Addr} {xs : List V} {j : Nat} (hl : H l = some (.lst xs)) (h : EvP te σ H φ) (m : ∀ v H1 H2, Ex H1 H2 → φ v H1 → φ v H2) (ho : Ev ta σ H (.ref l)) (hi : Ev tb σ H (.int (j : Int))) (hj : j < xs.length) (k : ∀ v H1, Ex H H1 → φ v H1 → D.nx σ (upd H1 l (.lst (xs.set j v)))) :
    tAsg te (gSub ta tb rSetL) D σ H := h H (Ex.refl H) _ fun v H1 e1 p => ho H1 e1 _ fun H2 e2 => hi H2 (e1.trans e2) _ fun H3 e3 =>
  ⟨l, xs, (j : Int), j, rfl, rfl, ((e1.trans e2).trans e3) l _ hl, ixN_nat hj, k v H3 ((e1.trans e2).trans e3) (m _ _ _ (e2.trans e3) p)⟩
theorem q_setLP {l : Addr} {xs : List V} {j : Nat} (hl : H l = some (.lst xs)) (h : EvP te σ H φ) (m : ∀ v H1 H2, Ex H1 H2 → φ v H1 → φ v H2) (ho : Ev ta σ H (.ref l)) (hi : Ev tb σ H (.int (j : Int))) (hj : j < xs.length) (k : ∀ v H1, Ex H H1 → φ v H1 → tz D σ (upd H1 l (.lst (xs.set j v)))) :
    tSeq (tAsg te (gSub ta tb rSetL)) tz D σ H := s_setLP (D := { D with nx := tz D }) hl h m ho hi hj k
theorem tupAt_ex {xs : List V} : ∀ v H1 H2, Ex H1 H2 → TupAt xs v H1 → TupAt xs v H2 := fun v H1 H2 e h => h.ex e
theorem ev_lenP {n : Nat} (h : EvP te σ H fun v H' => ∃ q vs, v = .ref q ∧ H' q = some (.lst vs) ∧ vs.length = n) : Ev (tCB (rLenS K) (tCons te tNil)) σ H (.int (n : Int)) := fun H1 e Q q =>
  h H1 e _ fun v H2 e2 ⟨p, vs, hv, h1, h2⟩ => ⟨p, vs, by rw [hv], .inl (sq_of h1), by rw [h2]; exact q H2 e2⟩
theorem ev_len2 {p : Addr} {xs : List V} (ha : Ev te σ H (.ref p)) (h : H p = some (.lst xs)) : Ev (tCB (rLenS K) (tCons te tNil)) σ H (.int (xs.length : Int)) := ev_len ha (sq_of h)
/-- what's found and the state behind it -/
theorem ep_found {ta : TA} {zs : List Int} (h : EvA ta σ H (zs.map V.int)) (hz : zs.length ≤ 100000) (hl : Ev tl σ H x) : EvP (tTup (tCons (tLst ta) (tCons tl tNil))) σ H (fun v H' => ∃ f, TupAt [.ref f, x] v H' ∧ H' f = some (.lst (zs.map V.int))) :=
  (ep_tupP (Φ := fun vs H1 => ∃ f, vs = [.ref f, x] ∧ H1 f = some (.lst (zs.map V.int))) (epa_cons (φ := NewL H (zs.map V.int)) (ep_newL (el_lst h (by rw [List.length_map]; exact hz))) fun v H1 e1 ⟨f, hv, _, hf⟩ => epa_ev (hl.mono e1) fun H2 e2 Q q => q [] H2 (Ex.refl _) ⟨f, by rw [hv], e2 _ _ hf⟩)
    (fun vs H1 ⟨f, hv, _⟩ => by rw [hv]; exact Nat.le_of_ble_eq_true rfl) (fun vs H1 H2 e ⟨f, h1, h2⟩ => ⟨f, h1, e _ _ h2⟩)).imp fun v H2 e2 ⟨vs, ⟨f, h1, h2⟩, h3⟩ => ⟨f, by rw [← h1]; exact h3, h2⟩
end
/-- what a change hands back -/
def ChV (K : PySem.W.Frag) (r : List Int × Option Sd) : V → Hp → Prop := fun v H => ∃ f x, TupAt [.ref f, x] v H ∧ H f = some (.lst (r.1.map V.int)) ∧ match r.2 with
  | none => x = .non
  | some t => ∃ b, x = .ref b ∧ SdAt K H b t
theorem ChV.ex {r : List Int × Option Sd} {v : V} {H H' : Hp} (h : ChV K r v H) (e : Ex H H') : ChV K r v H' := by
  obtain ⟨f, x, h1, h2, h3⟩ := h
  refine ⟨f, x, h1.ex e, e _ _ h2, ?_⟩
  cases h4 : r.2 with
  | none =>
    rw [h4] at h3
    exact h3
  | some t =>
    rw [h4] at h3
    obtain ⟨b, h5, h6⟩ := h3
    exact ⟨b, h5, h6.ex e⟩
/-! ## is_place, is_within, refused -/
def sp_is_place (K : PySem.W.Frag) : Sp := fun vs H Q _ => ∃ a : Int, vs = [.int a] ∧ RetV (.bl (Km420.okAt a)) H Q
theorem u_is_place {H : Hp} {a : Int} : SpV (sp_is_place K) [.int a] H (.bl (Km420.okAt a)) := fun H1 e Q q E => ⟨a, rfl, q⟩
theorem k_is_place (T : Facts K mg) : Kn P w K mg base "is_place" 1 ["place"] (sp_is_place K) := by
  refine T.raw_is_place.kn sc_is_place (fun vs H Q E h => ?_) (fun cdv A outer st H vs Q E hr h => ?_)
  · obtain ⟨a, rfl, _⟩ := h
    rfl
  · obtain ⟨a, rfl, q⟩ := h
    refine ⟨_, (pss_one (ps_ret (pe_and (pe_cmpR op_le (pe_un un_neg (pe_gi T.g_FARTHEST)) (pv 0) (nomark _)) (pe_one (pe_cmpR op_le (pv 0) (pe_gi T.g_FARTHEST) (nomark _)))))), ?_⟩
    exact s_ret (ev_andV (a := decide (-5000 ≤ a)) (b := decide (a ≤ 5000)) (by walk_at "ev") fun _ => by walk_at "ev") q
def inB (n lo hi : Int) : Bool := decide (lo ≤ n) && decide (n ≤ hi)
def sp_is_within (K : PySem.W.Frag) : Sp := fun vs H Q _ => ∃ n lo hi : Int, vs = [.int n, .int lo, .int hi] ∧ RetV (.bl (inB n lo hi)) H Q
theorem u_is_within {H : Hp} {n lo hi : Int} : SpV (sp_is_within K) [.int n, .int lo, .int hi] H (.bl (inB n lo hi)) := fun H1 e Q q E => ⟨n, lo, hi, rfl, q⟩
theorem k_is_within (T : Facts K mg) : Kn P w K mg base "is_within" 1 ["number", "least", "most"] (sp_is_within K) := by
  refine T.raw_is_within.kn sc_is_within (fun vs H Q E h => ?_) (fun cdv A outer st H vs Q E hr h => ?_)
  · obtain ⟨n, lo, hi, rfl, _⟩ := h
    rfl
  · obtain ⟨n, lo, hi, rfl, q⟩ := h
    refine ⟨_, (pss_one (ps_ret (pe_and (pe_cmpR op_le (pv 1) (pv 0) (nomark _)) (pe_one (pe_cmpR op_le (pv 0) (pv 2) (nomark _)))))), ?_⟩
    exact s_ret (ev_andV (a := decide (lo ≤ n)) (b := decide (n ≤ hi)) (by walk_at "ev") fun _ => by walk_at "ev") q
def sp_refused (K : PySem.W.Frag) : Sp := fun vs H Q _ => ∃ n : Int, vs = [.int n] ∧ RetP (ChV K ([n], none)) H Q
theorem u_refused {H : Hp} {n : Int} : SpP (sp_refused K) [.int n] H (ChV K ([n], none)) := fun H1 e Q q E => ⟨n, rfl, q⟩
theorem k_refused (T : Facts K mg) : Kn P w K mg base "refused" 1 ["number"] (sp_refused K) := by
  refine T.raw_refused.kn sc_refused (fun vs H Q E h => ?_) (fun cdv A outer st H vs Q E hr h => ?_)
  · obtain ⟨n, rfl, _⟩ := h
    rfl
  · obtain ⟨n, rfl, q⟩ := h
    refine ⟨_, (pss_one (ps_ret (pe_tup (pa_cons (pe_lst (pa_cons (pv 0) pa_nil)) (pa_cons pe_non pa_nil))))), ?_⟩
    exact s_retP (ep_found (zs := [n]) (ea_cons (ev_var rfl) ea_nil) (Nat.le_of_ble_eq_true rfl) ev_c) fun v H1 e1 ⟨f, h1, h2⟩ => q v H1 e1 ⟨f, .non, h1, h2, rfl⟩
theorem ep_ref {σ : L2.St} {H : Hp} {te : TE} {n : Int} {r : List Int × Option Sd} (h : Ev te σ H (.int n)) (e : r = ([n], none)) : EvP (tCall (sp_refused K) [] E0 (tCons te tNil)) σ H (ChV K r) := by
  rw [e]
  exact ep_call (ea_cons h ea_nil) u_refused
/-! ## put_room -/
theorem Good.n1 {s : Sd} (g : Good s) : s.rooms.length ≤ 1000 := Nat.le_trans g.rn (by decide)
theorem Good.n2 {s : Sd} (g : Good s) : s.lines.length ≤ 1000 := Nat.le_trans g.ln (by decide)
def sp_put_room (K : PySem.W.Frag) : Sp := fun vs H Q _ => ∃ (a n : Addr) (s : Sd) (m : Nat) (p : Int) (k : Nat), vs = [.ref a, .ref n] ∧ SdAt K H a s ∧ Good s ∧ H n = some (.lst [.int m, .int p, .int k]) ∧ RetP (ChV K (chRoom s m p k)) H Q
theorem cond_room (m : Nat) (p : Int) (k : Nat) : (!(inB m 1 200000) || (!(Km420.okAt p) || !(inB k 0 5000))) = true ↔ (m = 0 ∨ 200000 < m ∨ Km420.okAt p = false ∨ 5000 < k) := by
  unfold inB
  cases Km420.okAt p <;> simp <;> omega
theorem k_put_room (T : Facts K mg) (h_is_within : Kn P w K mg base "is_within" 1 ["number", "least", "most"] (sp_is_within K)) (h_is_place : Kn P w K mg base "is_place" 1 ["place"] (sp_is_place K)) (h_refused : Kn P w K mg base "refused" 1 ["number"] (sp_refused K))
    (h_twin : Kn P w K mg base "twin" 3 ["stand"] (sp_twin K)) (h_new_room : Kn P w K mg base "new_room" 1 ["most", "place", "leak"] (sp_new_room K)) : Kn P w K mg base "put_room" 4 ["stand", "numbers"] (sp_put_room K) := by
  refine T.raw_put_room.kn sc_put_room (fun vs H Q E h => ?_) (fun cdv A outer st H vs Q E hr h => ?_)
  · obtain ⟨a, n, s, m, p, k, rfl, _⟩ := h
    rfl
  · obtain ⟨a, n, s, m, p, k, rfl, sd, g, hn, q⟩ := h
    refine ⟨_, (pss_cons (ps_asg (pv 1) (pg_unl rfl (pgs_cons (pg_name (i := 2) sc_put_room.nd rfl (Or.inl rfl)) (pgs_cons (pg_name (i := 3) sc_put_room.nd rfl (Or.inl rfl)) (pgs_cons (pg_name (i := 4) sc_put_room.nd rfl (Or.inl rfl)) pgs_nil)))))
      (pss_cons (ps_if (PW.pt (pw_or (pt_not (pt_val (pe_kn h_is_within hr (pa_cons (pv 2) (pa_cons pe_int (pa_cons pe_int pa_nil)))))) (pw_or (pt_not (pt_val (pe_kn h_is_place hr (pa_cons (pv 3) pa_nil)))) (pw_or1 (pt_not (pt_val (pe_kn h_is_within hr (pa_cons (pv 4) (pa_cons pe_int (pa_cons pe_int pa_nil)))))))))) (pss_one (ps_ret (pe_kn h_refused hr (pa_cons (pe_un un_neg pe_int) pa_nil)))) pss_nil)
      (pss_cons (ps_if (pt_cmpR op_gt (pe_fld (pv 0) rfl) pe_int (nomark _)) (pss_one (ps_ret (pe_kn h_refused hr (pa_cons (pe_un un_neg pe_int) pa_nil)))) pss_nil)
      (pss_cons (ps_if (pt_cmpR op_eq (pe_callB call_len_seq (by rfl) T.n_len bt_len (pa_cons (pe_fld (pv 0) rfl) pa_nil)) (pe_gi T.g_MOST_ROOMS) (nomark _)) (pss_one (ps_ret (pe_kn h_refused hr (pa_cons (pe_un un_neg pe_int) pa_nil)))) pss_nil)
      (pss_cons (ps_set (i := 5) sc_put_room.nd rfl (Or.inl rfl) (pe_kn h_twin hr (pa_cons (pv 0) pa_nil)))
      (pss_cons (ps_fld (pv 5) (pe_op op_cat (pe_fld (pv 0) rfl) (pe_lst (pa_cons (pe_kn h_new_room hr (pa_cons (pv 2) (pa_cons (pv 3) (pa_cons (pv 4) pa_nil)))) pa_nil))) rfl)
      (pss_one (ps_ret (pe_tup (pa_cons (pe_lst (pa_cons (pe_callB call_len_seq (by rfl) T.n_len bt_len (pa_cons (pe_fld (pv 0) rfl) pa_nil)) pa_nil)) (pa_cons (pv 5) pa_nil))))))))))), ?_⟩
    refine ⟨_, rfl, g_unl3 hn _ ?_⟩
    have w1 : ∀ {x : V} {te1 te2 te3 : TE} {σ : L2.St} {H : Hp} {i j l : Int}, Ev te1 σ H (.int i) → Ev te2 σ H (.int j) → Ev te3 σ H (.int l) → EvT (tNot (tB (tCall (sp_is_within K) [] E0 (tCons te1 (tCons te2 (tCons te3 tNil)))))) σ H (!(inB i j l)) := fun h1 h2 h3 => et_not (et_B (ev_kall (ea_cons h1 (ea_cons h2 (ea_cons h3 ea_nil))) u_is_within))
    refine q_when (et_or (w1 (x := .non) (ev_var rfl) ev_c ev_c) fun _ => et_or (et_not (et_B (ev_kall (ea_cons (ev_var rfl) ea_nil) u_is_place))) fun _ => w1 (x := .non) (ev_var rfl) ev_c ev_c) (fun c H1 e1 => ?_) (fun c H1 e1 => ?_)
    · have c1 := (cond_room m p k).mp c
      exact s_retP (ep_ref (by walk_at "ev") (if_pos c1)) (q.on e1)
    · have c1 : ¬ (m = 0 ∨ 200000 < m ∨ Km420.okAt p = false ∨ 5000 < k) := fun z => by
        rw [(cond_room m p k).mpr z] at c
        cases c
      obtain ⟨dx, lr, ll, sd1⟩ := sd.ex e1
      refine q_when (et_test (ev_op (ev_height T sd1 (ev_var rfl)) ev_c rv_I0)) (fun c2 H2 e2 => ?_) (fun c2 H2 e2 => ?_)
      · have c3 := of_decide_eq_true c2
        exact s_retP (ep_ref (by walk_at "ev") (by unfold chRoom; rw [if_neg c1, if_pos (by omega)])) (q.on (e1.trans e2))
      · have c3 := of_decide_eq_false c2
        have sd2 := sd1.ex e2
        obtain ⟨ts, hp, ht⟩ := sd2.rooms
        have hts := ht.size
        have grn := g.rn
        refine q_when (et_test (ev_op (ev_len2 (ev_rooms T sd2 (ev_var rfl)) hp) ev_c rv_eqI)) (fun c4 H3 e3 => ?_) (fun c4 H3 e3 => ?_)
        · have c5 := of_decide_eq_true c4
          exact s_retP (ep_ref (by walk_at "ev") (by unfold chRoom; rw [if_neg c1, if_neg (by omega), if_pos (by omega)])) (q.on ((e1.trans e2).trans e3))
        · have c5 := of_decide_eq_false c4
          have e13 := (e1.trans e2).trans e3
          have er : chRoom s m p k = ([(s.rooms.length : Int)], some { s with rooms := s.rooms ++ [⟨m, p, k, false, 0, m⟩] }) := by
            unfold chRoom
            rw [if_neg c1, if_neg (by omega), if_neg (by omega)]
          rw [er] at q
          have sd3 := sd2.ex e3
          refine q_asgP (ep_call (ea_cons (ev_var rfl) ea_nil) (u_twin ⟨dx, lr, ll, sd3⟩ g.n1 g.n2)) fun v H4 e4 ⟨x, dy, mr, ml, hv, nx, n1, n2, sy⟩ => ?_
          subst hv
          have sd4 := sd3.ex e4
          have hp4 := e4 _ _ (e3 _ _ hp)
          refine q_sdR T sy (s.rooms ++ [⟨m, p, k, false, 0, m⟩]) ((ep_cat (ψ := fun zs H' => ∃ v, zs = [v] ∧ TupAt (rmV ⟨m, p, k, false, 0, m⟩) v H') (ev_rooms T sd4 (ev_var rfl)) hp4 ((ep_lstP (Φ := fun vs H' => ∃ v, vs = [v] ∧ TupAt (rmV ⟨m, p, k, false, 0, m⟩) v H') (epa_one (φ := TupAt (rmV ⟨m, p, k, false, 0, m⟩)) (ep_call (ea_cons (ev_var rfl) (ea_cons (ev_var rfl) (ea_cons (ev_var rfl) ea_nil))) u_new_room) fun v H5 e5 h => ⟨v, rfl, h⟩)
            (fun vs H1 ⟨v, hv, _⟩ => by rw [hv]; exact Nat.le_of_ble_eq_true rfl) (fun vs H1 H2 e ⟨v, hv, h⟩ => ⟨v, hv, h.ex e⟩)).imp fun v H5 e5 ⟨vs, hv, b, h1, h2, h3⟩ => ⟨vs, b, hv, h1, h3⟩)
            (fun zs H' ⟨v, hz, _⟩ => by rw [hz]; show ts.length + 1 ≤ 100000; omega) (fun zs H1 H2 e ⟨v, hz, h⟩ => ⟨v, hz, h.ex e⟩)).imp fun v H5 e5 ⟨zs, ⟨u, hz, hu⟩, b, h1, h2, h3⟩ => ⟨b, h1, h2, ts ++ zs, h3, ?_⟩) (ev_var rfl) fun H5 l5 b5 nl5 sy5 => ?_
          · rw [hz, List.map_append]
            exact ((ht.ex e3).ex e4 |>.ex e5).snoc hu
          · have ex5 : Ex H3 H5 := b5.new e4 nx
            have sd5 := sd3.ex ex5
            have hp5 := ex5 _ _ (e3 _ _ hp)
            refine s_retP (ep_found (zs := [(s.rooms.length : Int)]) (ea_cons (ev_is (ev_len2 (ev_rooms T sd5 (ev_var rfl)) hp5) (congrArg V.int (by omega))) ea_nil) (Nat.le_of_ble_eq_true rfl) (ev_var rfl)) fun v H6 e6 ⟨f, h1, h2⟩ => q v H6 ((e13.trans ex5).trans e6) ⟨f, .ref x, h1, h2, x, rfl, dy, l5, ml, sy5.ex e6⟩
end
end Wr
/-! ### part: H -/
set_option Elab.async false
set_option linter.all false
set_option maxRecDepth 100000
set_option maxHeartbeats 4000000
/-! # The walk, eighth part: changes, further -/
namespace Wr
open PySem PySem.Spec PyProof.Rows L2 Evl
/-! the evaluation of what hangs on nothing but what is known -/
local macro_rules | `(tactic| walk_at "cm") => `(tactic| first | exact Or.inl ⟨by decide, by decide⟩ | exact ⟨by decide, by decide⟩ | exact Or.inr ⟨by decide, by decide⟩ | exact Or.inl ⟨by omega, by omega⟩ | exact Or.inr ⟨by omega, by omega⟩ | exact ⟨by omega, by omega⟩ | exact ⟨by omega, by omega, by omega⟩)
local macro_rules | `(tactic| walk_at "at") => `(tactic| first | rfl | assumption)
local macro_rules | `(tactic| walk_at "rv") => `(tactic| first | exact rv_I0 | exact rv_eqI | exact rv_neI | exact rv_ixT (st_of (by assumption)) (by walk_at "at") | exact rv_ixT (by assumption) (by walk_at "at") | exact rv_ixL (sq_of (by assumption)) (by walk_at "at") | exact rv_ixL (by assumption) (by walk_at "at") | (apply rv_I; walk_at "cm"))
local macro_rules | `(tactic| walk_at "ea") => `(tactic| first | exact ea_nil | (apply ea_cons; walk_at "ev"; walk_at "ea"))
local macro_rules | `(tactic| walk_at "rc") => `(tactic| first | exact rc_min2 | exact rc_max2 | exact rc_min3 | exact rc_int | exact rc_len (sq_of (by assumption)) | exact rc_len (by assumption))
local macro_rules | `(tactic| walk_at "ev") => `(tactic| first | exact ev_c | exact ev_var rfl | assumption | (apply ev_op; walk_at "ev"; walk_at "ev"; walk_at "rv") | (apply ev_un; walk_at "ev"; exact ru_neg) | (apply ev_cb; walk_at "ea"; walk_at "rc"))
section
variable {P : Program} {w : World} {K : PySem.W.Frag} {mg : Str → Option Value} {base : Heap}
/-! ## put_line -/
theorem inV_ints (a : Int) (l : List Int) : inV (.int a) (l.map V.int) = l.any fun x => x == a := by
  unfold inV
  rw [List.any_map]
  rfl
theorem all_flat (l : List Int) : (l.map V.int).all flatV = true := by
  rw [List.all_map, List.all_eq_true]
  intro x _
  rfl
def sp_put_line (K : PySem.W.Frag) : Sp := fun vs H Q _ => ∃ (a n : Addr) (s : Sd) (p : Int) (k : Nat), vs = [.ref a, .ref n] ∧ SdAt K H a s ∧ Good s ∧ H n = some (.lst [.int p, .int k]) ∧ RetP (ChV K (chLine s p k)) H Q
theorem cond_line (p : Int) (k : Nat) (b : Bool) : (!(Km420.okAt p) || (!(inB k 1 500000) || b)) = true ↔ (Km420.okAt p = false ∨ k = 0 ∨ 500000 < k ∨ b = true) := by
  unfold inB
  cases Km420.okAt p <;> cases b <;> simp <;> omega
theorem k_put_line (T : Facts K mg) (h_is_within : Kn P w K mg base "is_within" 1 ["number", "least", "most"] (sp_is_within K)) (h_is_place : Kn P w K mg base "is_place" 1 ["place"] (sp_is_place K)) (h_refused : Kn P w K mg base "refused" 1 ["number"] (sp_refused K))
    (h_twin : Kn P w K mg base "twin" 3 ["stand"] (sp_twin K)) : Kn P w K mg base "put_line" 4 ["stand", "numbers"] (sp_put_line K) := by
  refine T.raw_put_line.kn sc_put_line (fun vs H Q E h => ?_) (fun cdv A outer st H vs Q E hr h => ?_)
  · obtain ⟨a, n, s, p, k, rfl, _⟩ := h
    rfl
  · obtain ⟨a, n, s, p, k, rfl, sd, g, hn, q⟩ := h
    refine ⟨_, (pss_cons (ps_asg (pv 1) (pg_unl rfl (pgs_cons (pg_name (i := 2) sc_put_line.nd rfl (Or.inl rfl)) (pgs_cons (pg_name (i := 3) sc_put_line.nd rfl (Or.inl rfl)) pgs_nil))))
      (pss_cons (ps_if (PW.pt (pw_or (pt_not (pt_val (pe_kn h_is_place hr (pa_cons (pv 2) pa_nil)))) (pw_or (pt_not (pt_val (pe_kn h_is_within hr (pa_cons (pv 3) (pa_cons pe_int (pa_cons pe_int pa_nil)))))) (pw_or1 (pt_cmpR op_in_seq (pv 2) (pe_lc (own := [("line", 5)]) (g := (gName 5)) (tt := tYes) (te := (tOp (rIxT K) (tVar 5) (tC (.int 0)))) rfl sc_put_line.nd (pi_list (pe_fld (pv 0) rfl)) (blkOk_by (N := ["stand", "numbers", "place", "kg", "later", "line"]) (sc := defScope s_put_line) (by decide +kernel)) (fun _ _ _ _ _ => (pg_name (i := 5) sc_put_line.nd rfl (Or.inl rfl))) (fun _ _ _ _ _ => pts_nil) (fun _ _ _ _ _ => (pe_ix ix_tup (pv 5) pe_int (fun _ _ => rfl)))) (by rfl)))))) (pss_one (ps_ret (pe_kn h_refused hr (pa_cons (pe_un un_neg pe_int) pa_nil)))) pss_nil)
      (pss_cons (ps_if (pt_cmpR op_eq (pe_callB call_len_seq (by rfl) T.n_len bt_len (pa_cons (pe_fld (pv 0) rfl) pa_nil)) (pe_gi T.g_MOST_LINES_changes) (nomark _)) (pss_one (ps_ret (pe_kn h_refused hr (pa_cons (pe_un un_neg pe_int) pa_nil)))) pss_nil)
      (pss_cons (ps_set (i := 4) sc_put_line.nd rfl (Or.inl rfl) (pe_kn h_twin hr (pa_cons (pv 0) pa_nil)))
      (pss_cons (ps_fld (pv 4) (pe_op op_cat (pe_fld (pv 0) rfl) (pe_lst (pa_cons (pe_tup (pa_cons (pv 2) (pa_cons (pv 3) (pa_cons pe_int pa_nil)))) pa_nil))) rfl)
      (pss_one (ps_ret (pe_tup (pa_cons (pe_lst (pa_cons (pe_callB call_len_seq (by rfl) T.n_len bt_len (pa_cons (pe_fld (pv 0) rfl) pa_nil)) pa_nil)) (pa_cons (pv 4) pa_nil)))))))))), ?_⟩
    refine ⟨_, rfl, g_unl2 hn _ ?_⟩
    obtain ⟨dx, lr, ll, sd1⟩ := sd
    obtain ⟨ts, hp, ht⟩ := sd1.lines
    have hts := ht.size
    have gln := g.ln
    refine q_when (b := !(Km420.okAt p) || (!(inB k 1 500000) || (s.lines.any fun x => x.at_ == p))) (et_or (et_not (et_B (ev_kall (ea_cons (ev_var rfl) ea_nil) u_is_place))) fun _ => et_or (et_not (et_B (ev_kall (ea_cons (ev_var rfl) (ea_cons ev_c (ea_cons ev_c ea_nil))) u_is_within))) fun _ => et_test (ev_is (ev_opL (xs := (s.lines.map fun (x : Ln) => x.at_).map V.int) (ev_var rfl) (el_lcM (xs := ts) _ (by rw [List.length_map, List.length_map, ht.size]) (ev_lines T sd1 (ev_var rfl)) (sq_of hp) (by omega) fun i x y H1 hx hy e => ?_) fun b H1 hb _ => rv_isL (sq_of hb) rfl (all_flat _)) ?_)) (fun c H1 e1 => ?_) (fun c H1 e1 => ?_)
    · obtain ⟨l, hl, hv⟩ := ht.of hx
      rw [List.map_map] at hy
      have ey := map_at hl hy
      subst ey
      have hv1 := hv.ex e
      obtain ⟨t, rfl, ht1⟩ := hv1
      exact turn_name rfl (by walk_at "ev")
    · rw [inV_ints, List.any_map]
      rfl
    · have c1 := (cond_line p k _).mp c
      exact s_retP (ep_ref (by walk_at "ev") (if_pos c1)) (q.on e1)
    · have c1 : ¬ (Km420.okAt p = false ∨ k = 0 ∨ 500000 < k ∨ (s.lines.any fun x => x.at_ == p) = true) := fun z => by
        rw [(cond_line p k _).mpr z] at c
        cases c
      have sd2 := sd1.ex e1
      refine q_when (et_test (ev_op (ev_len2 (ev_lines T sd2 (ev_var rfl)) (e1 _ _ hp)) ev_c rv_eqI)) (fun c4 H3 e3 => ?_) (fun c4 H3 e3 => ?_)
      · have c5 := of_decide_eq_true c4
        exact s_retP (ep_ref (by walk_at "ev") (by unfold chLine; rw [if_neg c1, if_pos (by omega)])) (q.on (e1.trans e3))
      · have c5 := of_decide_eq_false c4
        have e13 := e1.trans e3
        have er : chLine s p k = ([(s.lines.length : Int)], some { s with lines := s.lines ++ [⟨p, k, false⟩] }) := by
          unfold chLine
          rw [if_neg c1, if_neg (by omega)]
        rw [er] at q
        have sd3 := sd2.ex e3
        refine q_asgP (ep_call (ea_cons (ev_var rfl) ea_nil) (u_twin ⟨dx, lr, ll, sd3⟩ g.n1 g.n2)) fun v H4 e4 ⟨x, dy, mr, ml, hv, nx, n1, n2, sy⟩ => ?_
        subst hv
        have sd4 := sd3.ex e4
        have hp4 := e4 _ _ (e13 _ _ hp)
        refine q_sdL T sy (s.lines ++ [⟨p, k, false⟩]) ((ep_cat (ψ := fun zs H' => ∃ v, zs = [v] ∧ TupAt (lnV ⟨p, k, false⟩) v H') (ev_lines T sd4 (ev_var rfl)) hp4 ((ep_lstP (Φ := fun vs H' => ∃ v, vs = [v] ∧ TupAt (lnV ⟨p, k, false⟩) v H') (epa_one (φ := TupAt (lnV ⟨p, k, false⟩)) (ep_tup (ea_cons (ev_var rfl) (ea_cons (ev_var rfl) (ea_cons ev_c ea_nil))) (Nat.le_of_ble_eq_true rfl)) fun v H5 e5 h => ⟨v, rfl, h⟩)
          (fun vs H1 ⟨v, hv, _⟩ => by rw [hv]; exact Nat.le_of_ble_eq_true rfl) (fun vs H1 H2 e ⟨v, hv, h⟩ => ⟨v, hv, h.ex e⟩)).imp fun v H5 e5 ⟨vs, hv, b, h1, h2, h3⟩ => ⟨vs, b, hv, h1, h3⟩)
          (fun zs H' ⟨v, hz, _⟩ => by rw [hz]; show ts.length + 1 ≤ 100000; omega) (fun zs H1 H2 e ⟨v, hz, h⟩ => ⟨v, hz, h.ex e⟩)).imp fun v H5 e5 ⟨zs, ⟨u, hz, hu⟩, b, h1, h2, h3⟩ => ⟨b, h1, h2, ts ++ zs, h3, ?_⟩) (ev_var rfl) fun H5 l5 b5 nl5 sy5 => ?_
        · rw [hz, List.map_append]
          exact ((ht.ex e13).ex e4 |>.ex e5).snoc hu
        · have ex5 : Ex H3 H5 := b5.new e4 nx
          have sd5 := sd3.ex ex5
          have hp5 := ex5 _ _ (e13 _ _ hp)
          refine s_retP (ep_found (zs := [(s.lines.length : Int)]) (ea_cons (ev_is (ev_len2 (ev_lines T sd5 (ev_var rfl)) hp5) (congrArg V.int (by omega))) ea_nil) (Nat.le_of_ble_eq_true rfl) (ev_var rfl)) fun v H6 e6 ⟨f, h1, h2⟩ => q v H6 ((e13.trans ex5).trans e6) ⟨f, .ref x, h1, h2, x, rfl, dy, mr, l5, sy5.ex e6⟩
/-! ## patch -/
theorem ix_k {H : Hp} {σ : L2.St} {ta tb : TE} {p : Addr} {ts : List V} {k : Nat} {v : V} (ha : Ev ta σ H (.ref p)) (hb : Ev tb σ H (.int (k : Int))) (hp : H p = some (.lst ts)) (hv : ts[k]? = some v) : Ev (tOp (rIxL K) ta tb) σ H v := ev_op ha hb (rv_ixL (sq_of hp) (atI_nat hv))
def sp_patch (K : PySem.W.Frag) : Sp := fun vs H Q _ => ∃ (a n : Addr) (s : Sd) (k : Nat), vs = [.ref a, .ref n] ∧ SdAt K H a s ∧ Good s ∧ H n = some (.lst [.int k]) ∧ RetP (ChV K (chPatch s k)) H Q
theorem k_patch (T : Facts K mg) (h_refused : Kn P w K mg base "refused" 1 ["number"] (sp_refused K)) (h_twin : Kn P w K mg base "twin" 3 ["stand"] (sp_twin K)) (h_patched_room : Kn P w K mg base "patched_room" 1 ["room"] (sp_patched_room K)) : Kn P w K mg base "patch" 4 ["stand", "numbers"] (sp_patch K) := by
  refine T.raw_patch.kn sc_patch (fun vs H Q E h => ?_) (fun cdv A outer st H vs Q E hr h => ?_)
  · obtain ⟨a, n, s, k, rfl, _⟩ := h
    rfl
  · obtain ⟨a, n, s, k, rfl, ⟨dx, lr, ll, sd⟩, g, hn, q⟩ := h
    refine ⟨_, (pss_cons (ps_set (i := 2) sc_patch.nd rfl (Or.inl rfl) (pe_ix ix_list (pv 1) pe_int (fun _ _ => rfl)))
      (pss_cons (ps_if (pt_cmpR op_ge (pv 2) (pe_callB call_len_seq (by rfl) T.n_len bt_len (pa_cons (pe_fld (pv 0) rfl) pa_nil)) (nomark _)) (pss_one (ps_ret (pe_kn h_refused hr (pa_cons (pe_un un_neg pe_int) pa_nil)))) pss_nil)
      (pss_cons (ps_set (i := 3) sc_patch.nd rfl (Or.inl rfl) (pe_ix ix_list (pe_fld (pv 0) rfl) (pv 2) (fun _ _ => rfl)))
      (pss_cons (ps_if (pt_cmpR op_eq (pe_ix ix_tup (pv 3) pe_int (fun _ _ => rfl)) pe_int (nomark _)) (pss_one (ps_ret (pe_kn h_refused hr (pa_cons (pe_un un_neg pe_int) pa_nil)))) pss_nil)
      (pss_cons (ps_if (pt_cmpR op_gt (pe_fld (pv 0) rfl) pe_int (nomark _)) (pss_one (ps_ret (pe_kn h_refused hr (pa_cons (pe_un un_neg pe_int) pa_nil)))) pss_nil)
      (pss_cons (ps_set (i := 4) sc_patch.nd rfl (Or.inl rfl) (pe_kn h_twin hr (pa_cons (pv 0) pa_nil)))
      (pss_cons (ps_asg (pe_kn h_patched_room hr (pa_cons (pv 3) pa_nil)) (pg_sub (pe_fld (pv 4) rfl) (pv 2) set_list))
      (pss_one (ps_ret (pe_tup (pa_cons (pe_lst (pa_cons (pe_ix ix_tup (pv 3) pe_int (fun _ _ => rfl)) pa_nil)) (pa_cons (pv 4) pa_nil)))))))))))), ?_⟩
    refine q_asg (v := .int (k : Int)) (by walk_at "ev") fun H1 e1 => ?_
    have sd1 := sd.ex e1
    obtain ⟨ts, hp, ht⟩ := sd1.rooms
    have hts := ht.size
    have gln := g.rn
    refine q_when (et_test (ev_op (ev_var rfl) (ev_len2 (ev_rooms T sd1 (ev_var rfl)) hp) rv_I0)) (fun c H2 e2 => ?_) (fun c H2 e2 => ?_)
    · have c1 := of_decide_eq_true c
      have hk : s.rooms[k]? = none := List.getElem?_eq_none (by omega)
      exact s_retP (ep_ref (by walk_at "ev") (by unfold chPatch; rw [hk])) (q.on (e1.trans e2))
    · have c1 := of_decide_eq_false c
      have hk1 : k < s.rooms.length := by omega
      have hk := List.getElem?_eq_getElem hk1
      generalize s.rooms[k] = r at hk
      obtain ⟨v, hv, hvt⟩ := ht.to hk
      have sd2 := sd1.ex e2
      have hp2 := e2 _ _ hp
      have er : chPatch s k = if r.patched = true then ([-17], none) else if s.height ≠ 0 then ([-16], none) else ([(r.water : Int)], some { s with rooms := s.rooms.set k { r with patched := true } }) := by
        unfold chPatch
        rw [hk]
      refine q_asg (ix_k (ev_rooms T sd2 (ev_var rfl)) (ev_var rfl) hp2 hv) fun H3 e3 => ?_
      have hv3 := (hvt.ex e2).ex e3
      have hv3' := hv3
      obtain ⟨t, rfl, ht3⟩ := hv3'
      refine q_when (et_test (by walk_at "ev")) (fun c2 H4 e4 => ?_) (fun c2 H4 e4 => ?_)
      · have c3 := b01_one.mp (of_decide_eq_true c2)
        rw [if_pos c3] at er
        exact s_retP (ep_ref (by walk_at "ev") er) (q.on (((e1.trans e2).trans e3).trans e4))
      · have c3 : ¬ r.patched = true := fun z => of_decide_eq_false c2 (b01_one.mpr z)
        rw [if_neg c3] at er
        have e14 := ((e1.trans e2).trans e3).trans e4
        have sd4 := sd.ex e14
        refine q_when (et_test (ev_op (ev_height T sd4 (ev_var rfl)) ev_c rv_I0)) (fun c4 H5 e5 => ?_) (fun c4 H5 e5 => ?_)
        · have c5 := of_decide_eq_true c4
          rw [if_pos (by omega)] at er
          exact s_retP (ep_ref (by walk_at "ev") er) (q.on (e14.trans e5))
        · have c5 := of_decide_eq_false c4
          rw [if_neg (by omega)] at er
          rw [er] at q
          have e15 := e14.trans e5
          refine q_asgP (ep_call (ea_cons (ev_var rfl) ea_nil) (u_twin ⟨dx, lr, ll, sd.ex e15⟩ g.n1 g.n2)) fun v H6 e6 ⟨x, dy, mr, ml, hv, nx, n1, n2, sy⟩ => ?_
          subst hv
          obtain ⟨us, hus, hut⟩ := sy.rooms
          have hvt6 : TupAt (rmV r) (.ref t) H6 := ((hv3.ex e4).ex e5).ex e6
          refine q_setLP (j := k) hus (ep_call (ea_cons (ev_var rfl) ea_nil) (u_patched_room hvt6)) tupAt_ex (ev_rooms T sy (ev_var rfl)) (ev_var rfl) (by rw [hut.size]; exact hk1) fun u H7 e7 hu => ?_
          have sy7 := (sy.ex e7).setR (k := k) (e7 _ _ hus) (hut.ex e7) hu
          have ex7 : Ex H5 (upd H7 mr (.lst (us.set k u))) := Ex.mut (e6.trans e7) n1
          have ht7 := ex7 _ _ (e5 _ _ (e4 _ _ ht3))
          exact s_retP (ep_found (zs := [(r.water : Int)]) (ea_cons (by walk_at "ev") ea_nil) (Nat.le_of_ble_eq_true rfl) (ev_var rfl)) fun v H8 e8 ⟨f, h1, h2⟩ => q v H8 ((e15.trans ex7).trans e8) ⟨f, .ref x, h1, h2, x, rfl, dy, mr, ml, sy7.ex e8⟩
/-! ## pump -/
def sp_pump (K : PySem.W.Frag) : Sp := fun vs H Q _ => ∃ (a n : Addr) (s : Sd) (k m : Nat), vs = [.ref a, .ref n] ∧ SdAt K H a s ∧ Good s ∧ H n = some (.lst [.int k, .int m]) ∧ RetP (ChV K (chPump s k m)) H Q
theorem k_pump (T : Facts K mg) (h_refused : Kn P w K mg base "refused" 1 ["number"] (sp_refused K)) (h_twin : Kn P w K mg base "twin" 3 ["stand"] (sp_twin K)) (h_pumped_room : Kn P w K mg base "pumped_room" 1 ["room", "rate"] (sp_pumped_room K)) : Kn P w K mg base "pump" 4 ["stand", "numbers"] (sp_pump K) := by
  refine T.raw_pump.kn sc_pump (fun vs H Q E h => ?_) (fun cdv A outer st H vs Q E hr h => ?_)
  · obtain ⟨a, n, s, k, m, rfl, _⟩ := h
    rfl
  · obtain ⟨a, n, s, k, m, rfl, ⟨dx, lr, ll, sd⟩, g, hn, q⟩ := h
    refine ⟨_, (pss_cons (ps_asg (pv 1) (pg_unl rfl (pgs_cons (pg_name (i := 2) sc_pump.nd rfl (Or.inl rfl)) (pgs_cons (pg_name (i := 3) sc_pump.nd rfl (Or.inl rfl)) pgs_nil))))
      (pss_cons (ps_if (pt_cmpR op_ge (pv 2) (pe_callB call_len_seq (by rfl) T.n_len bt_len (pa_cons (pe_fld (pv 0) rfl) pa_nil)) (nomark _)) (pss_one (ps_ret (pe_kn h_refused hr (pa_cons (pe_un un_neg pe_int) pa_nil)))) pss_nil)
      (pss_cons (ps_if (pt_cmpR op_gt (pv 3) pe_int (nomark _)) (pss_one (ps_ret (pe_kn h_refused hr (pa_cons (pe_un un_neg pe_int) pa_nil)))) pss_nil)
      (pss_cons (ps_set (i := 4) sc_pump.nd rfl (Or.inl rfl) (pe_ix ix_list (pe_fld (pv 0) rfl) (pv 2) (fun _ _ => rfl)))
      (pss_cons (ps_set (i := 5) sc_pump.nd rfl (Or.inl rfl) (pe_kn h_twin hr (pa_cons (pv 0) pa_nil)))
      (pss_cons (ps_asg (pe_kn h_pumped_room hr (pa_cons (pv 4) (pa_cons (pv 3) pa_nil))) (pg_sub (pe_fld (pv 5) rfl) (pv 2) set_list))
      (pss_one (ps_ret (pe_tup (pa_cons (pe_lst (pa_cons (pe_ix ix_tup (pv 4) pe_int (fun _ _ => rfl)) pa_nil)) (pa_cons (pv 5) pa_nil))))))))))), ?_⟩
    refine ⟨_, rfl, g_unl2 hn _ ?_⟩
    obtain ⟨ts, hp, ht⟩ := sd.rooms
    have hts := ht.size
    have gln := g.rn
    refine q_when (et_test (ev_op (ev_var rfl) (ev_len2 (ev_rooms T sd (ev_var rfl)) hp) rv_I0)) (fun c H2 e2 => ?_) (fun c H2 e2 => ?_)
    · have c1 := of_decide_eq_true c
      have hk : s.rooms[k]? = none := List.getElem?_eq_none (by omega)
      exact s_retP (ep_ref (by walk_at "ev") (by unfold chPump; rw [hk])) (q.on e2)
    · have c1 := of_decide_eq_false c
      have hk1 : k < s.rooms.length := by omega
      have hk := List.getElem?_eq_getElem hk1
      generalize s.rooms[k] = r at hk
      obtain ⟨v, hv, hvt⟩ := ht.to hk
      have er : chPump s k m = if 20000 < m then ([-22], none) else ([(r.pump : Int)], some { s with rooms := s.rooms.set k { r with pump := m } }) := by
        unfold chPump
        rw [hk]
      refine q_when (et_test (by walk_at "ev")) (fun c2 H4 e4 => ?_) (fun c2 H4 e4 => ?_)
      · have c3 := of_decide_eq_true c2
        rw [if_pos (by omega)] at er
        exact s_retP (ep_ref (by walk_at "ev") er) (q.on (e2.trans e4))
      · have c3 := of_decide_eq_false c2
        rw [if_neg (by omega)] at er
        rw [er] at q
        have e14 := e2.trans e4
        have sd4 := sd.ex e14
        have hp4 := e14 _ _ hp
        refine q_asg (ix_k (ev_rooms T sd4 (ev_var rfl)) (ev_var rfl) hp4 hv) fun H5 e5 => ?_
        have e15 := e14.trans e5
        refine q_asgP (ep_call (ea_cons (ev_var rfl) ea_nil) (u_twin ⟨dx, lr, ll, sd.ex e15⟩ g.n1 g.n2)) fun w6 H6 e6 ⟨x, dy, mr, ml, hv6, nx, n1, n2, sy⟩ => ?_
        subst hv6
        obtain ⟨us, hus, hut⟩ := sy.rooms
        have hvt6 : TupAt (rmV r) v H6 := (hvt.ex e15).ex e6
        refine q_setLP (j := k) hus (ep_call (ea_cons (ev_var rfl) (ea_cons (ev_var rfl) ea_nil)) (u_pumped_room hvt6)) tupAt_ex (ev_rooms T sy (ev_var rfl)) (ev_var rfl) (by rw [hut.size]; exact hk1) fun u H7 e7 hu => ?_
        have sy7 := (sy.ex e7).setR (k := k) (e7 _ _ hus) (hut.ex e7) hu
        have ex7 : Ex H5 (upd H7 mr (.lst (us.set k u))) := Ex.mut (e6.trans e7) n1
        obtain ⟨t, rfl, ht3⟩ := (hvt.ex e15).ex ex7
        exact s_retP (ep_found (zs := [(r.pump : Int)]) (ea_cons (by walk_at "ev") ea_nil) (Nat.le_of_ble_eq_true rfl) (ev_var rfl)) fun v H8 e8 ⟨f, h1, h2⟩ => q v H8 ((e15.trans ex7).trans e8) ⟨f, .ref x, h1, h2, x, rfl, dy, mr, ml, sy7.ex e8⟩
/-! ## hook -/
def sp_hook (K : PySem.W.Frag) : Sp := fun vs H Q _ => ∃ (a n : Addr) (s : Sd) (k o : Nat), vs = [.ref a, .ref n] ∧ SdAt K H a s ∧ Good s ∧ H n = some (.lst [.int k, .int o]) ∧ RetP (ChV K (chHook s k o)) H Q
theorem b01_o {o : Nat} (h : ¬ 1 < o) : b01 (o == 1) = (o : Int) := by
  match o, h with
  | 0, _ => rfl
  | 1, _ => rfl
  | n + 2, h => omega
theorem k_hook (T : Facts K mg) (h_refused : Kn P w K mg base "refused" 1 ["number"] (sp_refused K)) (h_twin : Kn P w K mg base "twin" 3 ["stand"] (sp_twin K)) (h_hangs : Kn P w K mg base "hangs" 6 ["stand"] (sp_hangs K)) (h_hooked_lines : Kn P w K mg base "hooked_lines" 1 ["stand"] (sp_hooked_lines K)) : Kn P w K mg base "hook" 7 ["stand", "numbers"] (sp_hook K) := by
  refine T.raw_hook.kn sc_hook (fun vs H Q E h => ?_) (fun cdv A outer st H vs Q E hr h => ?_)
  · obtain ⟨a, n, s, k, o, rfl, _⟩ := h
    rfl
  · obtain ⟨a, n, s, k, o, rfl, ⟨dx, lr, ll, sd⟩, g, hn, q⟩ := h
    refine ⟨_, (pss_cons (ps_asg (pv 1) (pg_unl rfl (pgs_cons (pg_name (i := 2) sc_hook.nd rfl (Or.inl rfl)) (pgs_cons (pg_name (i := 3) sc_hook.nd rfl (Or.inl rfl)) pgs_nil))))
      (pss_cons (ps_if (pt_cmpR op_ge (pv 2) (pe_callB call_len_seq (by rfl) T.n_len bt_len (pa_cons (pe_fld (pv 0) rfl) pa_nil)) (nomark _)) (pss_one (ps_ret (pe_kn h_refused hr (pa_cons (pe_un un_neg pe_int) pa_nil)))) pss_nil)
      (pss_cons (ps_if (pt_cmpR op_gt (pv 3) pe_int (nomark _)) (pss_one (ps_ret (pe_kn h_refused hr (pa_cons (pe_un un_neg pe_int) pa_nil)))) pss_nil)
      (pss_cons (ps_asg (pe_ix ix_list (pe_fld (pv 0) rfl) (pv 2) (fun _ _ => rfl)) (pg_tup rfl (pgs_cons (pg_name (i := 4) sc_hook.nd rfl (Or.inl rfl)) (pgs_cons (pg_name (i := 5) sc_hook.nd rfl (Or.inl rfl)) (pgs_cons (pg_name (i := 6) sc_hook.nd rfl (Or.inl rfl)) pgs_nil)))))
      (pss_cons (ps_if (pt_cmpR op_eq (pv 6) (pv 3) (nomark _)) (pss_one (ps_ret (pe_kn h_refused hr (pa_cons (pe_un un_neg pe_int) pa_nil)))) pss_nil)
      (pss_cons (ps_set (i := 7) sc_hook.nd rfl (Or.inl rfl) (pe_kn h_twin hr (pa_cons (pv 0) pa_nil)))
      (pss_cons (ps_asg (pe_tup (pa_cons (pv 4) (pa_cons (pv 5) (pa_cons (pv 3) pa_nil)))) (pg_sub (pe_fld (pv 7) rfl) (pv 2) set_list))
      (pss_cons (ps_if (PW.pt (pw_and (pt_cmpR op_gt (pe_fld (pv 7) rfl) pe_int (nomark _)) (pw_and1 (pt_not (pt_val (pe_kn h_hangs hr (pa_cons (pv 7) pa_nil))))))) (pss_one (ps_ret (pe_kn h_refused hr (pa_cons (pe_un un_neg pe_int) pa_nil)))) pss_nil)
      (pss_one (ps_ret (pe_tup (pa_cons (pe_lst (pa_cons (pe_callB call_len_seq (by rfl) T.n_len bt_len (pa_cons (pe_kn h_hooked_lines hr (pa_cons (pv 7) pa_nil)) pa_nil)) pa_nil)) (pa_cons (pv 7) pa_nil))))))))))))), ?_⟩
    refine ⟨_, rfl, g_unl2 hn _ ?_⟩
    obtain ⟨ts, hp, ht⟩ := sd.lines
    have hts := ht.size
    have gln := g.ln
    refine q_when (et_test (ev_op (ev_var rfl) (ev_len2 (ev_lines T sd (ev_var rfl)) hp) rv_I0)) (fun c H2 e2 => ?_) (fun c H2 e2 => ?_)
    · have c1 := of_decide_eq_true c
      have hk : s.lines[k]? = none := List.getElem?_eq_none (by omega)
      exact s_retP (ep_ref (by walk_at "ev") (by unfold chHook; rw [hk])) (q.on e2)
    · have c1 := of_decide_eq_false c
      have hk1 : k < s.lines.length := by omega
      have hk := List.getElem?_eq_getElem hk1
      generalize s.lines[k] = l at hk
      obtain ⟨v, hv, hvt⟩ := ht.to hk
      have er : chHook s k o = if 1 < o then ([-22], none) else if l.on_ = (o == 1) then ([-17], none) else
          if (hookSd s k l o).height ≠ 0 ∧ (hookSd s k l o).w.can = false then ([-33], none) else ([(((hookSd s k l o).lines.filter Ln.on_).length : Int)], some (hookSd s k l o)) := by
        unfold chHook
        rw [hk]
      refine q_when (et_test (by walk_at "ev")) (fun c2 H4 e4 => ?_) (fun c2 H4 e4 => ?_)
      · have c3 := of_decide_eq_true c2
        rw [if_pos (by omega)] at er
        exact s_retP (ep_ref (by walk_at "ev") er) (q.on (e2.trans e4))
      · have c3 := of_decide_eq_false c2
        have ho : ¬ 1 < o := by omega
        rw [if_neg ho] at er
        have e14 := e2.trans e4
        have sd4 := sd.ex e14
        have hp4 := e14 _ _ hp
        refine q_asg3 (ix_k (ev_lines T sd4 (ev_var rfl)) (ev_var rfl) hp4 hv) (hvt.ex e14) fun H5 e5 => ?_
        have e15 := e14.trans e5
        refine q_when (et_test (by walk_at "ev")) (fun c4 H6 e6 => ?_) (fun c4 H6 e6 => ?_)
        · have c5 : b01 l.on_ = (o : Int) := of_decide_eq_true c4
          have c6 : l.on_ = (o == 1) := by
            rw [← b01_o ho] at c5
            cases h1 : l.on_ <;> cases h2 : (o == 1) <;> rw [h1, h2] at c5 <;> first | rfl | (exact absurd c5 (by decide))
          rw [if_pos c6] at er
          exact s_retP (ep_ref (by walk_at "ev") er) (q.on (e15.trans e6))
        · have c5 : ¬ b01 l.on_ = (o : Int) := of_decide_eq_false c4
          have c6 : ¬ l.on_ = (o == 1) := fun z => c5 (by rw [z]; exact b01_o ho)
          rw [if_neg c6] at er
          have e16 := e15.trans e6
          have gh := g.hook hk o
          refine q_asgP (ep_call (ea_cons (ev_var rfl) ea_nil) (u_twin ⟨dx, lr, ll, sd.ex e16⟩ g.n1 g.n2)) fun w7 H7 e7 ⟨x, dy, mr, ml, hv7, nx, n1, n2, sy⟩ => ?_
          subst hv7
          obtain ⟨us, hus, hut⟩ := sy.lines
          refine q_setLP (j := k) hus (φ := TupAt (lnV { l with on_ := o == 1 })) (ep_tup (ea_cons (ev_var rfl) (ea_cons (ev_var rfl) (ea_cons (ev_is (ev_var rfl) (congrArg V.int (b01_o ho).symm)) ea_nil))) (Nat.le_of_ble_eq_true rfl)) tupAt_ex (ev_lines T sy (ev_var rfl)) (ev_var rfl) (by rw [hut.size]; exact hk1) fun u H8 e8 hu => ?_
          have sy8 : SdIs K (upd H8 ml (.lst (us.set k u))) x dy mr ml (hookSd s k l o) := (sy.ex e8).setL (k := k) (e8 _ _ hus) (hut.ex e8) hu
          have ex8 : Ex H6 (upd H8 ml (.lst (us.set k u))) := Ex.mut (e7.trans e8) n2
          have e18 := e16.trans ex8
          refine q_when (et_and (a := decide ((0 : Int) < ((hookSd s k l o).height : Nat))) (b := !(hookSd s k l o).w.can) (et_test (ev_op (ev_height T sy8 (ev_var rfl)) ev_c rv_I0)) fun _ => et_not (et_B (ev_kall (ea_cons (ev_var rfl) ea_nil) (u_hangs ⟨dy, mr, ml, sy8⟩ gh)))) (fun c7 H9 e9 => ?_) (fun c7 H9 e9 => ?_)
          · rw [Bool.and_eq_true, decide_eq_true_iff] at c7
            have c8 : (hookSd s k l o).height ≠ 0 ∧ (hookSd s k l o).w.can = false := ⟨by omega, by
              have := c7.2
              cases h : (hookSd s k l o).w.can with
              | false => rfl
              | true => rw [h] at this; cases this⟩
            rw [if_pos c8] at er
            exact s_retP (ep_ref (by walk_at "ev") er) (q.on (e18.trans e9))
          · have c8 : ¬ ((hookSd s k l o).height ≠ 0 ∧ (hookSd s k l o).w.can = false) := fun ⟨z1, z2⟩ => by
              rw [z2, decide_eq_true (show (0 : Int) < ((hookSd s k l o).height : Nat) by omega)] at c7
              cases c7
            rw [if_neg c8] at er
            rw [er] at q
            have sy9 := sy8.ex e9
            exact s_retP (ep_found (zs := [(((hookSd s k l o).lines.filter Ln.on_).length : Int)]) (ea_cons (ev_lenP ((ep_call (ea_cons (ev_var rfl) ea_nil) (u_hooked_lines ⟨dy, mr, ml, sy9⟩ gh.n2)).imp fun v H10 e10 ⟨b, hb, vs, h1, h2⟩ => ⟨b, vs, hb, h1, h2.size⟩)) ea_nil) (Nat.le_of_ble_eq_true rfl) (ev_var rfl)) fun v H10 e10 ⟨f, h1, h2⟩ => q v H10 ((e18.trans e9).trans e10) ⟨f, .ref x, h1, h2, x, rfl, dy, mr, ml, sy9.ex e10⟩
end
end Wr
/-! ### part: Pick -/
set_option Elab.async false
set_option linter.all false
set_option maxRecDepth 10000
/-! # Sets told as bits -/
namespace Wr
open Km420 (Room Line Wreck)
def pickFrom {α : Type} (b : Nat) : List α → Nat → List α
  | [], _ => []
  | x :: r, k => if b.testBit k = true then x :: pickFrom b r (k + 1) else pickFrom b r (k + 1)
def pick {α : Type} (l : List α) (b : Nat) : List α := pickFrom b l 0
theorem pickFrom_snoc {α : Type} (b : Nat) (x : α) : ∀ (l : List α) (k : Nat), pickFrom b (l ++ [x]) k = pickFrom b l k ++ (if b.testBit (k + l.length) = true then [x] else [])
  | [], k => by
    show (if b.testBit k = true then [x] else []) = [] ++ (if b.testBit (k + 0) = true then [x] else [])
    rw [List.nil_append, Nat.add_zero]
  | y :: l, k => by
    have ih := pickFrom_snoc b x l (k + 1)
    show (if b.testBit k = true then y :: pickFrom b (l ++ [x]) (k + 1) else pickFrom b (l ++ [x]) (k + 1)) = (if b.testBit k = true then y :: pickFrom b l (k + 1) else pickFrom b l (k + 1)) ++ (if b.testBit (k + (l.length + 1)) = true then [x] else [])
    rw [ih, show k + 1 + l.length = k + (l.length + 1) by omega]
    split <;> rfl
theorem pick_snoc {α : Type} (l : List α) (x : α) (b : Nat) : pick (l ++ [x]) b = pick l b ++ (if b.testBit l.length = true then [x] else []) := by
  unfold pick
  rw [pickFrom_snoc, Nat.zero_add]
theorem pickFrom_map {α β : Type} (b : Nat) (f : α → β) : ∀ (l : List α) (k : Nat), pickFrom b (l.map f) k = (pickFrom b l k).map f
  | [], _ => rfl
  | y :: l, k => by
    have ih := pickFrom_map b f l (k + 1)
    show (if b.testBit k = true then f y :: pickFrom b (l.map f) (k + 1) else pickFrom b (l.map f) (k + 1)) = (if b.testBit k = true then y :: pickFrom b l (k + 1) else pickFrom b l (k + 1)).map f
    rw [ih]
    split <;> rfl
theorem pick_map {α β : Type} (l : List α) (f : α → β) (b : Nat) : pick (l.map f) b = (pick l b).map f := pickFrom_map b f l 0
theorem pickFrom_sub {α : Type} (b : Nat) : ∀ (l : List α) (k : Nat), (pickFrom b l k).Sublist l
  | [], _ => List.Sublist.slnil
  | y :: l, k => by
    have ih := pickFrom_sub b l (k + 1)
    show (if b.testBit k = true then y :: pickFrom b l (k + 1) else pickFrom b l (k + 1)).Sublist (y :: l)
    split
    · exact ih.cons₂ y
    · exact ih.cons y
theorem pick_sub {α : Type} (l : List α) (b : Nat) : (pick l b).Sublist l := pickFrom_sub b l 0
/-- rooms, those of a set dry -/
def dry1 (b k : Nat) (r : Room) : Room := if b.testBit k = true then { r with water := 0 } else r
def dryFrom (b : Nat) : List Room → Nat → List Room
  | [], _ => []
  | r :: rs, k => dry1 b k r :: dryFrom b rs (k + 1)
def dryL (rs : List Room) (b : Nat) : List Room := dryFrom b rs 0
theorem dryFrom_snoc (b : Nat) (x : Room) : ∀ (l : List Room) (k : Nat), dryFrom b (l ++ [x]) k = dryFrom b l k ++ [dry1 b (k + l.length) x]
  | [], k => rfl
  | y :: l, k => by
    have ih := dryFrom_snoc b x l (k + 1)
    show dry1 b k y :: dryFrom b (l ++ [x]) (k + 1) = dry1 b k y :: (dryFrom b l (k + 1) ++ [dry1 b (k + (l.length + 1)) x])
    rw [ih, show k + 1 + l.length = k + (l.length + 1) by omega]
theorem dryL_snoc (l : List Room) (x : Room) (b : Nat) : dryL (l ++ [x]) b = dryL l b ++ [dry1 b l.length x] := by
  unfold dryL
  rw [dryFrom_snoc, Nat.zero_add]
theorem dryFrom_len (b : Nat) : ∀ (l : List Room) (k : Nat), (dryFrom b l k).length = l.length
  | [], _ => rfl
  | _ :: l, k => congrArg (· + 1) (dryFrom_len b l (k + 1))
theorem dryFrom_all {b : Nat} : ∀ {l : List Room} {k : Nat}, (∀ r ∈ l, RoomOk r) → ∀ r ∈ dryFrom b l k, RoomOk r
  | [], _, _, _, h => by cases h
  | x :: l, k, h, r, hr => by
    rcases List.mem_cons.mp (show r ∈ dry1 b k x :: dryFrom b l (k + 1) from hr) with e | hr
    · have hx := h x List.mem_cons_self
      rw [e]
      unfold dry1
      split
      · exact ⟨hx.most, hx.at1, hx.at2, Nat.zero_le _⟩
      · exact hx
    · exact dryFrom_all (fun r hr => h r (List.mem_cons_of_mem _ hr)) r hr
/-- the litres in a set's rooms -/
def litOf (rs : List Room) (b : Nat) : Nat := Km420.sum ((pick rs b).map fun r => r.water)
end Wr
namespace Wr
open Km420 (Room Line Wreck)
/-- the best so far -/
def better (ok : Bool) (n b : Nat) (r : Option (Nat × Nat)) : Option (Nat × Nat) := if ok = false then r else match r with
  | none => some (n, b)
  | some (v, u) => if n < v then some (n, b) else some (v, u)
theorem range_fold {α : Type} (f : α → Nat → α) (a : α) (n : Nat) : (List.range (n + 1)).foldl f a = f ((List.range n).foldl f a) n := by
  rw [List.range_succ, List.foldl_append]
  rfl
/-- the rooms that are patched, as bits -/
def pbits : List Room → Nat → Nat
  | [], _ => 0
  | r :: rs, k => (if r.patched = true then 2 ^ k else 0) + pbits rs (k + 1)
theorem pbits_snoc (x : Room) : ∀ (l : List Room) (k : Nat), pbits (l ++ [x]) k = pbits l k + (if x.patched = true then 2 ^ (k + l.length) else 0)
  | [], k => by
    show (if x.patched = true then 2 ^ k else 0) + 0 = 0 + (if x.patched = true then 2 ^ (k + 0) else 0)
    rw [Nat.add_zero, Nat.zero_add, Nat.add_zero]
  | y :: l, k => by
    have ih := pbits_snoc x l (k + 1)
    show (if y.patched = true then 2 ^ k else 0) + pbits (l ++ [x]) (k + 1) = (if y.patched = true then 2 ^ k else 0) + pbits l (k + 1) + (if x.patched = true then 2 ^ (k + (l.length + 1)) else 0)
    rw [ih, show k + 1 + l.length = k + (l.length + 1) by omega]
    omega
theorem pbits_lt : ∀ (l : List Room) (k : Nat), pbits l k + 2 ^ k ≤ 2 ^ (k + l.length)
  | [], k => by
    show 0 + 2 ^ k ≤ 2 ^ (k + 0)
    rw [Nat.zero_add, Nat.add_zero]
    exact Nat.le_refl _
  | y :: l, k => by
    have ih := pbits_lt l (k + 1)
    have e : 2 ^ (k + 1) = 2 ^ k + 2 ^ k := by rw [Nat.pow_succ]; omega
    show (if y.patched = true then 2 ^ k else 0) + pbits l (k + 1) + 2 ^ k ≤ 2 ^ (k + (l.length + 1))
    rw [show k + (l.length + 1) = k + 1 + l.length by omega]
    rw [e] at ih
    have h0 : 0 < 2 ^ k := Nat.two_pow_pos k
    split <;> omega
end Wr
namespace Wr
open Km420 (Room Line Wreck)
/-- the items whose place and worth are as told -/
def keepFrom {α : Type} (p : Nat → α → Bool) : List α → Nat → List α
  | [], _ => []
  | x :: r, k => if p k x = true then x :: keepFrom p r (k + 1) else keepFrom p r (k + 1)
theorem keepFrom_snoc {α : Type} (p : Nat → α → Bool) (x : α) : ∀ (l : List α) (k : Nat), keepFrom p (l ++ [x]) k = keepFrom p l k ++ (if p (k + l.length) x = true then [x] else [])
  | [], k => by
    show (if p k x = true then [x] else []) = [] ++ (if p (k + 0) x = true then [x] else [])
    rw [List.nil_append, Nat.add_zero]
  | y :: l, k => by
    have ih := keepFrom_snoc p x l (k + 1)
    show (if p k y = true then y :: keepFrom p (l ++ [x]) (k + 1) else keepFrom p (l ++ [x]) (k + 1)) = (if p k y = true then y :: keepFrom p l (k + 1) else keepFrom p l (k + 1)) ++ (if p (k + (l.length + 1)) x = true then [x] else [])
    rw [ih, show k + 1 + l.length = k + (l.length + 1) by omega]
    split <;> rfl
theorem keepFrom_sub {α : Type} (p : Nat → α → Bool) : ∀ (l : List α) (k : Nat), (keepFrom p l k).Sublist l
  | [], _ => List.Sublist.slnil
  | y :: l, k => by
    have ih := keepFrom_sub p l (k + 1)
    show (if p k y = true then y :: keepFrom p l (k + 1) else keepFrom p l (k + 1)).Sublist (y :: l)
    split
    · exact ih.cons₂ y
    · exact ih.cons y
/-- the hooked lines but the k-th -/
def others (xs : List Ln) (k : Nat) : List Ln := keepFrom (fun j x => !decide (j = k) && x.on_) xs 0
theorem others_sub (xs : List Ln) (k : Nat) : (others xs k).Sublist xs := keepFrom_sub _ xs 0
theorem others_snoc (l : List Ln) (x : Ln) (k : Nat) : others (l ++ [x]) k = others l k ++ (if (!decide (l.length = k) && x.on_) = true then [x] else []) := by
  unfold others
  rw [keepFrom_snoc, Nat.zero_add]
end Wr
/-! ### part: I -/
set_option Elab.async false
set_option linter.all false
set_option maxRecDepth 100000
set_option maxHeartbeats 4000000
/-! # The walk, ninth part: changes, the last; sets -/
namespace Wr
open PySem PySem.Spec PyProof.Rows L2 Evl
/-! the evaluation of what hangs on nothing but what is known -/
local macro_rules | `(tactic| walk_at "cm") => `(tactic| first | exact Or.inl ⟨by decide, by decide⟩ | exact ⟨by decide, by decide⟩ | exact Or.inr ⟨by decide, by decide⟩ | exact Or.inl ⟨by omega, by omega⟩ | exact Or.inr ⟨by omega, by omega⟩ | exact ⟨by omega, by omega⟩ | exact ⟨by omega, by omega, by omega⟩)
local macro_rules | `(tactic| walk_at "at") => `(tactic| first | rfl | assumption)
local macro_rules | `(tactic| walk_at "rv") => `(tactic| first | exact rv_I0 | exact rv_eqI | exact rv_neI | exact rv_ixT (st_of (by assumption)) (by walk_at "at") | exact rv_ixT (by assumption) (by walk_at "at") | exact rv_ixL (sq_of (by assumption)) (by walk_at "at") | exact rv_ixL (by assumption) (by walk_at "at") | (apply rv_I; walk_at "cm"))
local macro_rules | `(tactic| walk_at "ea") => `(tactic| first | exact ea_nil | (apply ea_cons; walk_at "ev"; walk_at "ea"))
local macro_rules | `(tactic| walk_at "rc") => `(tactic| first | exact rc_min2 | exact rc_max2 | exact rc_min3 | exact rc_int | exact rc_len (sq_of (by assumption)) | exact rc_len (by assumption))
local macro_rules | `(tactic| walk_at "ev") => `(tactic| first | exact ev_c | exact ev_var rfl | assumption | (apply ev_op; walk_at "ev"; walk_at "ev"; walk_at "rv") | (apply ev_un; walk_at "ev"; exact ru_neg) | (apply ev_cb; walk_at "ea"; walk_at "rc"))
section
variable {P : Program} {w : World} {K : PySem.W.Frag} {mg : Str → Option Value} {base : Heap}
/-! ## minutes -/
def sp_minutes (K : PySem.W.Frag) : Sp := fun vs H Q _ => ∃ (a n : Addr) (s : Sd) (m : Nat), vs = [.ref a, .ref n] ∧ SdAt K H a s ∧ Good s ∧ H n = some (.lst [.int m]) ∧ RetP (ChV K (chMinutes s m)) H Q
theorem cond_min (n : Nat) : (!(inB n 1 1440)) = true ↔ (n = 0 ∨ 1440 < n) := by
  unfold inB
  simp
  omega
theorem k_minutes (T : Facts K mg) (h_is_within : Kn P w K mg base "is_within" 1 ["number", "least", "most"] (sp_is_within K)) (h_refused : Kn P w K mg base "refused" 1 ["number"] (sp_refused K)) (h_twin : Kn P w K mg base "twin" 3 ["stand"] (sp_twin K)) (h_pass_minute : Kn P w K mg base "pass_minute" 7 ["stand"] (sp_pass_minute K)) :
    Kn P w K mg base "minutes" 8 ["stand", "numbers"] (sp_minutes K) := by
  refine T.raw_minutes.kn sc_minutes (fun vs H Q E h => ?_) (fun cdv A outer st H vs Q E hr h => ?_)
  · obtain ⟨a, n, s, m, rfl, _⟩ := h
    rfl
  · obtain ⟨a, n, s, m, rfl, ⟨dx, lr, ll, sd⟩, g, hn, q⟩ := h
    refine ⟨_, (pss_cons (ps_set (i := 2) sc_minutes.nd rfl (Or.inl rfl) (pe_ix ix_list (pv 1) pe_int (fun _ _ => rfl)))
      (pss_cons (ps_if (pt_not (pt_val (pe_kn h_is_within hr (pa_cons (pv 2) (pa_cons pe_int (pa_cons (pe_gi T.g_MOST_MINUTES) pa_nil)))))) (pss_one (ps_ret (pe_kn h_refused hr (pa_cons (pe_un un_neg pe_int) pa_nil)))) pss_nil)
      (pss_cons (ps_if (pt_cmpR op_gt (pe_op op_add (pe_fld (pv 0) rfl) (pv 2)) (pe_gi T.g_LAST_MINUTE) (nomark _)) (pss_one (ps_ret (pe_kn h_refused hr (pa_cons (pe_un un_neg pe_int) pa_nil)))) pss_nil)
      (pss_cons (ps_set (i := 3) sc_minutes.nd rfl (Or.inl rfl) (pe_kn h_twin hr (pa_cons (pv 0) pa_nil)))
      (pss_cons (ps_for PassesOwn.never rfl (pi_range1 rfl T.n_range (pa_cons (pv 2) pa_nil)) (pg_name (i := 4) sc_minutes.nd rfl (Or.inl rfl))
        (pss_one (ps_expr (pe_kn h_pass_minute hr (pa_cons (pv 3) pa_nil)))))
      (pss_one (ps_ret (pe_tup (pa_cons (pe_lst (pa_cons (pe_fld (pv 3) rfl) (pa_cons (pe_fld (pv 3) rfl) (pa_cons (pe_fld (pv 3) rfl) pa_nil)))) (pa_cons (pv 3) pa_nil)))))))))), ?_⟩
    refine q_asg (v := .int (m : Int)) (by walk_at "ev") fun H1 e1 => ?_
    refine q_when (et_not (et_B (ev_kall (ea_cons (ev_var rfl) (ea_cons ev_c (ea_cons ev_c ea_nil))) u_is_within))) (fun c H2 e2 => ?_) (fun c H2 e2 => ?_)
    · have c1 := (cond_min m).mp c
      exact s_retP (ep_ref (by walk_at "ev") (if_pos c1)) (q.on (e1.trans e2))
    · have c1 : ¬ (m = 0 ∨ 1440 < m) := fun z => by
        rw [(cond_min m).mpr z] at c
        cases c
      have e12 := e1.trans e2
      have sd2 := sd.ex e12
      refine q_when (et_test (ev_op (ev_op (ev_minute T sd2 (ev_var rfl)) (ev_var rfl) rv_I0) ev_c rv_I0)) (fun c2 H3 e3 => ?_) (fun c2 H3 e3 => ?_)
      · have c3 := of_decide_eq_true c2
        exact s_retP (ep_ref (by walk_at "ev") (by unfold chMinutes; rw [if_neg c1, if_pos (by omega)])) (q.on (e12.trans e3))
      · have c3 := of_decide_eq_false c2
        have er : chMinutes s m = ([((minutesSd m s).minute : Int), ((minutesSd m s).height : Int), ((minutesSd m s).drops : Int)], some (minutesSd m s)) := by
          unfold chMinutes
          rw [if_neg c1, if_neg (by omega)]
        rw [er] at q
        have e13 := e12.trans e3
        refine q_asgP (ep_call (ea_cons (ev_var rfl) ea_nil) (u_twin ⟨dx, lr, ll, sd.ex e13⟩ g.n1 g.n2)) fun v H4 e4 ⟨x, dy, mr, ml, hv, nx, n1, n2, sy⟩ => ?_
        subst hv
        refine q_forR1 (n := (m : Int)) (ea_cons (ev_var rfl) ea_nil) ⟨by omega, by omega⟩ (fun i σ' H' => ∃ y, σ' = [some (.ref a), some (.ref n), some (.int m), some (.ref x), y] ∧ Ex H3 H' ∧ SdAt K H' x (minutesSd i s))
          (fun H5 e5 => ⟨none, rfl, e4.trans e5, dy, mr, ml, sy.ex e5⟩) (fun i σ' H' hi p => ?_) (fun σ' H' p => ?_)
        · obtain ⟨y, rfl, e, sdi⟩ := p
          refine ⟨_, rfl, x, minutesSd i s, rfl, sdi, Good.minutesSd i g, fun H6 bt sd6 => ⟨_, rfl, bt.new e nx, ?_⟩⟩
          rw [minutesSd_succ]
          exact sd6
        · obtain ⟨y, rfl, e, sdm⟩ := p
          rw [Int.toNat_natCast] at sdm
          obtain ⟨dz, kr, kl, sz⟩ := sdm
          exact s_retP (ep_found (zs := [((minutesSd m s).minute : Int), ((minutesSd m s).height : Int), ((minutesSd m s).drops : Int)]) (ea_cons (ev_minute T sz (ev_var rfl)) (ea_cons (ev_height T sz (ev_var rfl)) (ea_cons (ev_drops T sz (ev_var rfl)) ea_nil))) (Nat.le_of_ble_eq_true rfl) (ev_var rfl)) fun v H6 e6 ⟨f, h1, h2⟩ => q v H6 ((e13.trans e).trans e6) ⟨f, .ref x, h1, h2, x, rfl, dz, kr, kl, sz.ex e6⟩
/-! ## haul, lower -/
def sp_haul (K : PySem.W.Frag) : Sp := fun vs H Q _ => ∃ (a n : Addr) (s : Sd) (m : Nat), vs = [.ref a, .ref n] ∧ SdAt K H a s ∧ Good s ∧ H n = some (.lst [.int m]) ∧ RetP (ChV K (chHaul s m)) H Q
theorem k_haul (T : Facts K mg) (h_refused : Kn P w K mg base "refused" 1 ["number"] (sp_refused K)) (h_hangs : Kn P w K mg base "hangs" 6 ["stand"] (sp_hangs K)) (h_twin : Kn P w K mg base "twin" 3 ["stand"] (sp_twin K)) : Kn P w K mg base "haul" 7 ["stand", "numbers"] (sp_haul K) := by
  refine T.raw_haul.kn sc_haul (fun vs H Q E h => ?_) (fun cdv A outer st H vs Q E hr h => ?_)
  · obtain ⟨a, n, s, m, rfl, _⟩ := h
    rfl
  · obtain ⟨a, n, s, m, rfl, ⟨dx, lr, ll, sd⟩, g, hn, q⟩ := h
    refine ⟨_, (pss_cons (ps_set (i := 2) sc_haul.nd rfl (Or.inl rfl) (pe_ix ix_list (pv 1) pe_int (fun _ _ => rfl)))
      (pss_cons (ps_if (pt_cmpR op_eq (pv 2) pe_int (nomark _)) (pss_one (ps_ret (pe_kn h_refused hr (pa_cons (pe_un un_neg pe_int) pa_nil)))) pss_nil)
      (pss_cons (ps_if (pt_cmpR op_gt (pe_op op_add (pe_fld (pv 0) rfl) (pv 2)) (pe_fld (pv 0) rfl) (nomark _)) (pss_one (ps_ret (pe_kn h_refused hr (pa_cons (pe_un un_neg pe_int) pa_nil)))) pss_nil)
      (pss_cons (ps_if (pt_not (pt_val (pe_kn h_hangs hr (pa_cons (pv 0) pa_nil)))) (pss_one (ps_ret (pe_kn h_refused hr (pa_cons (pe_un un_neg pe_int) pa_nil)))) pss_nil)
      (pss_cons (ps_set (i := 3) sc_haul.nd rfl (Or.inl rfl) (pe_kn h_twin hr (pa_cons (pv 0) pa_nil)))
      (pss_cons (ps_fld (pv 3) (pe_op op_add (pe_fld (pv 0) rfl) (pv 2)) rfl)
      (pss_one (ps_ret (pe_tup (pa_cons (pe_lst (pa_cons (pe_fld (pv 3) rfl) pa_nil)) (pa_cons (pv 3) pa_nil))))))))))), ?_⟩
    refine q_asg (v := .int (m : Int)) (by walk_at "ev") fun H1 e1 => ?_
    refine q_when (et_test (by walk_at "ev")) (fun c H2 e2 => ?_) (fun c H2 e2 => ?_)
    · have c1 := of_decide_eq_true c
      exact s_retP (ep_ref (by walk_at "ev") (if_pos (by omega))) (q.on (e1.trans e2))
    · have c1 := of_decide_eq_false c
      have e12 := e1.trans e2
      have sd2 := sd.ex e12
      refine q_when (et_test (ev_op (ev_op (ev_height T sd2 (ev_var rfl)) (ev_var rfl) rv_I0) (ev_depth T sd2 (ev_var rfl)) rv_I0)) (fun c2 H3 e3 => ?_) (fun c2 H3 e3 => ?_)
      · have c3 := of_decide_eq_true c2
        exact s_retP (ep_ref (by walk_at "ev") (by unfold chHaul; rw [if_neg (by omega), if_pos (by omega)])) (q.on (e12.trans e3))
      · have c3 := of_decide_eq_false c2
        have e13 := e12.trans e3
        refine q_when (b := !s.w.can) (et_not (et_B (ev_kall (ea_cons (ev_var rfl) ea_nil) (u_hangs ⟨dx, lr, ll, sd.ex e13⟩ g)))) (fun c4 H4 e4 => ?_) (fun c4 H4 e4 => ?_)
        · have c5 : s.w.can = false := by
            cases h : s.w.can with
            | false => rfl
            | true => rw [h] at c4; cases c4
          exact s_retP (ep_ref (by walk_at "ev") (by unfold chHaul; rw [if_neg (by omega), if_neg (by omega), if_pos c5])) (q.on (e13.trans e4))
        · have c5 : ¬ s.w.can = false := fun z => by
            rw [z] at c4
            cases c4
          have er : chHaul s m = ([((s.height + m : Nat) : Int)], some { s with height := s.height + m }) := by
            unfold chHaul
            rw [if_neg (by omega), if_neg (by omega), if_neg c5]
          rw [er] at q
          have e14 := e13.trans e4
          refine q_asgP (ep_call (ea_cons (ev_var rfl) ea_nil) (u_twin ⟨dx, lr, ll, sd.ex e14⟩ g.n1 g.n2)) fun v H5 e5 ⟨x, dy, mr, ml, hv, nx, n1, n2, sy⟩ => ?_
          subst hv
          refine q_sd T sy (y := .int ((s.height + m : Nat) : Int)) (ev_is (ev_op (ev_height T (sd.ex (e14.trans e5)) (ev_var rfl)) (ev_var rfl) rv_I0) (congrArg V.int (by omega))) (ev_var rfl) T.na_Stand_height _ putF_height rfl rfl fun H6 b6 sy6 => ?_
          exact s_retP (ep_found (zs := [((s.height + m : Nat) : Int)]) (ea_cons (ev_height T sy6 (ev_var rfl)) ea_nil) (Nat.le_of_ble_eq_true rfl) (ev_var rfl)) fun v H7 e7 ⟨f, h1, h2⟩ => q v H7 ((e14.trans (b6.new e5 nx)).trans e7) ⟨f, .ref x, h1, h2, x, rfl, dy, mr, ml, sy6.ex e7⟩
def sp_lower (K : PySem.W.Frag) : Sp := fun vs H Q _ => ∃ (a n : Addr) (s : Sd) (m : Nat), vs = [.ref a, .ref n] ∧ SdAt K H a s ∧ Good s ∧ H n = some (.lst [.int m]) ∧ RetP (ChV K (chLower s m)) H Q
theorem k_lower (T : Facts K mg) (h_refused : Kn P w K mg base "refused" 1 ["number"] (sp_refused K)) (h_twin : Kn P w K mg base "twin" 3 ["stand"] (sp_twin K)) : Kn P w K mg base "lower" 4 ["stand", "numbers"] (sp_lower K) := by
  refine T.raw_lower.kn sc_lower (fun vs H Q E h => ?_) (fun cdv A outer st H vs Q E hr h => ?_)
  · obtain ⟨a, n, s, m, rfl, _⟩ := h
    rfl
  · obtain ⟨a, n, s, m, rfl, ⟨dx, lr, ll, sd⟩, g, hn, q⟩ := h
    refine ⟨_, (pss_cons (ps_set (i := 2) sc_lower.nd rfl (Or.inl rfl) (pe_ix ix_list (pv 1) pe_int (fun _ _ => rfl)))
      (pss_cons (ps_if (pt_cmpR op_eq (pv 2) pe_int (nomark _)) (pss_one (ps_ret (pe_kn h_refused hr (pa_cons (pe_un un_neg pe_int) pa_nil)))) pss_nil)
      (pss_cons (ps_if (pt_cmpR op_lt (pe_fld (pv 0) rfl) (pv 2) (nomark _)) (pss_one (ps_ret (pe_kn h_refused hr (pa_cons (pe_un un_neg pe_int) pa_nil)))) pss_nil)
      (pss_cons (ps_set (i := 3) sc_lower.nd rfl (Or.inl rfl) (pe_kn h_twin hr (pa_cons (pv 0) pa_nil)))
      (pss_cons (ps_fld (pv 3) (pe_op op_sub (pe_fld (pv 0) rfl) (pv 2)) rfl)
      (pss_one (ps_ret (pe_tup (pa_cons (pe_lst (pa_cons (pe_fld (pv 3) rfl) pa_nil)) (pa_cons (pv 3) pa_nil)))))))))), ?_⟩
    refine q_asg (v := .int (m : Int)) (by walk_at "ev") fun H1 e1 => ?_
    refine q_when (et_test (by walk_at "ev")) (fun c H2 e2 => ?_) (fun c H2 e2 => ?_)
    · have c1 := of_decide_eq_true c
      exact s_retP (ep_ref (by walk_at "ev") (if_pos (by omega))) (q.on (e1.trans e2))
    · have c1 := of_decide_eq_false c
      have e12 := e1.trans e2
      have sd2 := sd.ex e12
      refine q_when (et_test (ev_op (ev_height T sd2 (ev_var rfl)) (ev_var rfl) rv_I0)) (fun c2 H3 e3 => ?_) (fun c2 H3 e3 => ?_)
      · have c3 := of_decide_eq_true c2
        exact s_retP (ep_ref (by walk_at "ev") (by unfold chLower; rw [if_neg (by omega), if_pos (by omega)])) (q.on (e12.trans e3))
      · have c3 := of_decide_eq_false c2
        have e14 := e12.trans e3
        have er : chLower s m = ([((s.height - m : Nat) : Int)], some { s with height := s.height - m }) := by
          unfold chLower
          rw [if_neg (by omega), if_neg (by omega)]
        rw [er] at q
        refine q_asgP (ep_call (ea_cons (ev_var rfl) ea_nil) (u_twin ⟨dx, lr, ll, sd.ex e14⟩ g.n1 g.n2)) fun v H5 e5 ⟨x, dy, mr, ml, hv, nx, n1, n2, sy⟩ => ?_
        subst hv
        refine q_sd T sy (y := .int ((s.height - m : Nat) : Int)) (ev_is (ev_op (ev_height T (sd.ex (e14.trans e5)) (ev_var rfl)) (ev_var rfl) rv_I0) (congrArg V.int (by omega))) (ev_var rfl) T.na_Stand_height _ putF_height rfl rfl fun H6 b6 sy6 => ?_
        exact s_retP (ep_found (zs := [((s.height - m : Nat) : Int)]) (ea_cons (ev_height T sy6 (ev_var rfl)) ea_nil) (Nat.le_of_ble_eq_true rfl) (ev_var rfl)) fun v H7 e7 ⟨f, h1, h2⟩ => q v H7 ((e14.trans (b6.new e5 nx)).trans e7) ⟨f, .ref x, h1, h2, x, rfl, dy, mr, ml, sy6.ex e7⟩
/-! ## sets told as bits -/
theorem bit_is (b k : Nat) : decide (Builtin.bitAnd ((b : Int) / 2 ^ ((k : Int)).toNat) 1 = 1) = b.testBit k := by
  rw [PyProof.Rows.bitAnd_m1, Int.toNat_natCast, Nat.testBit_eq_decide_div_mod_eq]
  have e1 : (b : Int) / 2 ^ k = ((b / 2 ^ k : Nat) : Int) := by
    rw [Int.natCast_ediv, Int.natCast_pow]
    rfl
  rw [e1]
  have e2 : ((b / 2 ^ k : Nat) : Int) % 2 = ((b / 2 ^ k % 2 : Nat) : Int) := by omega
  rw [e2]
  by_cases c : b / 2 ^ k % 2 = 1
  · rw [decide_eq_true c, decide_eq_true (by omega)]
  · rw [decide_eq_false c, decide_eq_false (by omega)]
def sp_has_bit (K : PySem.W.Frag) : Sp := fun vs H Q _ => ∃ b k : Nat, vs = [.int b, .int k] ∧ RetV (.bl (b.testBit k)) H Q
theorem u_has_bit {H : Hp} {b k : Nat} : SpV (sp_has_bit K) [.int b, .int k] H (.bl (b.testBit k)) := fun H1 e Q q E => ⟨b, k, rfl, q⟩
theorem k_has_bit (T : Facts K mg) : Kn P w K mg base "has_bit" 1 ["bits", "k"] (sp_has_bit K) := by
  refine T.raw_has_bit.kn sc_has_bit (fun vs H Q E h => ?_) (fun cdv A outer st H vs Q E hr h => ?_)
  · obtain ⟨b, k, rfl, _⟩ := h
    rfl
  · obtain ⟨b, k, rfl, q⟩ := h
    refine ⟨_, (pss_one (ps_ret (pe_cmpR op_eq (pe_op op_and (pe_op op_shr (pv 0) (pv 1)) pe_int) pe_int (nomark _)))), ?_⟩
    refine s_ret (ev_is (ev_op (ev_op (ev_op (ev_var rfl) (ev_var rfl) (rv_I (by omega))) ev_c rv_I0) ev_c rv_eqI) ?_) q
    rw [bit_is]
def RowsV (xss : List (List V)) : V → Hp → Prop := fun v H => ∃ q, v = .ref q ∧ Rows H q xss
theorem RowsV.ex {xss : List (List V)} {v : V} {H H' : Hp} (h : RowsV xss v H) (e : Ex H H') : RowsV xss v H' := by
  obtain ⟨q, h1, h2⟩ := h
  exact ⟨q, h1, h2.ex e⟩
def sp_chosen (K : PySem.W.Frag) : Sp := fun vs H Q _ => ∃ (p : Addr) (b : Nat) (xss : List (List V)), vs = [.ref p, .int b] ∧ Rows H p xss ∧ xss.length ≤ 1000 ∧ RetP (RowsV (pick xss b)) H Q
theorem u_chosen {H : Hp} {p : Addr} {b : Nat} {xss : List (List V)} (h : Rows H p xss) (hl : xss.length ≤ 1000) : SpP (sp_chosen K) [.ref p, .int b] H (RowsV (pick xss b)) := fun H1 e Q q E => ⟨p, b, xss, rfl, h.ex e, hl, q⟩
theorem k_chosen (T : Facts K mg) (h_has_bit : Kn P w K mg base "has_bit" 1 ["bits", "k"] (sp_has_bit K)) : Kn P w K mg base "chosen" 2 ["things", "bits"] (sp_chosen K) := by
  refine T.raw_chosen.kn sc_chosen (fun vs H Q E h => ?_) (fun cdv A outer st H vs Q E hr h => ?_)
  · obtain ⟨p, b, xss, rfl, _⟩ := h
    rfl
  · obtain ⟨p, b, xss, rfl, ⟨ts, hp, ht⟩, hl, q⟩ := h
    refine ⟨_, (pss_one (ps_ret (pe_lc (own := [("k", 2)]) (g := (gName 2)) (tt := (tB (tCall (sp_has_bit K) [] E0 (tCons (tVar 1) (tCons (tVar 2) tNil))))) (te := (tOp (rIxL K) (tVar 0) (tVar 2))) rfl sc_chosen.nd (pi_range1 rfl T.n_range (pa_cons (pe_callB call_len_seq (by rfl) T.n_len bt_len (pa_cons (pv 0) pa_nil)) pa_nil)) (blkOk_by (N := ["things", "bits", "k"]) (sc := defScope s_chosen) (by decide +kernel)) (fun _ _ _ _ _ => (pg_name (i := 2) sc_chosen.nd rfl (Or.inl rfl))) (fun _ _ _ _ _ => pts_one (pt_val (pe_kn h_has_bit hr (pa_cons (pv 1) (pa_cons (pv 2) pa_nil))))) (fun _ _ _ _ _ => (pe_ix ix_list (pv 0) (pv 2) (fun _ _ => rfl)))))), ?_⟩
    have hts := ht.len
    refine s_retP (ep_lcR (n := ts.length) (by walk_at "ea") (by omega) (fun _ => rfl) (fun i acc H' => Tups H' acc (pick (xss.take i) b)) (fun _ _ => by rw [List.take_zero]; exact Tups.nil) (fun i acc H1 h => by
        have h1 := h.len
        have h2 := (pick_sub (xss.take i) b).length_le
        rw [List.length_take] at h2
        omega) (fun i acc H1 H2 k h => h.keep k) (fun i acc H1 hi e hw => ?_)) fun v H2 e2 ⟨acc, ⟨d, hv, nD, hd⟩, hw⟩ => q v H2 e2 ⟨d, hv, acc, hd, ?_⟩
    · have hi1 : i < xss.length := by omega
      have hx := List.getElem?_eq_getElem hi1
      obtain ⟨v, hv, hvt⟩ := ht.get hx
      have a1 : atI ts (i : Int) = some v := atI_nat hv
      have hp1 := e _ _ hp
      refine ⟨b.testBit i, et_B (ev_kall (ea_cons (ev_var rfl) (ea_cons (ev_var rfl) ea_nil)) u_has_bit), fun c => ?_, fun c => (ep_ev (v := v) (by walk_at "ev")).imp fun y H3 e3 hy => ?_⟩
      · rw [take_snoc hx, pick_snoc, List.length_take, Nat.min_eq_left (by omega), if_neg (by rw [c]; exact Bool.false_ne_true), List.append_nil]
        exact hw
      · rw [take_snoc hx, pick_snoc, List.length_take, Nat.min_eq_left (by omega), if_pos c, hy]
        exact (hw.ex e3).snoc ((hvt.ex e).ex e3)
    · rw [hts, List.take_length] at hw
      exact hw
/-! ## rooms that are dry -/
theorem ep_if {σ : L2.St} {H : Hp} {t : TT} {ta tb : TE} {b : Bool} {φ : V → Hp → Prop} (h : EvT t σ H b) (h1 : b = true → EvP ta σ H φ) (h2 : b = false → EvP tb σ H φ) : EvP (tIf t ta tb) σ H φ := fun H1 e Q q => h H1 e _ fun H2 e2 => by
  cases b with
  | true => exact h1 rfl H2 (e.trans e2) Q fun v H3 e3 p => q v H3 (e2.trans e3) p
  | false => exact h2 rfl H2 (e.trans e2) Q fun v H3 e3 p => q v H3 (e2.trans e3) p
def sp_dried (K : PySem.W.Frag) : Sp := fun vs H Q _ => ∃ (p : Addr) (b : Nat) (rs : List Rm), vs = [.ref p, .int b] ∧ Rows H p (rs.map rmV) ∧ rs.length ≤ 1000 ∧ RetP (RowsV ((dryL rs b).map rmV)) H Q
theorem u_dried {H : Hp} {p : Addr} {b : Nat} {rs : List Rm} (h : Rows H p (rs.map rmV)) (hl : rs.length ≤ 1000) : SpP (sp_dried K) [.ref p, .int b] H (RowsV ((dryL rs b).map rmV)) := fun H1 e Q q E => ⟨p, b, rs, rfl, h.ex e, hl, q⟩
theorem k_dried (T : Facts K mg) (h_has_bit : Kn P w K mg base "has_bit" 1 ["bits", "k"] (sp_has_bit K)) (h_room_with : Kn P w K mg base "room_with" 1 ["room", "water"] (sp_room_with K)) : Kn P w K mg base "dried" 2 ["rooms", "bits"] (sp_dried K) := by
  refine T.raw_dried.kn sc_dried (fun vs H Q E h => ?_) (fun cdv A outer st H vs Q E hr h => ?_)
  · obtain ⟨p, b, rs, rfl, _⟩ := h
    rfl
  · obtain ⟨p, b, rs, rfl, ⟨ts, hp, ht⟩, hl, q⟩ := h
    refine ⟨_, (pss_one (ps_ret (pe_lc (own := [("k", 2)]) (g := (gName 2)) (tt := tYes) (te := (tIf (tB (tCall (sp_has_bit K) [] E0 (tCons (tVar 1) (tCons (tVar 2) tNil)))) (tCall (sp_room_with K) [] E0 (tCons (tOp (rIxL K) (tVar 0) (tVar 2)) (tCons (tC (.int 0)) tNil))) (tOp (rIxL K) (tVar 0) (tVar 2)))) rfl sc_dried.nd (pi_range1 rfl T.n_range (pa_cons (pe_callB call_len_seq (by rfl) T.n_len bt_len (pa_cons (pv 0) pa_nil)) pa_nil)) (blkOk_by (N := ["rooms", "bits", "k"]) (sc := defScope s_dried) (by decide +kernel)) (fun _ _ _ _ _ => (pg_name (i := 2) sc_dried.nd rfl (Or.inl rfl))) (fun _ _ _ _ _ => pts_nil) (fun _ _ _ _ _ => (pe_ifExp (pt_val (pe_kn h_has_bit hr (pa_cons (pv 1) (pa_cons (pv 2) pa_nil)))) (pe_kn h_room_with hr (pa_cons (pe_ix ix_list (pv 0) (pv 2) (fun _ _ => rfl)) (pa_cons pe_int pa_nil))) (pe_ix ix_list (pv 0) (pv 2) (fun _ _ => rfl))))))), ?_⟩
    have hts := ht.size
    refine s_retP (ep_lcR (n := ts.length) (by walk_at "ea") (by omega) (fun _ => rfl) (fun i acc H' => Tups H' acc ((dryL (rs.take i) b).map rmV)) (fun _ _ => by rw [List.take_zero]; exact Tups.nil) (fun i acc H1 h => by
        have h1 := h.size
        unfold dryL at h1
        rw [dryFrom_len, List.length_take] at h1
        omega) (fun i acc H1 H2 k h => h.keep k) (fun i acc H1 hi e hw => ?_)) fun v H2 e2 ⟨acc, ⟨d, hv, nD, hd⟩, hw⟩ => q v H2 e2 ⟨d, hv, acc, hd, ?_⟩
    · have hi1 : i < rs.length := by omega
      have hx := List.getElem?_eq_getElem hi1
      obtain ⟨v, hv, hvt⟩ := ht.to hx
      have a1 : atI ts (i : Int) = some v := atI_nat hv
      have hp1 := e _ _ hp
      have e0 : dryL (rs.take (i + 1)) b = dryL (rs.take i) b ++ [dry1 b i rs[i]] := by
        rw [take_snoc hx, dryL_snoc, List.length_take, Nat.min_eq_left (by omega)]
      refine ⟨true, et_yes, fun c => (Bool.noConfusion c), fun _ => (ep_if (φ := TupAt (rmV (dry1 b i rs[i]))) (et_B (ev_kall (ea_cons (ev_var rfl) (ea_cons (ev_var rfl) ea_nil)) u_has_bit)) (fun c => ?_) (fun c => ?_)).imp fun y H3 e3 hy => ?_⟩
      · have e1 : dry1 b i rs[i] = { rs[i] with water := 0 } := if_pos c
        rw [e1]
        exact ep_call (vs := [v, .int ((0 : Nat) : Int)]) (ea_cons (by walk_at "ev") (ea_cons ev_c ea_nil)) (u_room_with (hvt.ex e))
      · have e1 : dry1 b i rs[i] = rs[i] := if_neg (by rw [c]; exact Bool.false_ne_true)
        rw [e1]
        refine (ep_ev (v := v) (by walk_at "ev")).imp fun y H3 e3 hy => ?_
        rw [hy]
        exact (hvt.ex e).ex e3
      · rw [e0, List.map_append]
        exact (hw.ex e3).snoc hy
    · rw [hts, List.take_length] at hw
      exact hw
theorem RmsOk.dry {rs : List Rm} (h : RmsOk rs) (b : Nat) : RmsOk (dryL rs b) := ⟨by unfold dryL; rw [dryFrom_len]; exact h.len, dryFrom_all h.all⟩
/-- it could hang, were a set's rooms dry -/
def hangD (s : Sd) (b : Nat) : Bool := hangW s (dryL s.rooms b) (s.lines.filter Ln.on_)
def sp_hangs_dried (K : PySem.W.Frag) : Sp := fun vs H Q _ => ∃ (a : Addr) (s : Sd) (b : Nat), vs = [.ref a, .int b] ∧ SdAt K H a s ∧ Good s ∧ RetV (.bl (hangD s b)) H Q
theorem u_hangs_dried {H : Hp} {a : Addr} {s : Sd} {b : Nat} (h : SdAt K H a s) (g : Good s) : SpV (sp_hangs_dried K) [.ref a, .int b] H (.bl (hangD s b)) := fun H1 e Q q E => ⟨a, s, b, rfl, h.ex e, g, q⟩
theorem k_hangs_dried (T : Facts K mg) (h_hangs_with : Kn P w K mg base "hangs_with" 5 ["stand", "rooms", "lines"] (sp_hangs_with K)) (h_dried : Kn P w K mg base "dried" 2 ["rooms", "bits"] (sp_dried K)) (h_hooked_lines : Kn P w K mg base "hooked_lines" 1 ["stand"] (sp_hooked_lines K)) : Kn P w K mg base "hangs_dried" 6 ["stand", "bits"] (sp_hangs_dried K) := by
  refine T.raw_hangs_dried.kn sc_hangs_dried (fun vs H Q E h => ?_) (fun cdv A outer st H vs Q E hr h => ?_)
  · obtain ⟨a, s, b, rfl, _⟩ := h
    rfl
  · obtain ⟨a, s, b, rfl, sd, g, q⟩ := h
    refine ⟨_, (pss_one (ps_ret (pe_kn h_hangs_with hr (pa_cons (pv 0) (pa_cons (pe_kn h_dried hr (pa_cons (pe_fld (pv 0) rfl) (pa_cons (pv 1) pa_nil))) (pa_cons (pe_kn h_hooked_lines hr (pa_cons (pv 0) pa_nil)) pa_nil)))))), ?_⟩
    obtain ⟨dx, lr, ll, sd0⟩ := id sd
    refine s_ret (ev_ep (ep_callP (Φ := fun vs H1 => ∃ c d, vs = [.ref a, .ref c, .ref d] ∧ Rows H1 c ((dryL s.rooms b).map rmV) ∧ Rows H1 d ((s.lines.filter Ln.on_).map lnV)) (epa_ev (ev_var rfl) (epa_cons (φ := RowsV ((dryL s.rooms b).map rmV)) (ep_call (ea_cons (ev_rooms T sd0 (ev_var rfl)) (ea_cons (ev_var rfl) ea_nil)) (u_dried sd0.rooms g.n1)) fun x H1 e1 ⟨c, hc, hcr⟩ => epa_one (φ := LinesV (s.lines.filter Ln.on_)) (ep_call (ea_cons (ev_var rfl) ea_nil) (u_hooked_lines (sd.ex e1) g.n2)) fun y H2 e2 ⟨d, hd, hdr⟩ => ⟨c, d, by rw [hc, hd], hcr.ex e2, hdr⟩)) fun vs H1 e1 ⟨c, d, hv, h1, h2⟩ => ?_)) q
    subst hv
    intro H2 e2 Q q2
    exact u_hangs_with (sd.ex e1) g h1 (g.rms.dry b) h2 (g.lns List.filter_sublist) H2 e2 Q fun H3 e3 => q2 _ H3 e3 rfl
end
end Wr
/-! ### part: J -/
set_option Elab.async false
set_option linter.all false
set_option maxRecDepth 100000
set_option maxHeartbeats 4000000
/-! # The walk, tenth part: the least work, the fewest lines; looks -/
namespace Wr
open PySem PySem.Spec PyProof.Rows L2 Evl
/-! the evaluation of what hangs on nothing but what is known -/
local macro_rules | `(tactic| walk_at "cm") => `(tactic| first | exact Or.inl ⟨by decide, by decide⟩ | exact ⟨by decide, by decide⟩ | exact Or.inr ⟨by decide, by decide⟩ | exact Or.inl ⟨by omega, by omega⟩ | exact Or.inr ⟨by omega, by omega⟩ | exact ⟨by omega, by omega⟩ | exact ⟨by omega, by omega, by omega⟩)
local macro_rules | `(tactic| walk_at "at") => `(tactic| first | rfl | assumption)
local macro_rules | `(tactic| walk_at "rv") => `(tactic| first | exact rv_I0 | exact rv_eqI | exact rv_neI | exact rv_ixT (st_of (by assumption)) (by walk_at "at") | exact rv_ixT (by assumption) (by walk_at "at") | exact rv_ixL (sq_of (by assumption)) (by walk_at "at") | exact rv_ixL (by assumption) (by walk_at "at") | (apply rv_I; walk_at "cm"))
local macro_rules | `(tactic| walk_at "ea") => `(tactic| first | exact ea_nil | (apply ea_cons; walk_at "ev"; walk_at "ea"))
local macro_rules | `(tactic| walk_at "rc") => `(tactic| first | exact rc_min2 | exact rc_max2 | exact rc_min3 | exact rc_int | exact rc_len (sq_of (by assumption)) | exact rc_len (by assumption))
local macro_rules | `(tactic| walk_at "ev") => `(tactic| first | exact ev_c | exact ev_var rfl | assumption | (apply ev_op; walk_at "ev"; walk_at "ev"; walk_at "rv") | (apply ev_un; walk_at "ev"; exact ru_neg) | (apply ev_cb; walk_at "ea"; walk_at "rc"))
section
variable {P : Program} {w : World} {K : PySem.W.Frag} {mg : Str → Option Value} {base : Heap}
/-! ## the least work -/
def BestV : Option (Nat × Nat) → V → Hp → Prop
  | none => fun v _ => v = .non
  | some (n, b) => TupAt [.int n, .int b]
theorem BestV.ex {r : Option (Nat × Nat)} {v : V} {H H' : Hp} (h : BestV r v H) (e : Ex H H') : BestV r v H' := by
  cases r with
  | none => exact h
  | some p => exact TupAt.ex (xs := [.int p.1, .int p.2]) h e
/-- «best is None or n < best[0]»: best = (n, bits) where it is so -/
theorem best_turn {σ : L2.St} {H : Hp} {D : Ends} {tn tb : TE} {i k : Nat} {r : Option (Nat × Nat)} {x : V} {n b : Nat} (hi : σ[i]? = some (some x)) (hx : BestV r x H) (hn : ∀ H1, Ex H H1 → Ev tn σ H1 (.int (n : Int))) (hb : Ev tb σ H (.int (b : Int)))
    (k1 : ∀ y H1, Ex H H1 → BestV (better true n b r) y H1 → D.nx (σ.set i (some y)) H1) (k2 : ∀ H1, Ex H H1 → BestV (better true n b r) x H1 → D.nx σ H1) :
    tIfS (tOr (tTest (tOp (fun x y H Q => y = V.non ∧ Q (.bl (decide (x = .non))) H) (tVar i) (tC .non))) (tTest (tOp (rI0 fun i j => .bl (decide (i < j))) tn (tOp (rIxT K) (tVar i) (tC (.int 0)))))) (tAsg (tTup (tCons tn (tCons tb tNil))) (gName i)) tNext D σ H := by
  cases r with
  | none =>
    have hx' : x = .non := hx
    subst hx'
    refine s_when (b := true) (et_or (a := true) (b := false) (et_test (ev_isN (ev_var hi) rfl)) fun z => Bool.noConfusion z) (fun _ H1 e1 => ?_) (fun z => Bool.noConfusion z)
    exact s_asgP (ep_tup (ea_cons (hn _ e1) (ea_cons (hb.mono e1) ea_nil)) (Nat.le_of_ble_eq_true rfl)) fun y H2 e2 hy => k1 y H2 (e1.trans e2) hy
  | some p =>
    obtain ⟨v, u⟩ := p
    obtain ⟨t, rfl, ht⟩ := hx
    have ht0 : TupAt [.int (v : Int), .int (u : Int)] (.ref t) H := ⟨t, rfl, ht⟩
    refine s_when (b := decide ((n : Int) < (v : Int))) (et_or (a := false) (b := decide ((n : Int) < (v : Int))) (et_test (ev_isN (ev_var hi) rfl)) fun _ => et_test (ev_op (hn _ (Ex.refl _)) (ev_op (ev_var hi) ev_c (rv_ixT (st_of ht) rfl)) rv_I0)) (fun c H1 e1 => ?_) (fun c H1 e1 => ?_)
    · have c1 := of_decide_eq_true c
      have eb : better true n b (some (v, u)) = some (n, b) := by
        show (if n < v then some (n, b) else some (v, u)) = some (n, b)
        rw [if_pos (by omega)]
      rw [eb] at k1
      exact s_asgP (ep_tup (ea_cons (hn _ e1) (ea_cons (hb.mono e1) ea_nil)) (Nat.le_of_ble_eq_true rfl)) fun y H2 e2 hy => k1 y H2 (e1.trans e2) hy
    · have c1 := of_decide_eq_false c
      have eb : better true n b (some (v, u)) = some (v, u) := by
        show (if n < v then some (n, b) else some (v, u)) = some (v, u)
        rw [if_neg (by omega)]
      rw [eb] at k2
      exact k2 H1 e1 (ht0.ex e1)
def workOf (s : Sd) : Option (Nat × Nat) := (List.range (2 ^ s.rooms.length)).foldl (fun r b => better (hangD s b) (litOf s.rooms b) b r) none
def sp_least_work (K : PySem.W.Frag) : Sp := fun vs H Q _ => ∃ (a : Addr) (s : Sd), vs = [.ref a] ∧ SdAt K H a s ∧ Good s ∧ RetP (BestV (workOf s)) H Q
theorem u_least_work {H : Hp} {a : Addr} {s : Sd} (h : SdAt K H a s) (g : Good s) : SpP (sp_least_work K) [.ref a] H (BestV (workOf s)) := fun H1 e Q q E => ⟨a, s, rfl, h.ex e, g, q⟩
theorem shl_is {n : Nat} : (1 : Int) * 2 ^ ((n : Nat) : Int).toNat = ((2 ^ n : Nat) : Int) := by
  rw [Int.toNat_natCast, Int.natCast_pow, Int.one_mul]
  rfl
theorem pow_small {n m : Nat} (h : n ≤ m) : 2 ^ n ≤ 2 ^ m := Nat.pow_le_pow_right (by decide) h
theorem k_least_work (T : Facts K mg) (h_hangs_dried : Kn P w K mg base "hangs_dried" 6 ["stand", "bits"] (sp_hangs_dried K)) (h_water_in : Kn P w K mg base "water_in" 1 ["rooms"] (sp_water_in K)) (h_chosen : Kn P w K mg base "chosen" 2 ["things", "bits"] (sp_chosen K)) :
    Kn P w K mg base "least_work" 7 ["stand"] (sp_least_work K) := by
  refine T.raw_least_work.kn sc_least_work (fun vs H Q E h => ?_) (fun cdv A outer st H vs Q E hr h => ?_)
  · obtain ⟨a, s, rfl, _⟩ := h
    rfl
  · obtain ⟨a, s, rfl, sd, g, q⟩ := h
    refine ⟨_, (pss_cons (ps_set (i := 1) sc_least_work.nd rfl (Or.inl rfl) pe_non)
      (pss_cons (ps_for PassesOwn.never rfl (pi_range1 rfl T.n_range (pa_cons (pe_op op_shl pe_int (pe_callB call_len_seq (by rfl) T.n_len bt_len (pa_cons (pe_fld (pv 0) rfl) pa_nil))) pa_nil)) (pg_name (i := 2) sc_least_work.nd rfl (Or.inl rfl))
        (pss_one (ps_if (pt_val (pe_kn h_hangs_dried hr (pa_cons (pv 0) (pa_cons (pv 2) pa_nil)))) (pss_cons (ps_set (i := 3) sc_least_work.nd rfl (Or.inl rfl) (pe_kn h_water_in hr (pa_cons (pe_kn h_chosen hr (pa_cons (pe_fld (pv 0) rfl) (pa_cons (pv 2) pa_nil))) pa_nil)))
          (pss_one (ps_if (PW.pt (pw_or (pt_cmpR op_isN (pv 1) pe_non (nomark _)) (pw_or1 (pt_cmpR op_lt (pv 3) (pe_ix ix_tup (pv 1) pe_int (fun _ _ => rfl)) (nomark _))))) (pss_one (ps_set (i := 1) sc_least_work.nd rfl (Or.inl rfl) (pe_tup (pa_cons (pv 3) (pa_cons (pv 2) pa_nil))))) pss_nil))) pss_nil)))
      (pss_one (ps_ret (pv 1))))), ?_⟩
    refine q_asg ev_c fun H1 e1 => ?_
    obtain ⟨dx, lr, ll, sd1⟩ := sd.ex e1
    obtain ⟨ts, hp, ht⟩ := id sd1.rooms
    have hts := ht.size
    have hle := pow_small g.rn
    refine q_forR1 (n := ((2 ^ s.rooms.length : Nat) : Int)) (ea_cons (ev_is (ev_op ev_c (ev_len2 (ev_rooms T sd1 (ev_var rfl)) hp) (rv_I ⟨by omega, by have := g.rn; omega, by decide⟩)) (congrArg V.int (by rw [shl_is, hts]))) ea_nil) ⟨Int.natCast_nonneg _, Int.ofNat_le.mpr (Nat.le_trans hle (by decide))⟩
      (fun i σ' H' => ∃ x y2 y3, σ' = [some (.ref a), some x, y2, y3] ∧ Ex H H' ∧ BestV ((List.range i).foldl (fun r b => better (hangD s b) (litOf s.rooms b) b r) none) x H')
      (fun H2 e2 => ⟨.non, none, none, rfl, e1.trans e2, rfl⟩) (fun i σ' H' hi p => ?_) (fun σ' H' p => ?_)
    · obtain ⟨x, y2, y3, rfl, e, hx⟩ := p
      have sdh := sd.ex e
      refine s_when (et_B (ev_kall (vs := [.ref a, .int (i : Int)]) (ea_cons (ev_var rfl) (ea_cons (ev_var rfl) ea_nil)) (u_hangs_dried sdh g))) (fun c H2 e2 => ?_) (fun c H2 e2 => ?_)
      · obtain ⟨dy, kr, kl, sd2⟩ := sdh.ex e2
        refine q_asg (v := .int (litOf s.rooms i : Nat)) (ev_ep (ep_callP (Φ := fun vs H3 => ∃ d, vs = [.ref d] ∧ Rows H3 d ((pick s.rooms i).map rmV)) (epa_one (φ := RowsV (pick (s.rooms.map rmV) i)) (ep_call (ea_cons (ev_rooms T sd2 (ev_var rfl)) (ea_cons (ev_var rfl) ea_nil)) (u_chosen sd2.rooms (by rw [List.length_map]; exact g.n1))) fun x H3 e3 ⟨d, hd, hr⟩ => ⟨d, by rw [hd], by rw [← pick_map]; exact hr⟩) fun vs H3 e3 ⟨d, hv, hr⟩ => ?_)) fun H3 e3 => ?_
        · subst hv
          intro H4 e4 Q q4
          exact u_water_in hr (Nat.le_trans (pick_sub _ _).length_le g.n1) H4 e4 Q fun H5 e5 => q4 _ H5 e5 rfl
        · refine best_turn (k := 0) (r := (List.range i).foldl (fun r b => better (hangD s b) (litOf s.rooms b) b r) none) (n := litOf s.rooms i) (b := i) rfl ((hx.ex e2).ex e3) (fun H4 e4 => ev_var rfl) (ev_var rfl) (fun y H4 e4 hy => ⟨y, _, _, rfl, ((e.trans e2).trans e3).trans e4, ?_⟩) (fun H4 e4 hy => ⟨x, _, _, rfl, ((e.trans e2).trans e3).trans e4, ?_⟩)
          · rw [range_fold, c]
            exact hy
          · rw [range_fold, c]
            exact hy
      · refine ⟨x, _, _, rfl, e.trans e2, ?_⟩
        rw [range_fold, c]
        exact hx.ex e2
    · obtain ⟨x, y2, y3, rfl, e, hx⟩ := p
      exact s_ret (ev_var rfl) fun H2 e2 => q x H2 (e.trans e2) (hx.ex e2)
/-! ## the fewest lines -/
def fewOf (s : Sd) : Option (Nat × Nat) := (List.range (2 ^ s.lines.length)).foldl (fun r b => better (hangW s s.rooms (pick s.lines b)) (pick s.lines b).length b r) none
def sp_fewest_lines (K : PySem.W.Frag) : Sp := fun vs H Q _ => ∃ (a : Addr) (s : Sd), vs = [.ref a] ∧ SdAt K H a s ∧ Good s ∧ RetP (BestV (fewOf s)) H Q
theorem u_fewest_lines {H : Hp} {a : Addr} {s : Sd} (h : SdAt K H a s) (g : Good s) : SpP (sp_fewest_lines K) [.ref a] H (BestV (fewOf s)) := fun H1 e Q q E => ⟨a, s, rfl, h.ex e, g, q⟩
theorem k_fewest_lines (T : Facts K mg) (h_chosen : Kn P w K mg base "chosen" 2 ["things", "bits"] (sp_chosen K)) (h_hangs_with : Kn P w K mg base "hangs_with" 5 ["stand", "rooms", "lines"] (sp_hangs_with K)) : Kn P w K mg base "fewest_lines" 6 ["stand"] (sp_fewest_lines K) := by
  refine T.raw_fewest_lines.kn sc_fewest_lines (fun vs H Q E h => ?_) (fun cdv A outer st H vs Q E hr h => ?_)
  · obtain ⟨a, s, rfl, _⟩ := h
    rfl
  · obtain ⟨a, s, rfl, sd, g, q⟩ := h
    refine ⟨_, (pss_cons (ps_set (i := 1) sc_fewest_lines.nd rfl (Or.inl rfl) pe_non)
      (pss_cons (ps_for PassesOwn.never rfl (pi_range1 rfl T.n_range (pa_cons (pe_op op_shl pe_int (pe_callB call_len_seq (by rfl) T.n_len bt_len (pa_cons (pe_fld (pv 0) rfl) pa_nil))) pa_nil)) (pg_name (i := 2) sc_fewest_lines.nd rfl (Or.inl rfl))
        (pss_cons (ps_set (i := 3) sc_fewest_lines.nd rfl (Or.inl rfl) (pe_kn h_chosen hr (pa_cons (pe_fld (pv 0) rfl) (pa_cons (pv 2) pa_nil))))
        (pss_one (ps_if (pt_val (pe_kn h_hangs_with hr (pa_cons (pv 0) (pa_cons (pe_fld (pv 0) rfl) (pa_cons (pv 3) pa_nil))))) (pss_one (ps_if (PW.pt (pw_or (pt_cmpR op_isN (pv 1) pe_non (nomark _)) (pw_or1 (pt_cmpR op_lt (pe_callB call_len_seq (by rfl) T.n_len bt_len (pa_cons (pv 3) pa_nil)) (pe_ix ix_tup (pv 1) pe_int (fun _ _ => rfl)) (nomark _))))) (pss_one (ps_set (i := 1) sc_fewest_lines.nd rfl (Or.inl rfl) (pe_tup (pa_cons (pe_callB call_len_seq (by rfl) T.n_len bt_len (pa_cons (pv 3) pa_nil)) (pa_cons (pv 2) pa_nil))))) pss_nil)) pss_nil))))
      (pss_one (ps_ret (pv 1))))), ?_⟩
    refine q_asg ev_c fun H1 e1 => ?_
    obtain ⟨dx, lr, ll, sd1⟩ := sd.ex e1
    obtain ⟨ts, hp, ht⟩ := id sd1.lines
    have hts := ht.size
    have hle := pow_small g.ln
    refine q_forR1 (n := ((2 ^ s.lines.length : Nat) : Int)) (ea_cons (ev_is (ev_op ev_c (ev_len2 (ev_lines T sd1 (ev_var rfl)) hp) (rv_I ⟨by omega, by have := g.ln; omega, by decide⟩)) (congrArg V.int (by rw [shl_is, hts]))) ea_nil) ⟨Int.natCast_nonneg _, Int.ofNat_le.mpr (Nat.le_trans hle (by decide))⟩
      (fun i σ' H' => ∃ x y2 y3, σ' = [some (.ref a), some x, y2, y3] ∧ Ex H H' ∧ BestV ((List.range i).foldl (fun r b => better (hangW s s.rooms (pick s.lines b)) (pick s.lines b).length b r) none) x H')
      (fun H2 e2 => ⟨.non, none, none, rfl, e1.trans e2, rfl⟩) (fun i σ' H' hi p => ?_) (fun σ' H' p => ?_)
    · obtain ⟨x, y2, y3, rfl, e, hx⟩ := p
      have sdh := sd.ex e
      obtain ⟨dy, kr, kl, sd2⟩ := id sdh
      refine q_asgP (φ := RowsV (pick (s.lines.map lnV) i)) (ep_call (ea_cons (ev_lines T sd2 (ev_var rfl)) (ea_cons (ev_var rfl) ea_nil)) (u_chosen sd2.lines (by rw [List.length_map]; exact g.n2))) fun v H3 e3 ⟨d, hd, hr⟩ => ?_
      subst hd
      rw [pick_map] at hr
      have sd3 := sd2.ex e3
      refine s_when (et_B (ev_kall (vs := [.ref a, .ref kr, .ref d]) (ea_cons (ev_var rfl) (ea_cons (ev_rooms T sd3 (ev_var rfl)) (ea_cons (ev_var rfl) ea_nil))) (u_hangs_with ⟨dy, kr, kl, sd3⟩ g sd3.rooms g.rms hr (g.lns (pick_sub _ _))))) (fun c H4 e4 => ?_) (fun c H4 e4 => ?_)
      · obtain ⟨us, hus, hut⟩ := hr.ex e4
        refine best_turn (k := 0) (r := (List.range i).foldl (fun r b => better (hangW s s.rooms (pick s.lines b)) (pick s.lines b).length b r) none) (n := (pick s.lines i).length) (b := i) rfl ((hx.ex e3).ex e4) (fun H5 e5 => ev_is (ev_len2 (ev_var rfl) (e5 _ _ hus)) (congrArg V.int (by rw [hut.size]))) (ev_var rfl) (fun y H5 e5 hy => ⟨y, _, _, rfl, ((e.trans e3).trans e4).trans e5, ?_⟩) (fun H5 e5 hy => ⟨x, _, _, rfl, ((e.trans e3).trans e4).trans e5, ?_⟩)
        · rw [range_fold, c]
          exact hy
        · rw [range_fold, c]
          exact hy
      · refine ⟨x, _, _, rfl, (e.trans e3).trans e4, ?_⟩
        rw [range_fold, c]
        exact (hx.ex e3).ex e4
    · obtain ⟨x, y2, y3, rfl, e, hx⟩ := p
      exact s_ret (ev_var rfl) fun H2 e2 => q x H2 (e.trans e2) (hx.ex e2)
/-! ## patched_bits -/
def sp_patched_bits (K : PySem.W.Frag) : Sp := fun vs H Q _ => ∃ (p : Addr) (rs : List Rm), vs = [.ref p] ∧ Rows H p (rs.map rmV) ∧ rs.length ≤ 1000 ∧ RetV (.int (pbits rs 0 : Nat)) H Q
theorem u_patched_bits {H : Hp} {p : Addr} {rs : List Rm} (h : Rows H p (rs.map rmV)) (hl : rs.length ≤ 1000) : SpV (sp_patched_bits K) [.ref p] H (.int (pbits rs 0 : Nat)) := fun H1 e Q q E => ⟨p, rs, rfl, h.ex e, hl, q⟩
theorem k_patched_bits (T : Facts K mg) (h_has_bit : Kn P w K mg base "has_bit" 1 ["bits", "k"] (sp_has_bit K)) : Kn P w K mg base "patched_bits" 2 ["rooms"] (sp_patched_bits K) := by
  refine T.raw_patched_bits.kn sc_patched_bits (fun vs H Q E h => ?_) (fun cdv A outer st H vs Q E hr h => ?_)
  · obtain ⟨p, rs, rfl, _⟩ := h
    rfl
  · obtain ⟨p, rs, rfl, ⟨ts, hp, ht⟩, hl, q⟩ := h
    refine ⟨_, (pss_cons (ps_set (i := 1) sc_patched_bits.nd rfl (Or.inl rfl) pe_int)
      (pss_cons (ps_for PassesOwn.never rfl (pi_range1 rfl T.n_range (pa_cons (pe_callB call_len_seq (by rfl) T.n_len bt_len (pa_cons (pv 0) pa_nil)) pa_nil)) (pg_name (i := 2) sc_patched_bits.nd rfl (Or.inl rfl))
        (pss_one (ps_if (PW.pt (pw_and (pt_cmpR op_eq (pe_ix ix_tup (pe_ix ix_list (pv 0) (pv 2) (fun _ _ => rfl)) pe_int (fun _ _ => rfl)) pe_int (nomark _)) (pw_and1 (pt_not (pt_val (pe_kn h_has_bit hr (pa_cons (pv 1) (pa_cons (pv 2) pa_nil)))))))) (pss_one (ps_set (i := 1) sc_patched_bits.nd rfl (Or.inl rfl) (pe_op op_add (pv 1) (pe_op op_shl pe_int (pv 2))))) pss_nil)))
      (pss_one (ps_ret (pv 1))))), ?_⟩
    have hts := ht.size
    refine q_asg ev_c fun H1 e1 => ?_
    refine q_forR1 (n := ((ts.length : Nat) : Int)) (ea_cons (ev_len2 (ev_var rfl) (e1 _ _ hp)) ea_nil) ⟨by omega, by omega⟩ (fun i σ' H' => ∃ y, σ' = [some (.ref p), some (.int (pbits (rs.take i) 0 : Nat)), y] ∧ Ex H H')
      (fun H2 e2 => ⟨none, rfl, e1.trans e2⟩) (fun i σ' H' hi pw => ?_) (fun σ' H' pw => ?_)
    · obtain ⟨y, rfl, e⟩ := pw
      have hi1 : i < rs.length := by omega
      have hx := List.getElem?_eq_getElem hi1
      generalize rs[i] = r at hx
      obtain ⟨v, hv, t, rfl, ht1⟩ := ht.to hx
      have a1 : atI ts (i : Int) = some (.ref t) := atI_nat hv
      have hp1 := e _ _ hp
      have ht2 := e _ _ ht1
      have es : pbits (rs.take (i + 1)) 0 = pbits (rs.take i) 0 + (if r.patched = true then 2 ^ i else 0) := by
        rw [take_snoc hx, pbits_snoc, List.length_take, Nat.min_eq_left (by omega), Nat.zero_add]
      have hb : (pbits (rs.take i) 0).testBit i = false := by
        have := pbits_lt (rs.take i) 0
        rw [List.length_take, Nat.min_eq_left (by omega), Nat.zero_add] at this
        exact Nat.testBit_lt_two_pow (by omega)
      refine s_when (et_and (a := decide (b01 r.patched = 1)) (b := !((pbits (rs.take i) 0).testBit i)) (et_test (by walk_at "ev")) fun _ => et_not (et_B (ev_kall (vs := [.int (pbits (rs.take i) 0 : Nat), .int (i : Int)]) (ea_cons (ev_var rfl) (ea_cons (ev_var rfl) ea_nil)) u_has_bit))) (fun c H2 e2 => ?_) (fun c H2 e2 => ?_)
      · rw [Bool.and_eq_true, decide_eq_true_iff] at c
        have c1 := b01_one.mp c.1
        rw [if_pos c1] at es
        refine s_asg (v := .int (pbits (rs.take (i + 1)) 0 : Nat)) (ev_is (ev_op (ev_var rfl) (ev_op ev_c (ev_var rfl) (rv_I ⟨by omega, by omega, by decide⟩)) rv_I0) (congrArg V.int ?_)) fun H3 e3 => ⟨_, rfl, (e.trans e2).trans e3⟩
        rw [shl_is, es]
        omega
      · have c1 : ¬ r.patched = true := fun z => by
          rw [hb, decide_eq_true (b01_one.mpr z)] at c
          cases c
        rw [if_neg c1, Nat.add_zero] at es
        exact ⟨_, by rw [es]; rfl, e.trans e2⟩
    · obtain ⟨y, rfl, e⟩ := pw
      rw [Int.toNat_natCast, hts, List.take_length]
      exact s_ret (ev_var rfl) (RetV.on q e)
end
end Wr
/-! ### part: L -/
set_option Elab.async false
set_option linter.all false
set_option maxRecDepth 100000
set_option maxHeartbeats 4000000
/-! # The walk, eleventh part: looks -/
namespace Wr
open PySem PySem.Spec PyProof.Rows L2 Evl
/-! the evaluation of what hangs on nothing but what is known -/
local macro_rules | `(tactic| walk_at "cm") => `(tactic| first | exact Or.inl ⟨by decide, by decide⟩ | exact ⟨by decide, by decide⟩ | exact Or.inr ⟨by decide, by decide⟩ | exact Or.inl ⟨by omega, by omega⟩ | exact Or.inr ⟨by omega, by omega⟩ | exact ⟨by omega, by omega⟩ | exact ⟨by omega, by omega, by omega⟩)
local macro_rules | `(tactic| walk_at "at") => `(tactic| first | rfl | assumption)
local macro_rules | `(tactic| walk_at "rv") => `(tactic| first | exact rv_I0 | exact rv_eqI | exact rv_neI | exact rv_ixT (st_of (by assumption)) (by walk_at "at") | exact rv_ixT (by assumption) (by walk_at "at") | exact rv_ixL (sq_of (by assumption)) (by walk_at "at") | exact rv_ixL (by assumption) (by walk_at "at") | (apply rv_I; walk_at "cm"))
local macro_rules | `(tactic| walk_at "ea") => `(tactic| first | exact ea_nil | (apply ea_cons; walk_at "ev"; walk_at "ea"))
local macro_rules | `(tactic| walk_at "rc") => `(tactic| first | exact rc_min2 | exact rc_max2 | exact rc_min3 | exact rc_int | exact rc_len (sq_of (by assumption)) | exact rc_len (by assumption))
local macro_rules | `(tactic| walk_at "ev") => `(tactic| first | exact ev_c | exact ev_var rfl | assumption | (apply ev_op; walk_at "ev"; walk_at "ev"; walk_at "rv") | (apply ev_un; walk_at "ev"; exact ru_neg) | (apply ev_cb; walk_at "ea"; walk_at "rc"))
section
variable {P : Program} {w : World} {K : PySem.W.Frag} {mg : Str → Option Value} {base : Heap}
/-! ## what a look hands back -/
def IntsV (out : List Int) : V → Hp → Prop := fun v H => ∃ p, v = .ref p ∧ H p = some (.lst (out.map V.int))
theorem IntsV.ex {out : List Int} {v : V} {H H' : Hp} (h : IntsV out v H) (e : Ex H H') : IntsV out v H' := by
  obtain ⟨p, h1, h2⟩ := h
  exact ⟨p, h1, e _ _ h2⟩
def spL0 (f : Sd → List Int) (K : PySem.W.Frag) : Sp := fun vs H Q _ => ∃ (a n : Addr) (s : Sd), vs = [.ref a, .ref n] ∧ SdAt K H a s ∧ Good s ∧ RetP (IntsV (f s)) H Q
def spL1 (f : Sd → Nat → List Int) (K : PySem.W.Frag) : Sp := fun vs H Q _ => ∃ (a n : Addr) (s : Sd) (k : Nat), vs = [.ref a, .ref n] ∧ SdAt K H a s ∧ Good s ∧ H n = some (.lst [.int k]) ∧ RetP (IntsV (f s k)) H Q
section
variable {σ : L2.St} {H : Hp} {D : Ends} {ta : TA} {te : TE}
theorem ep_ints {zs : List Int} (h : EvA ta σ H (zs.map V.int)) (hz : zs.length ≤ 100000) : EvP (tLst ta) σ H (IntsV zs) := (ep_newL (el_lst h (by rw [List.length_map]; exact hz))).imp fun v H2 e2 ⟨p, h1, _, h3⟩ => ⟨p, h1, h3⟩
theorem s_ints {zs : List Int} {Q : VK} (h : EvA ta σ H (zs.map V.int)) (hz : zs.length ≤ 100000) (q : RetP (IntsV zs) H Q) (hq : D.rt = Q) : tRet (tLst ta) D σ H := by
  subst hq
  exact s_retP (ep_ints h hz) q
/-- return [e] -/
theorem s_one {z : Int} (h : Ev te σ H (.int z)) (q : RetP (IntsV [z]) H D.rt) : tRet (tLst (tCons te tNil)) D σ H := s_retP (ep_ints (zs := [z]) (ea_cons h ea_nil) (Nat.le_of_ble_eq_true rfl)) q
theorem s_two {tf : TE} {z y : Int} (h : Ev te σ H (.int z)) (h' : Ev tf σ H (.int y)) (q : RetP (IntsV [z, y]) H D.rt) : tRet (tLst (tCons te (tCons tf tNil))) D σ H := s_retP (ep_ints (zs := [z, y]) (ea_cons h (ea_cons h' ea_nil)) (Nat.le_of_ble_eq_true rfl)) q
theorem s_three {tf tg : TE} {z y x : Int} (h : Ev te σ H (.int z)) (h' : Ev tf σ H (.int y)) (h2 : Ev tg σ H (.int x)) (q : RetP (IntsV [z, y, x]) H D.rt) : tRet (tLst (tCons te (tCons tf (tCons tg tNil)))) D σ H := s_retP (ep_ints (zs := [z, y, x]) (ea_cons h (ea_cons h' (ea_cons h2 ea_nil))) (Nat.le_of_ble_eq_true rfl)) q
theorem ev_int {b : Bool} (h : Ev te σ H (.bl b)) : Ev (tCB (fun xs H Q => (∃ i, xs = [V.int i] ∧ Q (.int i) H) ∨ ∃ k, xs = [.bl k] ∧ Q (.int (if k then 1 else 0)) H) (tCons te tNil)) σ H (.int (b01 b)) := ev_cb (ea_cons h ea_nil) rc_int
end
/-! ## can, net, bears -/
def lkCan (s : Sd) : List Int := [b01 s.w.can, b01 (decide (s.w.net ≤ (Km420.bears s.w.used : Nat))), b01 (decide (s.w.net < 0))]
theorem k_tell_can (T : Facts K mg) (h_left_of : Kn P w K mg base "left_of" 3 ["stand"] (sp_left_of K)) (h_hangs : Kn P w K mg base "hangs" 6 ["stand"] (sp_hangs K)) (h_borne : Kn P w K mg base "borne" 1 ["loads"] (sp_borne K)) (h_hooked_loads : Kn P w K mg base "hooked_loads" 2 ["stand"] (sp_hooked_loads K)) :
    Kn P w K mg base "tell_can" 7 ["stand", "numbers"] (spL0 lkCan K) := by
  refine T.raw_tell_can.kn sc_tell_can (fun vs H Q E h => ?_) (fun cdv A outer st H vs Q E hr h => ?_)
  · obtain ⟨a, n, s, rfl, _⟩ := h
    rfl
  · obtain ⟨a, n, s, rfl, sd, g, q⟩ := h
    refine ⟨_, (pss_cons (ps_set (i := 2) sc_tell_can.nd rfl (Or.inl rfl) (pe_kn h_left_of hr (pa_cons (pv 0) pa_nil)))
      (pss_one (ps_ret (pe_lst (pa_cons (pe_callTy call_int1 (by rfl) T.n_int bt_int (pa_cons (pe_kn h_hangs hr (pa_cons (pv 0) pa_nil)) pa_nil)) (pa_cons (pe_callTy call_int1 (by rfl) T.n_int bt_int (pa_cons (pe_cmpR op_ge (pe_kn h_borne hr (pa_cons (pe_kn h_hooked_loads hr (pa_cons (pv 0) pa_nil)) pa_nil)) (pv 2) (nomark _)) pa_nil)) (pa_cons (pe_callTy call_int1 (by rfl) T.n_int bt_int (pa_cons (pe_cmpR op_lt (pv 2) pe_int (nomark _)) pa_nil)) pa_nil))))))), ?_⟩
    refine q_asg (ev_kall (ea_cons (ev_var rfl) ea_nil) (u_left_of sd g)) fun H1 e1 => ?_
    have sd1 := sd.ex e1
    refine s_three (ev_int (ev_kall (ea_cons (ev_var rfl) ea_nil) (u_hangs sd1 g))) (ev_int (ev_op (x := .int (Km420.bears s.w.used : Nat)) (ev_ep (ep_callP (Φ := fun vs H2 => ∃ b, vs = [.ref b] ∧ Loads H2 b s.w.used) (epa_one (φ := LoadsV s.w.used) (ep_call (ea_cons (ev_var rfl) ea_nil) (u_hooked_loads sd1 g)) fun x H2 e2 ⟨b, hb, hl⟩ => ⟨b, by rw [hb], hl⟩) fun vs H2 e2 ⟨b, hv, hl⟩ => ?_)) (ev_var rfl) rv_I0)) (ev_int (ev_op (ev_var rfl) ev_c rv_I0)) (q.on e1)
    subst hv
    intro H3 e3 Q q3
    exact u_borne hl g.used.ok H3 e3 Q fun H4 e4 => q3 _ H4 e4 rfl
def lkNet (s : Sd) : List Int := [s.w.net / 1000 + 10000000, s.w.moment / 100000 + 1000000000]
theorem k_tell_net (T : Facts K mg) (h_left_of : Kn P w K mg base "left_of" 3 ["stand"] (sp_left_of K)) (h_told_moment : Kn P w K mg base "told_moment" 1 ["moment"] (sp_told_moment K)) (h_moment_now : Kn P w K mg base "moment_now" 3 ["stand"] (sp_moment_now K)) :
    Kn P w K mg base "tell_net" 4 ["stand", "numbers"] (spL0 lkNet K) := by
  refine T.raw_tell_net.kn sc_tell_net (fun vs H Q E h => ?_) (fun cdv A outer st H vs Q E hr h => ?_)
  · obtain ⟨a, n, s, rfl, _⟩ := h
    rfl
  · obtain ⟨a, n, s, rfl, sd, g, q⟩ := h
    refine ⟨_, (pss_one (ps_ret (pe_lst (pa_cons (pe_op op_add (pe_op op_fdiv (pe_kn h_left_of hr (pa_cons (pv 0) pa_nil)) (pe_gi T.g_GRAMS)) (pe_gi T.g_MORE_KG)) (pa_cons (pe_kn h_told_moment hr (pa_cons (pe_kn h_moment_now hr (pa_cons (pv 0) pa_nil)) pa_nil)) pa_nil))))), ?_⟩
    exact s_two (ev_op (ev_op (ev_kall (ea_cons (ev_var rfl) ea_nil) (u_left_of sd g)) ev_c (rv_I ⟨by decide, by decide⟩)) ev_c rv_I0) (ev_kall (ea_cons (ev_kall (ea_cons (ev_var rfl) ea_nil) (u_moment_now sd g)) ea_nil) u_told_moment) q
def lkBears (s : Sd) : List Int := [((Km420.sum ((s.lines.filter Ln.on_).map Ln.kg) : Nat) : Int), ((s.lines.filter Ln.on_).length : Int)]
theorem k_tell_bears (T : Facts K mg) (h_hooked_lines : Kn P w K mg base "hooked_lines" 1 ["stand"] (sp_hooked_lines K)) : Kn P w K mg base "tell_bears" 2 ["stand", "numbers"] (spL0 lkBears K) := by
  refine T.raw_tell_bears.kn sc_tell_bears (fun vs H Q E h => ?_) (fun cdv A outer st H vs Q E hr h => ?_)
  · obtain ⟨a, n, s, rfl, _⟩ := h
    rfl
  · obtain ⟨a, n, s, rfl, sd, g, q⟩ := h
    refine ⟨_, (pss_cons (ps_set (i := 2) sc_tell_bears.nd rfl (Or.inl rfl) (pe_kn h_hooked_lines hr (pa_cons (pv 0) pa_nil)))
      (pss_one (ps_ret (pe_lst (pa_cons (pe_callB (cr_sum rfl) (by rfl) T.n_sum bt_sum (pa_cons (pe_lc (own := [("line", 3)]) (g := (gName 3)) (tt := tYes) (te := (tOp (rIxT K) (tVar 3) (tC (.int 1)))) rfl sc_tell_bears.nd (pi_list (pv 2)) (blkOk_by (N := ["stand", "numbers", "lines", "line"]) (sc := defScope s_tell_bears) (by decide +kernel)) (fun _ _ _ _ _ => (pg_name (i := 3) sc_tell_bears.nd rfl (Or.inl rfl))) (fun _ _ _ _ _ => pts_nil) (fun _ _ _ _ _ => (pe_ix ix_tup (pv 3) pe_int (fun _ _ => rfl)))) pa_nil)) (pa_cons (pe_callB call_len_seq (by rfl) T.n_len bt_len (pa_cons (pv 2) pa_nil)) pa_nil)))))), ?_⟩
    refine q_asgP (ep_call (ea_cons (ev_var rfl) ea_nil) (u_hooked_lines sd g.n2)) fun v H1 e1 ⟨d, hv, ts, hp, ht⟩ => ?_
    subst hv
    unfold lkBears at q
    rw [← sum_cast] at q
    have hts := ht.size
    have hln := g.on.1
    refine s_two (ev_sumN (el_lcM (xs := ts) (((s.lines.filter Ln.on_).map fun (x : Ln) => ((x.kg : Nat) : Int)).map V.int) (by rw [List.length_map, List.length_map, ht.size]) (ev_var rfl) (sq_of hp) (by omega) fun i x y H2 hx hy e => ?_)) (ev_is (ev_len2 (ev_var rfl) hp) (congrArg V.int (by rw [ht.size]))) (q.on e1)
    obtain ⟨l, hl, hv⟩ := ht.of hx
    rw [List.map_map] at hy
    have ey := map_at hl hy
    subst ey
    obtain ⟨t, rfl, ht1⟩ := hv.ex e
    exact turn_name rfl (by walk_at "ev")
/-! ## work, would, few -/
def lkWork (s : Sd) : List Int := match workOf s with
  | none => [-33]
  | some (v, b) => [(v : Int), (b : Int)]
theorem k_tell_work (T : Facts K mg) (h_least_work : Kn P w K mg base "least_work" 7 ["stand"] (sp_least_work K)) : Kn P w K mg base "tell_work" 8 ["stand", "numbers"] (spL0 lkWork K) := by
  refine T.raw_tell_work.kn sc_tell_work (fun vs H Q E h => ?_) (fun cdv A outer st H vs Q E hr h => ?_)
  · obtain ⟨a, n, s, rfl, _⟩ := h
    rfl
  · obtain ⟨a, n, s, rfl, sd, g, q⟩ := h
    refine ⟨_, (pss_cons (ps_set (i := 2) sc_tell_work.nd rfl (Or.inl rfl) (pe_kn h_least_work hr (pa_cons (pv 0) pa_nil)))
      (pss_cons (ps_if (pt_cmpR op_isN (pv 2) pe_non (nomark _)) (pss_one (ps_ret (pe_lst (pa_cons (pe_un un_neg pe_int) pa_nil)))) pss_nil)
      (pss_one (ps_ret (pe_lst (pa_cons (pe_ix ix_tup (pv 2) pe_int (fun _ _ => rfl)) (pa_cons (pe_ix ix_tup (pv 2) pe_int (fun _ _ => rfl)) pa_nil))))))), ?_⟩
    refine q_asgP (ep_call (ea_cons (ev_var rfl) ea_nil) (u_least_work sd g)) fun v H1 e1 hb => ?_
    unfold lkWork at q
    cases hw : workOf s with
    | none =>
      rw [hw] at hb q
      have hv : v = .non := hb
      subst hv
      exact q_when (b := true) (et_test (ev_isN (ev_var rfl) rfl)) (fun _ H2 e2 => s_one (by walk_at "ev") (q.on (e1.trans e2))) (fun z => Bool.noConfusion z)
    | some p =>
      obtain ⟨x, y⟩ := p
      rw [hw] at hb q
      obtain ⟨t, rfl, ht⟩ := hb
      refine q_when (b := false) (et_test (ev_isN (ev_var rfl) rfl)) (fun z => Bool.noConfusion z) (fun _ H2 e2 => ?_)
      have ht2 := e2 _ _ ht
      exact s_two (by walk_at "ev") (by walk_at "ev") (q.on (e1.trans e2))
def lkFew (s : Sd) : List Int := match fewOf s with
  | none => [-33]
  | some (v, b) => [(v : Int), (b : Int)]
theorem k_tell_few (T : Facts K mg) (h_fewest_lines : Kn P w K mg base "fewest_lines" 6 ["stand"] (sp_fewest_lines K)) : Kn P w K mg base "tell_few" 7 ["stand", "numbers"] (spL0 lkFew K) := by
  refine T.raw_tell_few.kn sc_tell_few (fun vs H Q E h => ?_) (fun cdv A outer st H vs Q E hr h => ?_)
  · obtain ⟨a, n, s, rfl, _⟩ := h
    rfl
  · obtain ⟨a, n, s, rfl, sd, g, q⟩ := h
    refine ⟨_, (pss_cons (ps_set (i := 2) sc_tell_few.nd rfl (Or.inl rfl) (pe_kn h_fewest_lines hr (pa_cons (pv 0) pa_nil)))
      (pss_cons (ps_if (pt_cmpR op_isN (pv 2) pe_non (nomark _)) (pss_one (ps_ret (pe_lst (pa_cons (pe_un un_neg pe_int) pa_nil)))) pss_nil)
      (pss_one (ps_ret (pe_lst (pa_cons (pe_ix ix_tup (pv 2) pe_int (fun _ _ => rfl)) (pa_cons (pe_ix ix_tup (pv 2) pe_int (fun _ _ => rfl)) pa_nil))))))), ?_⟩
    refine q_asgP (ep_call (ea_cons (ev_var rfl) ea_nil) (u_fewest_lines sd g)) fun v H1 e1 hb => ?_
    unfold lkFew at q
    cases hw : fewOf s with
    | none =>
      rw [hw] at hb q
      have hv : v = .non := hb
      subst hv
      exact q_when (b := true) (et_test (ev_isN (ev_var rfl) rfl)) (fun _ H2 e2 => s_one (by walk_at "ev") (q.on (e1.trans e2))) (fun z => Bool.noConfusion z)
    | some p =>
      obtain ⟨x, y⟩ := p
      rw [hw] at hb q
      obtain ⟨t, rfl, ht⟩ := hb
      refine q_when (b := false) (et_test (ev_isN (ev_var rfl) rfl)) (fun z => Bool.noConfusion z) (fun _ H2 e2 => ?_)
      have ht2 := e2 _ _ ht
      exact s_two (by walk_at "ev") (by walk_at "ev") (q.on (e1.trans e2))
def lkWould (s : Sd) (b : Nat) : List Int := if 2 ^ s.rooms.length ≤ b then [-22] else [b01 (hangD s b), ((litOf s.rooms b : Nat) : Int)]
theorem k_tell_would (T : Facts K mg) (h_hangs_dried : Kn P w K mg base "hangs_dried" 6 ["stand", "bits"] (sp_hangs_dried K)) (h_water_in : Kn P w K mg base "water_in" 1 ["rooms"] (sp_water_in K)) (h_chosen : Kn P w K mg base "chosen" 2 ["things", "bits"] (sp_chosen K)) :
    Kn P w K mg base "tell_would" 7 ["stand", "numbers"] (spL1 lkWould K) := by
  refine T.raw_tell_would.kn sc_tell_would (fun vs H Q E h => ?_) (fun cdv A outer st H vs Q E hr h => ?_)
  · obtain ⟨a, n, s, k, rfl, _⟩ := h
    rfl
  · obtain ⟨a, n, s, b, rfl, sd, g, hn, q⟩ := h
    refine ⟨_, (pss_cons (ps_set (i := 2) sc_tell_would.nd rfl (Or.inl rfl) (pe_ix ix_list (pv 1) pe_int (fun _ _ => rfl)))
      (pss_cons (ps_if (pt_cmpR op_ge (pv 2) (pe_op op_shl pe_int (pe_callB call_len_seq (by rfl) T.n_len bt_len (pa_cons (pe_fld (pv 0) rfl) pa_nil))) (nomark _)) (pss_one (ps_ret (pe_lst (pa_cons (pe_un un_neg pe_int) pa_nil)))) pss_nil)
      (pss_one (ps_ret (pe_lst (pa_cons (pe_callTy call_int1 (by rfl) T.n_int bt_int (pa_cons (pe_kn h_hangs_dried hr (pa_cons (pv 0) (pa_cons (pv 2) pa_nil))) pa_nil)) (pa_cons (pe_kn h_water_in hr (pa_cons (pe_kn h_chosen hr (pa_cons (pe_fld (pv 0) rfl) (pa_cons (pv 2) pa_nil))) pa_nil)) pa_nil))))))), ?_⟩
    refine q_asg (v := .int (b : Int)) (by walk_at "ev") fun H1 e1 => ?_
    obtain ⟨dx, lr, ll, sd1⟩ := sd.ex e1
    obtain ⟨ts, hp, ht⟩ := id sd1.rooms
    have hts := ht.size
    unfold lkWould at q
    refine q_when (b := decide (((2 ^ s.rooms.length : Nat) : Int) ≤ (b : Int))) (et_test (ev_op (ev_var rfl) (ev_is (ev_op ev_c (ev_len2 (ev_rooms T sd1 (ev_var rfl)) hp) (rv_I ⟨by omega, by have := g.rn; omega, by decide⟩)) (congrArg V.int (by rw [shl_is, hts]))) rv_I0)) (fun c H2 e2 => ?_) (fun c H2 e2 => ?_)
    · have c1 := Int.ofNat_le.mp (of_decide_eq_true c)
      rw [if_pos c1] at q
      exact s_one (by walk_at "ev") (q.on (e1.trans e2))
    · have c1 : ¬ 2 ^ s.rooms.length ≤ b := fun z => of_decide_eq_false c (Int.ofNat_le.mpr z)
      rw [if_neg c1] at q
      have sd2 := sd1.ex e2
      refine s_two (ev_int (ev_kall (ea_cons (ev_var rfl) (ea_cons (ev_var rfl) ea_nil)) (u_hangs_dried ⟨dx, lr, ll, sd2⟩ g))) (ev_ep (ep_callP (Φ := fun vs H3 => ∃ d, vs = [.ref d] ∧ Rows H3 d ((pick s.rooms b).map rmV)) (epa_one (φ := RowsV (pick (s.rooms.map rmV) b)) (ep_call (ea_cons (ev_rooms T sd2 (ev_var rfl)) (ea_cons (ev_var rfl) ea_nil)) (u_chosen sd2.rooms (by rw [List.length_map]; exact g.n1))) fun x H3 e3 ⟨d, hd, hr⟩ => ⟨d, by rw [hd], by rw [← pick_map]; exact hr⟩) fun vs H3 e3 ⟨d, hv, hr⟩ => ?_)) (q.on (e1.trans e2))
      subst hv
      intro H4 e4 Q q4
      exact u_water_in hr (Nat.le_trans (pick_sub _ _).length_le g.n1) H4 e4 Q fun H5 e5 => q4 _ H5 e5 rfl
/-! ## dry, look, lifts: of a room -/
def lkDry (s : Sd) (k : Nat) : List Int := match s.rooms[k]? with
  | none => [-2]
  | some r => if dryV r < 0 then [-33] else [dryV r]
theorem k_tell_dry (T : Facts K mg) (h_minutes_till_dry : Kn P w K mg base "minutes_till_dry" 3 ["room"] (sp_minutes_till_dry K)) : Kn P w K mg base "tell_dry" 4 ["stand", "numbers"] (spL1 lkDry K) := by
  refine T.raw_tell_dry.kn sc_tell_dry (fun vs H Q E h => ?_) (fun cdv A outer st H vs Q E hr h => ?_)
  · obtain ⟨a, n, s, k, rfl, _⟩ := h
    rfl
  · obtain ⟨a, n, s, k, rfl, ⟨dx, lr, ll, sd⟩, g, hn, q⟩ := h
    refine ⟨_, (pss_cons (ps_set (i := 2) sc_tell_dry.nd rfl (Or.inl rfl) (pe_ix ix_list (pv 1) pe_int (fun _ _ => rfl)))
      (pss_cons (ps_if (pt_cmpR op_ge (pv 2) (pe_callB call_len_seq (by rfl) T.n_len bt_len (pa_cons (pe_fld (pv 0) rfl) pa_nil)) (nomark _)) (pss_one (ps_ret (pe_lst (pa_cons (pe_un un_neg pe_int) pa_nil)))) pss_nil)
      (pss_cons (ps_set (i := 3) sc_tell_dry.nd rfl (Or.inl rfl) (pe_kn h_minutes_till_dry hr (pa_cons (pe_ix ix_list (pe_fld (pv 0) rfl) (pv 2) (fun _ _ => rfl)) pa_nil)))
      (pss_cons (ps_if (pt_cmpR op_lt (pv 3) pe_int (nomark _)) (pss_one (ps_ret (pe_lst (pa_cons (pe_un un_neg pe_int) pa_nil)))) pss_nil)
      (pss_one (ps_ret (pe_lst (pa_cons (pv 3) pa_nil)))))))), ?_⟩
    refine q_asg (v := .int (k : Int)) (by walk_at "ev") fun H1 e1 => ?_
    have sd1 := sd.ex e1
    obtain ⟨ts, hp, ht⟩ := sd1.rooms
    have hts := ht.size
    unfold lkDry at q
    refine q_when (et_test (ev_op (ev_var rfl) (ev_len2 (ev_rooms T sd1 (ev_var rfl)) hp) rv_I0)) (fun c H2 e2 => ?_) (fun c H2 e2 => ?_)
    · have c1 := of_decide_eq_true c
      rw [List.getElem?_eq_none (by omega)] at q
      exact s_one (by walk_at "ev") (q.on (e1.trans e2))
    · have c1 := of_decide_eq_false c
      have hk := List.getElem?_eq_getElem (show k < s.rooms.length by omega)
      generalize s.rooms[k] = r at hk
      obtain ⟨v, hv, hvt⟩ := ht.to hk
      rw [hk] at q
      have sd2 := sd1.ex e2
      refine q_asg (ev_kall (ea_cons (ix_k (ev_rooms T sd2 (ev_var rfl)) (ev_var rfl) (e2 _ _ hp) hv) ea_nil) (u_minutes_till_dry (hvt.ex e2) (g.rooms r (List.mem_of_getElem? hk)).water)) fun H3 e3 => ?_
      have e13 := (e1.trans e2).trans e3
      refine q_when (et_test (by walk_at "ev")) (fun c2 H4 e4 => ?_) (fun c2 H4 e4 => ?_)
      · have q : RetP (IntsV (if dryV r < 0 then [-33] else [dryV r])) H Q := q
        rw [if_pos (of_decide_eq_true c2)] at q
        exact s_one (by walk_at "ev") (q.on (e13.trans e4))
      · have q : RetP (IntsV (if dryV r < 0 then [-33] else [dryV r])) H Q := q
        rw [if_neg (of_decide_eq_false c2)] at q
        exact s_one (ev_var rfl) (q.on (e13.trans e4))
theorem q_asg6 {σ : L2.St} {H : Hp} {te : TE} {D : Ends} {tz : TS} {v a b c d e f : V} {i j k l m n : Nat} (h : Ev te σ H v) (hv : TupAt [a, b, c, d, e, f] v H) (q : ∀ H1, Ex H H1 → tz D ((((((σ.set i (some a)).set j (some b)).set k (some c)).set l (some d)).set m (some e)).set n (some f)) H1) :
    tSeq (tAsg te (gTup K 6 (gCons (gName i) (gCons (gName j) (gCons (gName k) (gCons (gName l) (gCons (gName m) (gCons (gName n) gNil)))))))) tz D σ H := h H (Ex.refl H) _ fun H1 e1 => by
  obtain ⟨t, rfl, ht⟩ := hv.ex e1
  exact ⟨t, _, rfl, st_of ht, rfl, _, _, rfl, _, _, rfl, _, _, rfl, _, _, rfl, _, _, rfl, _, _, rfl, rfl, q H1 e1⟩
def lkLook (s : Sd) (k : Nat) : List Int := match s.rooms[k]? with
  | none => [-2]
  | some r => [(r.water : Int), (r.most : Int), (r.leak : Int), b01 r.patched, (r.pump : Int)]
theorem k_tell_look (T : Facts K mg) : Kn P w K mg base "tell_look" 1 ["stand", "numbers"] (spL1 lkLook K) := by
  refine T.raw_tell_look.kn sc_tell_look (fun vs H Q E h => ?_) (fun cdv A outer st H vs Q E hr h => ?_)
  · obtain ⟨a, n, s, k, rfl, _⟩ := h
    rfl
  · obtain ⟨a, n, s, k, rfl, ⟨dx, lr, ll, sd⟩, g, hn, q⟩ := h
    refine ⟨_, (pss_cons (ps_set (i := 2) sc_tell_look.nd rfl (Or.inl rfl) (pe_ix ix_list (pv 1) pe_int (fun _ _ => rfl)))
      (pss_cons (ps_if (pt_cmpR op_ge (pv 2) (pe_callB call_len_seq (by rfl) T.n_len bt_len (pa_cons (pe_fld (pv 0) rfl) pa_nil)) (nomark _)) (pss_one (ps_ret (pe_lst (pa_cons (pe_un un_neg pe_int) pa_nil)))) pss_nil)
      (pss_cons (ps_asg (pe_ix ix_list (pe_fld (pv 0) rfl) (pv 2) (fun _ _ => rfl)) (pg_tup rfl (pgs_cons (pg_name (i := 3) sc_tell_look.nd rfl (Or.inl rfl)) (pgs_cons (pg_name (i := 4) sc_tell_look.nd rfl (Or.inl rfl)) (pgs_cons (pg_name (i := 5) sc_tell_look.nd rfl (Or.inl rfl)) (pgs_cons (pg_name (i := 6) sc_tell_look.nd rfl (Or.inl rfl)) (pgs_cons (pg_name (i := 7) sc_tell_look.nd rfl (Or.inl rfl)) (pgs_cons (pg_name (i := 8) sc_tell_look.nd rfl (Or.inl rfl)) pgs_nil))))))))
      (pss_one (ps_ret (pe_lst (pa_cons (pv 8) (pa_cons (pv 3) (pa_cons (pv 5) (pa_cons (pv 6) (pa_cons (pv 7) pa_nil))))))))))), ?_⟩
    refine q_asg (v := .int (k : Int)) (by walk_at "ev") fun H1 e1 => ?_
    have sd1 := sd.ex e1
    obtain ⟨ts, hp, ht⟩ := sd1.rooms
    have hts := ht.size
    unfold lkLook at q
    refine q_when (et_test (ev_op (ev_var rfl) (ev_len2 (ev_rooms T sd1 (ev_var rfl)) hp) rv_I0)) (fun c H2 e2 => ?_) (fun c H2 e2 => ?_)
    · have c1 := of_decide_eq_true c
      rw [List.getElem?_eq_none (by omega)] at q
      exact s_one (by walk_at "ev") (q.on (e1.trans e2))
    · have c1 := of_decide_eq_false c
      have hk := List.getElem?_eq_getElem (show k < s.rooms.length by omega)
      generalize s.rooms[k] = r at hk
      obtain ⟨v, hv, hvt⟩ := ht.to hk
      rw [hk] at q
      have sd2 := sd1.ex e2
      refine q_asg6 (ix_k (ev_rooms T sd2 (ev_var rfl)) (ev_var rfl) (e2 _ _ hp) hv) (hvt.ex e2) fun H3 e3 => ?_
      exact s_ints (zs := [(r.water : Int), (r.most : Int), (r.leak : Int), b01 r.patched, (r.pump : Int)]) (by walk_at "ea") (Nat.le_of_ble_eq_true rfl) (q.on ((e1.trans e2).trans e3)) rfl
def lkLifts (s : Sd) (k : Nat) : List Int := match s.rooms[k]? with
  | none => [-2]
  | some r => [((r.lifts : Nat) : Int)]
theorem k_tell_lifts (T : Facts K mg) (h_air_grams : Kn P w K mg base "air_grams" 1 ["room"] (sp_air_grams K)) : Kn P w K mg base "tell_lifts" 2 ["stand", "numbers"] (spL1 lkLifts K) := by
  refine T.raw_tell_lifts.kn sc_tell_lifts (fun vs H Q E h => ?_) (fun cdv A outer st H vs Q E hr h => ?_)
  · obtain ⟨a, n, s, k, rfl, _⟩ := h
    rfl
  · obtain ⟨a, n, s, k, rfl, ⟨dx, lr, ll, sd⟩, g, hn, q⟩ := h
    refine ⟨_, (pss_cons (ps_set (i := 2) sc_tell_lifts.nd rfl (Or.inl rfl) (pe_ix ix_list (pv 1) pe_int (fun _ _ => rfl)))
      (pss_cons (ps_if (pt_cmpR op_ge (pv 2) (pe_callB call_len_seq (by rfl) T.n_len bt_len (pa_cons (pe_fld (pv 0) rfl) pa_nil)) (nomark _)) (pss_one (ps_ret (pe_lst (pa_cons (pe_un un_neg pe_int) pa_nil)))) pss_nil)
      (pss_one (ps_ret (pe_lst (pa_cons (pe_kn h_air_grams hr (pa_cons (pe_ix ix_list (pe_fld (pv 0) rfl) (pv 2) (fun _ _ => rfl)) pa_nil)) pa_nil)))))), ?_⟩
    refine q_asg (v := .int (k : Int)) (by walk_at "ev") fun H1 e1 => ?_
    have sd1 := sd.ex e1
    obtain ⟨ts, hp, ht⟩ := sd1.rooms
    have hts := ht.size
    unfold lkLifts at q
    refine q_when (et_test (ev_op (ev_var rfl) (ev_len2 (ev_rooms T sd1 (ev_var rfl)) hp) rv_I0)) (fun c H2 e2 => ?_) (fun c H2 e2 => ?_)
    · have c1 := of_decide_eq_true c
      rw [List.getElem?_eq_none (by omega)] at q
      exact s_one (by walk_at "ev") (q.on (e1.trans e2))
    · have c1 := of_decide_eq_false c
      have hk := List.getElem?_eq_getElem (show k < s.rooms.length by omega)
      generalize s.rooms[k] = r at hk
      obtain ⟨v, hv, hvt⟩ := ht.to hk
      rw [hk] at q
      have sd2 := sd1.ex e2
      exact s_one (ev_kall (ea_cons (ix_k (ev_rooms T sd2 (ev_var rfl)) (ev_var rfl) (e2 _ _ hp) hv) ea_nil) (u_air_grams (hvt.ex e2) (g.rooms r (List.mem_of_getElem? hk)).water)) (q.on (e1.trans e2))
/-! ## see, here, water -/
def lkSee (s : Sd) (k : Nat) : List Int := match s.lines[k]? with
  | none => [-2]
  | some x => [x.at_ + 5000, (x.kg : Int), b01 x.on_]
theorem k_tell_see (T : Facts K mg) : Kn P w K mg base "tell_see" 1 ["stand", "numbers"] (spL1 lkSee K) := by
  refine T.raw_tell_see.kn sc_tell_see (fun vs H Q E h => ?_) (fun cdv A outer st H vs Q E hr h => ?_)
  · obtain ⟨a, n, s, k, rfl, _⟩ := h
    rfl
  · obtain ⟨a, n, s, k, rfl, ⟨dx, lr, ll, sd⟩, g, hn, q⟩ := h
    refine ⟨_, (pss_cons (ps_set (i := 2) sc_tell_see.nd rfl (Or.inl rfl) (pe_ix ix_list (pv 1) pe_int (fun _ _ => rfl)))
      (pss_cons (ps_if (pt_cmpR op_ge (pv 2) (pe_callB call_len_seq (by rfl) T.n_len bt_len (pa_cons (pe_fld (pv 0) rfl) pa_nil)) (nomark _)) (pss_one (ps_ret (pe_lst (pa_cons (pe_un un_neg pe_int) pa_nil)))) pss_nil)
      (pss_cons (ps_asg (pe_ix ix_list (pe_fld (pv 0) rfl) (pv 2) (fun _ _ => rfl)) (pg_tup rfl (pgs_cons (pg_name (i := 3) sc_tell_see.nd rfl (Or.inl rfl)) (pgs_cons (pg_name (i := 4) sc_tell_see.nd rfl (Or.inl rfl)) (pgs_cons (pg_name (i := 5) sc_tell_see.nd rfl (Or.inl rfl)) pgs_nil)))))
      (pss_one (ps_ret (pe_lst (pa_cons (pe_op op_add (pv 3) (pe_gi T.g_MORE_PLACE)) (pa_cons (pv 4) (pa_cons (pv 5) pa_nil))))))))), ?_⟩
    refine q_asg (v := .int (k : Int)) (by walk_at "ev") fun H1 e1 => ?_
    have sd1 := sd.ex e1
    obtain ⟨ts, hp, ht⟩ := sd1.lines
    have hts := ht.size
    unfold lkSee at q
    refine q_when (et_test (ev_op (ev_var rfl) (ev_len2 (ev_lines T sd1 (ev_var rfl)) hp) rv_I0)) (fun c H2 e2 => ?_) (fun c H2 e2 => ?_)
    · have c1 := of_decide_eq_true c
      rw [List.getElem?_eq_none (by omega)] at q
      exact s_one (by walk_at "ev") (q.on (e1.trans e2))
    · have c1 := of_decide_eq_false c
      have hk := List.getElem?_eq_getElem (show k < s.lines.length by omega)
      generalize s.lines[k] = l at hk
      obtain ⟨v, hv, hvt⟩ := ht.to hk
      rw [hk] at q
      have sd2 := sd1.ex e2
      refine q_asg3 (ix_k (ev_lines T sd2 (ev_var rfl)) (ev_var rfl) (e2 _ _ hp) hv) (hvt.ex e2) fun H3 e3 => ?_
      exact s_three (by walk_at "ev") (by walk_at "ev") (by walk_at "ev") (q.on ((e1.trans e2).trans e3))
def lkHere (s : Sd) : List Int := [(s.height : Int), (s.depth : Int), (s.minute : Int), (s.drops : Int)]
theorem k_tell_here (T : Facts K mg) : Kn P w K mg base "tell_here" 1 ["stand", "numbers"] (spL0 lkHere K) := by
  refine T.raw_tell_here.kn sc_tell_here (fun vs H Q E h => ?_) (fun cdv A outer st H vs Q E hr h => ?_)
  · obtain ⟨a, n, s, rfl, _⟩ := h
    rfl
  · obtain ⟨a, n, s, rfl, ⟨dx, lr, ll, sd⟩, g, q⟩ := h
    refine ⟨_, (pss_one (ps_ret (pe_lst (pa_cons (pe_fld (pv 0) rfl) (pa_cons (pe_fld (pv 0) rfl) (pa_cons (pe_fld (pv 0) rfl) (pa_cons (pe_fld (pv 0) rfl) pa_nil))))))), ?_⟩
    exact s_ints (zs := [(s.height : Int), (s.depth : Int), (s.minute : Int), (s.drops : Int)]) (ea_cons (ev_height T sd (ev_var rfl)) (ea_cons (ev_depth T sd (ev_var rfl)) (ea_cons (ev_minute T sd (ev_var rfl)) (ea_cons (ev_drops T sd (ev_var rfl)) ea_nil)))) (Nat.le_of_ble_eq_true rfl) q rfl
def lkWater (s : Sd) : List Int := [((Km420.sum (s.rooms.map fun (r : Rm) => r.water) : Nat) : Int), ((Km420.sum (s.rooms.map Km420.Room.most) : Nat) : Int), (s.leaked : Int), (s.pumped : Int)]
theorem k_tell_water (T : Facts K mg) (h_water_in : Kn P w K mg base "water_in" 1 ["rooms"] (sp_water_in K)) : Kn P w K mg base "tell_water" 2 ["stand", "numbers"] (spL0 lkWater K) := by
  refine T.raw_tell_water.kn sc_tell_water (fun vs H Q E h => ?_) (fun cdv A outer st H vs Q E hr h => ?_)
  · obtain ⟨a, n, s, rfl, _⟩ := h
    rfl
  · obtain ⟨a, n, s, rfl, ⟨dx, lr, ll, sd⟩, g, q⟩ := h
    refine ⟨_, (pss_cons (ps_set (i := 2) sc_tell_water.nd rfl (Or.inl rfl) (pe_callB (cr_sum rfl) (by rfl) T.n_sum bt_sum (pa_cons (pe_lc (own := [("room", 3)]) (g := (gName 3)) (tt := tYes) (te := (tOp (rIxT K) (tVar 3) (tC (.int 0)))) rfl sc_tell_water.nd (pi_list (pe_fld (pv 0) rfl)) (blkOk_by (N := ["stand", "numbers", "first", "room"]) (sc := defScope s_tell_water) (by decide +kernel)) (fun _ _ _ _ _ => (pg_name (i := 3) sc_tell_water.nd rfl (Or.inl rfl))) (fun _ _ _ _ _ => pts_nil) (fun _ _ _ _ _ => (pe_ix ix_tup (pv 3) pe_int (fun _ _ => rfl)))) pa_nil)))
      (pss_one (ps_ret (pe_lst (pa_cons (pe_kn h_water_in hr (pa_cons (pe_fld (pv 0) rfl) pa_nil)) (pa_cons (pv 2) (pa_cons (pe_fld (pv 0) rfl) (pa_cons (pe_fld (pv 0) rfl) pa_nil)))))))), ?_⟩
    obtain ⟨ts, hp, ht⟩ := sd.rooms
    have hts := ht.size
    have hrn := g.rn
    refine q_asg (v := .int ((s.rooms.map fun (r : Rm) => ((r.most : Nat) : Int)).sum)) (ev_sumN (el_lcM (xs := ts) ((s.rooms.map fun (r : Rm) => ((r.most : Nat) : Int)).map V.int) (by rw [List.length_map, List.length_map, ht.size]) (ev_rooms T sd (ev_var rfl)) (sq_of hp) (by omega) fun i x y H2 hx hy e => ?_)) fun H1 e1 => ?_
    · obtain ⟨r, hr, hv⟩ := ht.of hx
      rw [List.map_map] at hy
      have ey := map_at hr hy
      subst ey
      obtain ⟨t, rfl, ht1⟩ := hv.ex e
      exact turn_name rfl (by walk_at "ev")
    · have sd1 := sd.ex e1
      refine s_ints (zs := lkWater s) (ea_cons (ev_kall (ea_cons (ev_rooms T sd1 (ev_var rfl)) ea_nil) (u_water_in sd1.rooms g.n1)) (ea_cons (ev_is (ev_var rfl) ?_) (ea_cons (ev_leaked T sd1 (ev_var rfl)) (ea_cons (ev_pumped T sd1 (ev_var rfl)) ea_nil)))) (Nat.le_of_ble_eq_true rfl) (q.on e1) rfl
      rw [sum_cast]
end
end Wr
/-! ### part: M -/
set_option Elab.async false
set_option linter.all false
set_option maxRecDepth 100000
set_option maxHeartbeats 4000000
/-! # The walk, twelfth part: looks at pulls -/
namespace Wr
open PySem PySem.Spec PyProof.Rows L2 Evl
/-! the evaluation of what hangs on nothing but what is known -/
local macro_rules | `(tactic| walk_at "cm") => `(tactic| first | exact Or.inl ⟨by decide, by decide⟩ | exact ⟨by decide, by decide⟩ | exact Or.inr ⟨by decide, by decide⟩ | exact Or.inl ⟨by omega, by omega⟩ | exact Or.inr ⟨by omega, by omega⟩ | exact ⟨by omega, by omega⟩ | exact ⟨by omega, by omega, by omega⟩)
local macro_rules | `(tactic| walk_at "at") => `(tactic| first | rfl | assumption)
local macro_rules | `(tactic| walk_at "rv") => `(tactic| first | exact rv_I0 | exact rv_eqI | exact rv_neI | exact rv_ixT (st_of (by assumption)) (by walk_at "at") | exact rv_ixT (by assumption) (by walk_at "at") | exact rv_ixL (sq_of (by assumption)) (by walk_at "at") | exact rv_ixL (by assumption) (by walk_at "at") | (apply rv_I; walk_at "cm"))
local macro_rules | `(tactic| walk_at "ea") => `(tactic| first | exact ea_nil | (apply ea_cons; walk_at "ev"; walk_at "ea"))
local macro_rules | `(tactic| walk_at "rc") => `(tactic| first | exact rc_min2 | exact rc_max2 | exact rc_min3 | exact rc_int | exact rc_len (sq_of (by assumption)) | exact rc_len (by assumption))
local macro_rules | `(tactic| walk_at "ev") => `(tactic| first | exact ev_c | exact ev_var rfl | assumption | (apply ev_op; walk_at "ev"; walk_at "ev"; walk_at "rv") | (apply ev_un; walk_at "ev"; exact ru_neg) | (apply ev_cb; walk_at "ea"; walk_at "rc"))
section
variable {P : Program} {w : World} {K : PySem.W.Frag} {mg : Str → Option Value} {base : Heap}
section
variable {σ : L2.St} {H : Hp} {ta tb te : TE} {xs zs : List V} {φ : V → Hp → Prop} {x z : V}
theorem el_catL {l : Addr} (ha : EvL ta σ H xs) (hb : Ev tb σ H (.ref l)) (hl : H l = some (.lst zs)) (sz : xs.length + zs.length ≤ 100000) : EvL (tOp rCat ta tb) σ H (xs ++ zs) := fun H1 e Q q => ha H1 e _ fun p H2 np e2 hp => hb H2 (e.trans e2) _ fun H3 e3 =>
  ⟨p, l, xs, zs, rfl, rfl, e3 _ _ hp, e3 _ _ (e2 _ _ (e _ _ hl)), sz_of sz, fun a na => q a _ (fresh_back (e2.trans e3) na) ((e2.trans e3).trans (Ex.new na)) upd_same⟩
theorem el_catLL (ha : EvL ta σ H xs) (hb : EvL tb σ H zs) (sz : xs.length + zs.length ≤ 100000) : EvL (tOp rCat ta tb) σ H (xs ++ zs) := fun H1 e Q q => ha H1 e _ fun p H2 np e2 hp => hb H2 (e.trans e2) _ fun l H3 nl e3 hl =>
  ⟨p, l, xs, zs, rfl, rfl, e3 _ _ hp, hl, sz_of sz, fun a na => q a _ (fresh_back (e2.trans e3) na) ((e2.trans e3).trans (Ex.new na)) upd_same⟩
theorem el_rep {k : Int} (ha : EvL ta σ H xs) (hb : Ev tb σ H (.int k)) (h1 : -1000 ≤ k) (h2 : k ≤ 1000) (sz : xs.length * k.toNat ≤ 100000) : EvL (tOp rRep ta tb) σ H (List.replicate k.toNat xs).flatten := fun H1 e Q q => ha H1 e _ fun p H2 np e2 hp => hb H2 (e.trans e2) _ fun H3 e3 =>
  ⟨p, k, xs, rfl, rfl, e3 _ _ hp, by omega, by omega, sz_of sz, fun a na => q a _ (fresh_back (e2.trans e3) na) ((e2.trans e3).trans (Ex.new na)) upd_same⟩
theorem ev_opP {r : R2} (ha : EvP ta σ H φ) (h : ∀ x H1, Ex H H1 → φ x H1 → ∃ y, Ev tb σ H1 y ∧ RV r x y H1 z) : Ev (tOp r ta tb) σ H z := fun H1 e Q q => ha H1 e _ fun x H2 e2 p => by
  obtain ⟨y, h1, h2⟩ := h x H2 (e.trans e2) p
  exact h1 H2 (Ex.refl _) _ fun H3 e3 => h2 H3 e3 Q fun H4 e4 => q H4 ((e2.trans e3).trans e4)
/-- xs.index(y) of ints -/
theorem ev_index {p : Addr} {ns : List Int} {y : Int} {j : Nat} (ha : Ev ta σ H (.ref p)) (hp : H p = some (.lst (ns.map V.int))) (hb : Ev tb σ H (.int y)) (hj : ns[j]? = some y) (first : ∀ (i : Nat) (z : Int), i < j → ns[i]? = some z → z ≠ y) :
    Ev (tBM K "list" (rIndex K) ta (tCons tb tNil)) σ H (.int (j : Int)) := fun H1 e Q q => ha H1 e _ fun H2 e2 => ⟨Or.inl ⟨rfl, _, sq_of (e2 _ _ (e _ _ hp))⟩, hb H2 (e.trans e2) _ fun H3 e3 =>
  ⟨p, ns.map V.int, .int y, j, .int y, rfl, rfl, sq_of (e3 _ _ (e2 _ _ (e _ _ hp))), rfl, all_flat ns, by rw [List.getElem?_map, hj]; rfl, by show (y == y) = true; exact beq_self_eq_true y, fun i z hi hz => by
    rw [List.getElem?_map] at hz
    cases hn : ns[i]? with
    | none =>
      rw [hn] at hz
      cases hz
    | some m =>
      rw [hn] at hz
      cases hz
      have := first i m hi hn
      show (m == y) = false
      cases c : (m == y) with
      | false => rfl
      | true => exact absurd (beq_iff_eq.mp c) this, q H3 (e2.trans e3)⟩⟩
end
/-! ## range -/
def lkRange (s : Sd) : List Int := if (Km420.bears s.w.used : Int) < s.w.net then [-33] else [0, Km420.least s.w.used s.w.net.toNat / 100000 + 1000000000, Km420.greatest s.w.used s.w.net.toNat / 100000 + 1000000000]
theorem k_tell_range (T : Facts K mg) (h_hooked_loads : Kn P w K mg base "hooked_loads" 2 ["stand"] (sp_hooked_loads K)) (h_left_of : Kn P w K mg base "left_of" 3 ["stand"] (sp_left_of K)) (h_borne : Kn P w K mg base "borne" 1 ["loads"] (sp_borne K)) (h_told_moment : Kn P w K mg base "told_moment" 1 ["moment"] (sp_told_moment K))
    (h_least_moment : Kn P w K mg base "least_moment" 2 ["loads", "left"] (sp_least_moment K)) (h_greatest_moment : Kn P w K mg base "greatest_moment" 3 ["loads", "left"] (sp_greatest_moment K)) : Kn P w K mg base "tell_range" 4 ["stand", "numbers"] (spL0 lkRange K) := by
  refine T.raw_tell_range.kn sc_tell_range (fun vs H Q E h => ?_) (fun cdv A outer st H vs Q E hr h => ?_)
  · obtain ⟨a, n, s, rfl, _⟩ := h
    rfl
  · obtain ⟨a, n, s, rfl, sd, g, q⟩ := h
    refine ⟨_, (pss_cons (ps_set (i := 2) sc_tell_range.nd rfl (Or.inl rfl) (pe_kn h_hooked_loads hr (pa_cons (pv 0) pa_nil)))
      (pss_cons (ps_set (i := 3) sc_tell_range.nd rfl (Or.inl rfl) (pe_kn h_left_of hr (pa_cons (pv 0) pa_nil)))
      (pss_cons (ps_if (pt_cmpR op_lt (pe_kn h_borne hr (pa_cons (pv 2) pa_nil)) (pv 3) (nomark _)) (pss_one (ps_ret (pe_lst (pa_cons (pe_un un_neg pe_int) pa_nil)))) pss_nil)
      (pss_one (ps_ret (pe_lst (pa_cons pe_int (pa_cons (pe_kn h_told_moment hr (pa_cons (pe_kn h_least_moment hr (pa_cons (pv 2) (pa_cons (pv 3) pa_nil))) pa_nil)) (pa_cons (pe_kn h_told_moment hr (pa_cons (pe_kn h_greatest_moment hr (pa_cons (pv 2) (pa_cons (pv 3) pa_nil))) pa_nil)) pa_nil))))))))), ?_⟩
    refine q_asgP (ep_call (ea_cons (ev_var rfl) ea_nil) (u_hooked_loads sd g)) fun v H1 e1 ⟨d, hv, hl⟩ => ?_
    subst hv
    refine q_asg (ev_kall (ea_cons (ev_var rfl) ea_nil) (u_left_of (sd.ex e1) g)) fun H2 e2 => ?_
    have hl2 := hl.ex e2
    have ok := g.used.ok
    unfold lkRange at q
    refine q_when (et_test (ev_op (ev_kall (ea_cons (ev_var rfl) ea_nil) (u_borne hl2 ok)) (ev_var rfl) rv_I0)) (fun c H3 e3 => ?_) (fun c H3 e3 => ?_)
    · rw [if_pos (of_decide_eq_true c)] at q
      exact s_one (by walk_at "ev") (q.on ((e1.trans e2).trans e3))
    · rw [if_neg (of_decide_eq_false c)] at q
      have hl3 := hl2.ex e3
      exact s_three ev_c (ev_kall (ea_cons (ev_kall (ea_cons (ev_var rfl) (ea_cons (ev_var rfl) ea_nil)) (u_least_moment hl3 ok)) ea_nil) u_told_moment) (ev_kall (ea_cons (ev_kall (ea_cons (ev_var rfl) (ea_cons (ev_var rfl) ea_nil)) (u_greatest_moment hl3 ok)) ea_nil) u_told_moment) (q.on ((e1.trans e2).trans e3))
/-! ## pulls -/
def intsOf (t : List Nat) : List Int := t.map fun (n : Nat) => (n : Int)
theorem natV_ints (t : List Nat) : natV t = (intsOf t).map V.int := by
  unfold natV intsOf
  rw [List.map_map]
  rfl
theorem intsOf_sum (t : List Nat) : (intsOf t).sum = ((Km420.sum t : Nat) : Int) := by
  have := sum_cast (fun n : Nat => n) t
  rw [show t.map (fun n : Nat => n) = t from List.map_id _] at this
  exact this
def lkPulls (s : Sd) : List Int := if s.w.can = false then [-33] else ((Km420.sum s.w.pulls : Nat) : Int) :: intsOf s.w.pulls ++ List.replicate (4 - s.w.pulls.length) 0
theorem pulls_len {s : Sd} (g : Good s) : s.w.pulls.length = s.w.used.length := (shift_borne _ (fills_borne s.w.used s.w.net.toNat)).len
theorem flat_rep {z : V} : ∀ k : Nat, (List.replicate k [z]).flatten = List.replicate k z
  | 0 => rfl
  | k + 1 => by
    rw [List.replicate_succ, List.flatten_cons, flat_rep k, List.replicate_succ]
    rfl
theorem k_tell_pulls (T : Facts K mg) (h_hangs : Kn P w K mg base "hangs" 6 ["stand"] (sp_hangs K)) (h_pulls_now : Kn P w K mg base "pulls_now" 4 ["stand"] (sp_pulls_now K)) : Kn P w K mg base "tell_pulls" 7 ["stand", "numbers"] (spL0 lkPulls K) := by
  refine T.raw_tell_pulls.kn sc_tell_pulls (fun vs H Q E h => ?_) (fun cdv A outer st H vs Q E hr h => ?_)
  · obtain ⟨a, n, s, rfl, _⟩ := h
    rfl
  · obtain ⟨a, n, s, rfl, sd, g, q⟩ := h
    refine ⟨_, (pss_cons (ps_if (pt_not (pt_val (pe_kn h_hangs hr (pa_cons (pv 0) pa_nil)))) (pss_one (ps_ret (pe_lst (pa_cons (pe_un un_neg pe_int) pa_nil)))) pss_nil)
      (pss_cons (ps_set (i := 2) sc_tell_pulls.nd rfl (Or.inl rfl) (pe_kn h_pulls_now hr (pa_cons (pv 0) pa_nil)))
      (pss_one (ps_ret (pe_op op_cat (pe_op op_cat (pe_lst (pa_cons (pe_callB (cr_sum rfl) (by rfl) T.n_sum bt_sum (pa_cons (pv 2) pa_nil)) pa_nil)) (pv 2)) (pe_op op_rep (pe_lst (pa_cons pe_int pa_nil)) (pe_op op_sub (pe_gi T.g_MOST_LINES_looks) (pe_callB call_len_seq (by rfl) T.n_len bt_len (pa_cons (pv 2) pa_nil))))))))), ?_⟩
    unfold lkPulls at q
    refine q_when (b := !s.w.can) (et_not (et_B (ev_kall (ea_cons (ev_var rfl) ea_nil) (u_hangs sd g)))) (fun c H1 e1 => ?_) (fun c H1 e1 => ?_)
    · have c5 : s.w.can = false := by
        cases h : s.w.can with
        | false => rfl
        | true => rw [h] at c; cases c
      rw [if_pos c5] at q
      exact s_one (by walk_at "ev") (q.on e1)
    · have c5 : ¬ s.w.can = false := fun z => by
        rw [z] at c
        cases c
      rw [if_neg c5] at q
      refine q_asgP (ep_call (ea_cons (ev_var rfl) ea_nil) (u_pulls_now (sd.ex e1) g)) fun v H2 e2 ⟨d, hv, nd, hd⟩ => ?_
      subst hv
      have hl := pulls_len g
      have hu := g.used.len
      generalize s.w.pulls = t at *
      have hd0 := hd
      rw [natV_ints] at hd0
      have hn : (natV t).length = t.length := natV_len t
      refine s_retP (ep_newL (xs := (((Km420.sum t : Nat) : Int) :: intsOf t ++ List.replicate (4 - t.length) 0).map V.int) ?_) fun v H3 e3 ⟨p, h1, _, h3⟩ => q v H3 ((e1.trans e2).trans e3) ⟨p, h1, h3⟩
      have ez : (((Km420.sum t : Nat) : Int) :: intsOf t ++ List.replicate (4 - t.length) 0).map V.int = ([V.int ((Km420.sum t : Nat) : Int)] ++ natV t) ++ (List.replicate ((4 : Int) - ((natV t).length : Int)).toNat [V.int 0]).flatten := by
        rw [List.map_append, List.map_cons, ← natV_ints, List.map_replicate, flat_rep, show ((4 : Int) - ((natV t).length : Int)).toNat = 4 - t.length by omega]
        rfl
      rw [ez]
      refine el_catLL (el_catL (el_lst (ea_cons (ev_is (ev_cb (ea_cons (ev_var rfl) ea_nil) (rc_sum (sq_of hd0))) (congrArg V.int (intsOf_sum t))) ea_nil) (Nat.le_of_ble_eq_true rfl)) (ev_var rfl) hd (by rw [hn]; show 1 + t.length ≤ 100000; omega)) (el_rep (el_lst (ea_cons ev_c ea_nil) (Nat.le_of_ble_eq_true rfl)) (ev_op ev_c (ev_len2 (ev_var rfl) hd) rv_I0) (by omega) (by omega) (by show 1 * ((4 : Int) - ((natV t).length : Int)).toNat ≤ 100000; omega)) ?_
      rw [List.length_append, hn, flat_rep, List.length_replicate]
      show (1 + t.length) + _ ≤ 100000
      omega
/-! ## pull -/
def lkPull (s : Sd) (k : Nat) : List Int := match s.lines[k]? with
  | none => [-2]
  | some x => if x.on_ = false then [-6] else if s.w.can = false then [-33] else [((s.w.pullOf x.l : Nat) : Int)]
theorem ep_lcSrc {σ : L2.St} {H : Hp} {tl : TE} {g : TG} {tt : TT} {te : TE} {vs : List Nat} {φ ψ : V → Hp → Prop} (h : EvP tl σ H φ) (k : ∀ x H1, Ex H H1 → φ x H1 → EvP (tLc (iList K (tC x)) g tt te vs) σ H1 ψ) : EvP (tLc (iList K tl) g tt te vs) σ H ψ := fun H1 e Q q =>
  h H1 e _ fun x H2 e2 p => k x H2 (e.trans e2) p H2 (Ex.refl _) Q fun v H3 e3 pv => q v H3 (e2.trans e3) pv
theorem used_at {s : Sd} (g : Good s) {k : Nat} {x : Ln} (h : s.lines[k]? = some x) (ho : x.on_ = true) : ∃ (j : Nat) (l : Li), s.w.used[j]? = some l ∧ l.at_ = x.at_ := by
  have hm : x.l ∈ s.w.used := by
    rw [used_is]
    refine (order_p _).mem_iff.mpr (List.mem_map.mpr ⟨x, List.mem_filter.mpr ⟨List.mem_of_getElem? h, ho⟩, rfl⟩)
  obtain ⟨j, hj⟩ := List.getElem?_of_mem hm
  exact ⟨j, x.l, hj, rfl⟩
theorem zip_find {ls : List Li} {t : List Nat} {a : Int} (R : Rises ls) (hl : t.length = ls.length) {j : Nat} {l : Li} (hj : ls[j]? = some l) (ha : l.at_ = a) : (ls.zip t).find? (fun p => p.1.at_ == a) = some (l, t.getD j 0) := by
  have hj1 : j < ls.length := (List.getElem?_eq_some_iff.mp hj).1
  have hj2 : j < t.length := by omega
  have hz : (ls.zip t)[j]? = some (l, t[j]) := List.getElem?_zip_eq_some.mpr ⟨hj, List.getElem?_eq_getElem hj2⟩
  have hjz : j < (ls.zip t).length := (List.getElem?_eq_some_iff.mp hz).1
  rw [List.getD_eq_getElem?_getD, List.getElem?_eq_getElem hj2, List.find?_eq_some_iff_getElem]
  refine ⟨by rw [beq_iff_eq]; exact ha, j, hjz, ?_, fun i hi => ?_⟩
  · have := List.getElem?_eq_getElem hjz
    rw [hz] at this
    exact (Option.some.inj this).symm
  · have hi1 : i < ls.length := by omega
    have := R i j _ _ hi (List.getElem?_eq_getElem hi1) hj
    rw [List.getElem_zip]
    have hne : (ls[i].at_ == a) = false := by
      cases q : (ls[i].at_ == a) with
      | false => rfl
      | true =>
        rw [beq_iff_eq] at q
        omega
    rw [hne]
    rfl
theorem k_tell_pull (T : Facts K mg) (h_hangs : Kn P w K mg base "hangs" 6 ["stand"] (sp_hangs K)) (h_hooked_loads : Kn P w K mg base "hooked_loads" 2 ["stand"] (sp_hooked_loads K)) (h_pulls_now : Kn P w K mg base "pulls_now" 4 ["stand"] (sp_pulls_now K)) : Kn P w K mg base "tell_pull" 7 ["stand", "numbers"] (spL1 lkPull K) := by
  refine T.raw_tell_pull.kn sc_tell_pull (fun vs H Q E h => ?_) (fun cdv A outer st H vs Q E hr h => ?_)
  · obtain ⟨a, n, s, k, rfl, _⟩ := h
    rfl
  · obtain ⟨a, n, s, k, rfl, ⟨dx, lr, ll, sd⟩, g, hn, q⟩ := h
    refine ⟨_, (pss_cons (ps_set (i := 2) sc_tell_pull.nd rfl (Or.inl rfl) (pe_ix ix_list (pv 1) pe_int (fun _ _ => rfl)))
      (pss_cons (ps_if (pt_cmpR op_ge (pv 2) (pe_callB call_len_seq (by rfl) T.n_len bt_len (pa_cons (pe_fld (pv 0) rfl) pa_nil)) (nomark _)) (pss_one (ps_ret (pe_lst (pa_cons (pe_un un_neg pe_int) pa_nil)))) pss_nil)
      (pss_cons (ps_if (pt_cmpR op_eq (pe_ix ix_tup (pe_ix ix_list (pe_fld (pv 0) rfl) (pv 2) (fun _ _ => rfl)) pe_int (fun _ _ => rfl)) pe_int (nomark _)) (pss_one (ps_ret (pe_lst (pa_cons (pe_un un_neg pe_int) pa_nil)))) pss_nil)
      (pss_cons (ps_if (pt_not (pt_val (pe_kn h_hangs hr (pa_cons (pv 0) pa_nil)))) (pss_one (ps_ret (pe_lst (pa_cons (pe_un un_neg pe_int) pa_nil)))) pss_nil)
      (pss_cons (ps_setLc (i := 3) (own := [("place", 4), ("grams", 5)]) (g := (gTup K 2 (gCons (gName 4) (gCons (gName 5) gNil)))) (tt := tYes) (te := (tVar 4)) rfl sc_tell_pull.nd rfl rfl (sw_true rfl rfl rfl (by decide +kernel)) (pi_list (pe_kn h_hooked_loads hr (pa_cons (pv 0) pa_nil))) (blkOk_by (N := ["stand", "numbers", "k", "places", "place", "grams"]) (sc := defScope s_tell_pull) (by decide +kernel)) (fun _ _ _ _ _ => (pg_tup rfl (pgs_cons (pg_name (i := 4) sc_tell_pull.nd rfl (Or.inl rfl)) (pgs_cons (pg_name (i := 5) sc_tell_pull.nd rfl (Or.inl rfl)) pgs_nil)))) (fun _ _ _ _ _ => pts_nil) (fun _ _ _ _ _ => (pv 4)))
      (pss_one (ps_ret (pe_lst (pa_cons (pe_ix ix_list (pe_kn h_pulls_now hr (pa_cons (pv 0) pa_nil)) (pe_bm PySem.F.plainAttrs_list PySem.F.slot_list_index PySem.F.type_list_index mt_index (pv 3) (pa_cons (pe_ix ix_tup (pe_ix ix_list (pe_fld (pv 0) rfl) (pv 2) (fun _ _ => rfl)) pe_int (fun _ _ => rfl)) pa_nil)) (fun _ _ => rfl)) pa_nil))))))))), ?_⟩
    refine q_asg (v := .int (k : Int)) (by walk_at "ev") fun H1 e1 => ?_
    have sd1 := sd.ex e1
    obtain ⟨ts, hp, ht⟩ := sd1.lines
    have hts := ht.size
    unfold lkPull at q
    refine q_when (et_test (ev_op (ev_var rfl) (ev_len2 (ev_lines T sd1 (ev_var rfl)) hp) rv_I0)) (fun c H2 e2 => ?_) (fun c H2 e2 => ?_)
    · have c1 := of_decide_eq_true c
      rw [List.getElem?_eq_none (by omega)] at q
      exact s_one (by walk_at "ev") (q.on (e1.trans e2))
    · have c1 := of_decide_eq_false c
      have hk := List.getElem?_eq_getElem (show k < s.lines.length by omega)
      generalize s.lines[k] = l at hk
      obtain ⟨v, hv, hvt⟩ := ht.to hk
      rw [hk] at q
      have q : RetP (IntsV (if l.on_ = false then [-6] else if s.w.can = false then [-33] else [((s.w.pullOf l.l : Nat) : Int)])) H Q := q
      have e12 := e1.trans e2
      have sd2 := sd.ex e12
      have hp2 := e2 _ _ hp
      obtain ⟨t, rfl, ht2⟩ := hvt.ex e2
      refine q_when (et_test (ev_op (ev_op (ix_k (ev_lines T sd2 (ev_var rfl)) (ev_var rfl) hp2 hv) ev_c (rv_ixT (st_of ht2) rfl)) ev_c rv_eqI)) (fun c2 H3 e3 => ?_) (fun c2 H3 e3 => ?_)
      · rw [if_pos (b01_zero.mp (of_decide_eq_true c2))] at q
        exact s_one (by walk_at "ev") (q.on (e12.trans e3))
      · have c3 : ¬ l.on_ = false := fun z => of_decide_eq_false c2 (b01_zero.mpr z)
        have ho : l.on_ = true := by
          cases h : l.on_ with
          | true => rfl
          | false => exact absurd h c3
        rw [if_neg c3] at q
        have e13 := e12.trans e3
        have sdh : SdAt K H3 a s := ⟨dx, lr, ll, sd.ex e13⟩
        refine q_when (b := !s.w.can) (et_not (et_B (ev_kall (ea_cons (ev_var rfl) ea_nil) (u_hangs sdh g)))) (fun c4 H4 e4 => ?_) (fun c4 H4 e4 => ?_)
        · have c5 : s.w.can = false := by
            cases h : s.w.can with
            | false => rfl
            | true => rw [h] at c4; cases c4
          rw [if_pos c5] at q
          exact s_one (by walk_at "ev") (q.on (e13.trans e4))
        · have c5 : ¬ s.w.can = false := fun z => by
            rw [z] at c4
            cases c4
          rw [if_neg c5] at q
          have e14 := e13.trans e4
          have sdh4 := sdh.ex e4
          have u := g.used
          refine q_asgP (φ := IntsV (s.w.used.map Km420.Line.at_)) (ep_lcSrc (φ := LoadsV s.w.used) (ep_call (ea_cons (ev_var rfl) ea_nil) (u_hooked_loads sdh4 g)) fun x H5 e5 ⟨d, hd, us, hus, hut⟩ => ?_) fun x H5 e5 ⟨pl, hx, hpl⟩ => ?_
          · subst hd
            have hul := u.len
            have hus2 := hut.size
            refine (ep_newL (el_lcM (xs := us) ((s.w.used.map Km420.Line.at_).map V.int) (by rw [List.length_map, List.length_map, hut.size]) ev_c (sq_of hus) (by omega) fun i x y H6 hx hy e6 => ?_)).imp fun v H6 e6 ⟨b, h1, _, h3⟩ => ⟨b, h1, h3⟩
            obtain ⟨m, hm, hmv⟩ := hut.of hx
            rw [List.map_map] at hy
            have ey := map_at hm hy
            subst ey
            exact turn_two (hmv.ex e6) rfl (ev_var rfl)
          · subst hx
            obtain ⟨j, m, hj, hjm⟩ := used_at g hk ho
            have hpo : s.w.pullOf l.l = s.w.pulls.getD j 0 := by
              show (match (s.w.used.zip s.w.pulls).find? (fun p => p.1.at_ == l.l.at_) with
                | some p => p.2
                | none => 0) = _
              rw [zip_find (a := l.l.at_) u.rises (pulls_len g) hj hjm]
            rw [hpo] at q
            have e15 := e14.trans e5
            have sd5 := sd.ex e15
            have hp5 := ((e3.trans e4).trans e5) _ _ hp2
            have ht5 := ((e3.trans e4).trans e5) _ _ ht2
            have hj1 : j < s.w.used.length := (List.getElem?_eq_some_iff.mp hj).1
            have hj2 : j < s.w.pulls.length := by rw [pulls_len g]; exact hj1
            refine s_one (ev_opP (φ := NewL H5 (natV s.w.pulls)) (ep_call (ea_cons (ev_var rfl) ea_nil) (u_pulls_now (sdh4.ex e5) g)) fun x H6 e6 ⟨b, hb, _, hbl⟩ => ⟨.int (j : Int), ?_, ?_⟩) (q.on e15)
            · refine ev_index (ev_var rfl) (e6 _ _ hpl) (ev_op (ix_k (ev_lines T (sd5.ex e6) (ev_var rfl)) (ev_var rfl) (e6 _ _ hp5) hv) ev_c (rv_ixT (st_of (e6 _ _ ht5)) rfl)) ?_ ?_
              · rw [List.getElem?_map, hj]
                show some m.at_ = some l.at_
                rw [hjm]
              · intro i z hi hz
                rw [List.getElem?_map] at hz
                have hi1 : i < s.w.used.length := by omega
                rw [List.getElem?_eq_getElem hi1] at hz
                have := u.rises i j _ _ hi (List.getElem?_eq_getElem hi1) hj
                have ez := Option.some.inj hz
                have hjm2 : m.at_ = l.at_ := hjm
                omega
            · subst hb
              exact rv_ixL (sq_of hbl) (natV_ix hj2)
/-! ## without -/
def lkWithout (s : Sd) (k : Nat) : List Int := match s.lines[k]? with
  | none => [-2]
  | some x => if x.on_ = false then [-6] else [b01 (hangW s s.rooms (others s.lines k))]
theorem k_tell_without (T : Facts K mg) (h_hangs_with : Kn P w K mg base "hangs_with" 5 ["stand", "rooms", "lines"] (sp_hangs_with K)) : Kn P w K mg base "tell_without" 6 ["stand", "numbers"] (spL1 lkWithout K) := by
  refine T.raw_tell_without.kn sc_tell_without (fun vs H Q E h => ?_) (fun cdv A outer st H vs Q E hr h => ?_)
  · obtain ⟨a, n, s, k, rfl, _⟩ := h
    rfl
  · obtain ⟨a, n, s, k, rfl, ⟨dx, lr, ll, sd⟩, g, hn, q⟩ := h
    refine ⟨_, (pss_cons (ps_set (i := 2) sc_tell_without.nd rfl (Or.inr rfl) (pe_ix ix_list (pv 1) pe_int (fun _ _ => rfl)))
      (pss_cons (ps_if (pt_cmpR op_ge (pv 2) (pe_callB call_len_seq (by rfl) T.n_len bt_len (pa_cons (pe_fld (pv 0) rfl) pa_nil)) (nomark _)) (pss_one (ps_ret (pe_lst (pa_cons (pe_un un_neg pe_int) pa_nil)))) pss_nil)
      (pss_cons (ps_if (pt_cmpR op_eq (pe_ix ix_tup (pe_ix ix_list (pe_fld (pv 0) rfl) (pv 2) (fun _ _ => rfl)) pe_int (fun _ _ => rfl)) pe_int (nomark _)) (pss_one (ps_ret (pe_lst (pa_cons (pe_un un_neg pe_int) pa_nil)))) pss_nil)
      (pss_cons (ps_setLc (i := 3) (own := [("j", 4)]) (g := (gName 4)) (tt := (tAnd (tTest (tOp rNe (tVar 4) (tVar 2))) (tTest (tOp rEq (tOp (rIxT K) (tOp (rIxL K) (tFld K (tVar 0) "lines") (tVar 4)) (tC (.int 2))) (tC (.int 1)))))) (te := (tOp (rIxL K) (tFld K (tVar 0) "lines") (tVar 4))) rfl sc_tell_without.nd rfl rfl (sw_true rfl rfl rfl (by decide +kernel)) (pi_range1 rfl T.n_range (pa_cons (pe_callB call_len_seq (by rfl) T.n_len bt_len (pa_cons (pe_fld (pv 0) rfl) pa_nil)) pa_nil)) (blkOk_by (N := ["stand", "numbers", "k", "others", "j"]) (sc := defScope s_tell_without) (by decide +kernel)) (fun _ _ _ _ _ => (pg_name (i := 4) sc_tell_without.nd rfl (Or.inl rfl))) (fun _ _ _ _ _ => pts_one (PW.pt (pw_and (pt_cmpR op_ne (pv 4) (pv 2) (nomark _)) (pw_and1 (pt_cmpR op_eq (pe_ix ix_tup (pe_ix ix_list (pe_fld (pv 0) rfl) (pv 4) (fun _ _ => rfl)) pe_int (fun _ _ => rfl)) pe_int (nomark _)))))) (fun _ _ _ _ _ => (pe_ix ix_list (pe_fld (pv 0) rfl) (pv 4) (fun _ _ => rfl))))
      (pss_one (ps_ret (pe_lst (pa_cons (pe_callTy call_int1 (by rfl) T.n_int bt_int (pa_cons (pe_kn h_hangs_with hr (pa_cons (pv 0) (pa_cons (pe_fld (pv 0) rfl) (pa_cons (pv 3) pa_nil)))) pa_nil)) pa_nil)))))))), ?_⟩
    refine q_asg (v := .int (k : Int)) (by walk_at "ev") fun H1 e1 => ?_
    have sd1 := sd.ex e1
    obtain ⟨ts, hp, ht⟩ := sd1.lines
    have hts := ht.size
    unfold lkWithout at q
    refine q_when (et_test (ev_op (ev_var rfl) (ev_len2 (ev_lines T sd1 (ev_var rfl)) hp) rv_I0)) (fun c H2 e2 => ?_) (fun c H2 e2 => ?_)
    · have c1 := of_decide_eq_true c
      rw [List.getElem?_eq_none (by omega)] at q
      exact s_one (by walk_at "ev") (q.on (e1.trans e2))
    · have c1 := of_decide_eq_false c
      have hk := List.getElem?_eq_getElem (show k < s.lines.length by omega)
      generalize s.lines[k] = l at hk
      obtain ⟨v, hv, hvt⟩ := ht.to hk
      rw [hk] at q
      have q : RetP (IntsV (if l.on_ = false then [-6] else [b01 (hangW s s.rooms (others s.lines k))])) H Q := q
      have e12 := e1.trans e2
      have sd2 := sd.ex e12
      have hp2 := e2 _ _ hp
      obtain ⟨t, rfl, ht2⟩ := hvt.ex e2
      refine q_when (et_test (ev_op (ev_op (ix_k (ev_lines T sd2 (ev_var rfl)) (ev_var rfl) hp2 hv) ev_c (rv_ixT (st_of ht2) rfl)) ev_c rv_eqI)) (fun c2 H3 e3 => ?_) (fun c2 H3 e3 => ?_)
      · rw [if_pos (b01_zero.mp (of_decide_eq_true c2))] at q
        exact s_one (by walk_at "ev") (q.on (e12.trans e3))
      · have c3 : ¬ l.on_ = false := fun z => of_decide_eq_false c2 (b01_zero.mpr z)
        rw [if_neg c3] at q
        have e13 := e12.trans e3
        have sd3 := sd.ex e13
        have hp3 := e3 _ _ hp2
        have ht3 : Tups H3 ts (s.lines.map lnV) := ht.ex (e2.trans e3)
        have hln := g.ln
        refine q_asgP (φ := RowsV ((others s.lines k).map lnV)) ((ep_lcR (n := ts.length) (ea_cons (ev_len2 (ev_lines T sd3 (ev_var rfl)) hp3) ea_nil) (by omega) (fun _ => rfl) (fun i acc H' => Tups H' acc ((others (s.lines.take i) k).map lnV)) (fun _ _ => by rw [List.take_zero]; exact Tups.nil) (fun i acc H1 h => by
            have h1 := h.size
            have h2 := (others_sub (s.lines.take i) k).length_le
            rw [List.length_take] at h2
            omega) (fun i acc H1 H2 k h => h.keep k) (fun i acc H4 hi e hw => ?_)).imp fun v H4 e4 ⟨acc, ⟨d, hv, nD, hd⟩, hw⟩ => ⟨d, hv, acc, hd, ?_⟩) fun v H4 e4 ⟨d, hd, hr⟩ => ?_
        · have hi1 : i < s.lines.length := by omega
          have hx := List.getElem?_eq_getElem hi1
          generalize s.lines[i] = x at hx
          obtain ⟨u, hu, hut⟩ := ht3.to hx
          have sd4 := sd3.ex e
          have hp4 := e _ _ hp3
          obtain ⟨tu, rfl, htu⟩ := hut.ex e
          refine ⟨!decide ((i : Int) = (k : Int)) && decide (b01 x.on_ = 1), et_and (et_test (ev_op (ev_var rfl) (ev_var rfl) rv_neI)) fun _ => et_test (ev_op (ev_op (ix_k (ev_lines T sd4 (ev_var rfl)) (ev_var rfl) hp4 hu) ev_c (rv_ixT (st_of htu) rfl)) ev_c rv_eqI), fun cb => ?_, fun cb => (ep_ev (ix_k (ev_lines T sd4 (ev_var rfl)) (ev_var rfl) hp4 hu)).imp fun y H5 e5 hy => ?_⟩
          · have cc : ¬ (!decide (i = k) && x.on_) = true := fun z => by
              rw [Bool.and_eq_true, Bool.not_eq_true', decide_eq_false_iff_not] at z
              rw [decide_eq_true (b01_one.mpr z.2), decide_eq_false (show ¬ (i : Int) = k by omega)] at cb
              cases cb
            rw [take_snoc hx, others_snoc, List.length_take, Nat.min_eq_left (by omega), if_neg cc, List.append_nil]
            exact hw
          · have cc : (!decide (i = k) && x.on_) = true := by
              rw [Bool.and_eq_true, Bool.not_eq_true', decide_eq_false_iff_not, decide_eq_true_iff] at cb
              rw [Bool.and_eq_true, Bool.not_eq_true', decide_eq_false_iff_not]
              exact ⟨by omega, b01_one.mp cb.2⟩
            rw [take_snoc hx, others_snoc, List.length_take, Nat.min_eq_left (by omega), if_pos cc, List.map_append, hy]
            exact (hw.ex e5).snoc ⟨tu, rfl, e5 _ _ htu⟩
        · rw [hts, List.take_length] at hw
          exact hw
        · subst hd
          have sd4 := sd3.ex e4
          exact s_one (ev_int (ev_kall (ea_cons (ev_var rfl) (ea_cons (ev_rooms T sd4 (ev_var rfl)) (ea_cons (ev_var rfl) ea_nil))) (u_hangs_with ⟨dx, lr, ll, sd4⟩ g sd4.rooms g.rms hr (g.lns (others_sub _ _))))) (q.on (e13.trans e4))
end
end Wr
/-! ### part: N -/
set_option Elab.async false
set_option linter.all false
set_option maxRecDepth 100000
set_option maxHeartbeats 4000000
/-! # The walk, thirteenth part: desks -/
namespace Wr
open PySem PySem.Spec PyProof.Rows L2 Evl
/-! the evaluation of what hangs on nothing but what is known -/
local macro_rules | `(tactic| walk_at "cm") => `(tactic| first | exact Or.inl ⟨by decide, by decide⟩ | exact ⟨by decide, by decide⟩ | exact Or.inr ⟨by decide, by decide⟩ | exact Or.inl ⟨by omega, by omega⟩ | exact Or.inr ⟨by omega, by omega⟩ | exact ⟨by omega, by omega⟩ | exact ⟨by omega, by omega, by omega⟩)
local macro_rules | `(tactic| walk_at "at") => `(tactic| first | rfl | assumption)
local macro_rules | `(tactic| walk_at "rv") => `(tactic| first | exact rv_I0 | exact rv_eqI | exact rv_neI | exact rv_ixT (st_of (by assumption)) (by walk_at "at") | exact rv_ixT (by assumption) (by walk_at "at") | exact rv_ixL (sq_of (by assumption)) (by walk_at "at") | exact rv_ixL (by assumption) (by walk_at "at") | (apply rv_I; walk_at "cm"))
local macro_rules | `(tactic| walk_at "ea") => `(tactic| first | exact ea_nil | (apply ea_cons; walk_at "ev"; walk_at "ea"))
local macro_rules | `(tactic| walk_at "rc") => `(tactic| first | exact rc_min2 | exact rc_max2 | exact rc_min3 | exact rc_int | exact rc_len (sq_of (by assumption)) | exact rc_len (by assumption))
local macro_rules | `(tactic| walk_at "ev") => `(tactic| first | exact ev_c | exact ev_var rfl | assumption | (apply ev_op; walk_at "ev"; walk_at "ev"; walk_at "rv") | (apply ev_un; walk_at "ev"; exact ru_neg) | (apply ev_cb; walk_at "ea"; walk_at "rc"))
/-! ## The mirror of a desk: what's ahead, what's gone, the latest last -/
structure Dk where
  now : Sd
  ahead : List Sd
  gone : List Sd
structure GoodD (d : Dk) : Prop where
  now : Good d.now
  ahead : ∀ s ∈ d.ahead, Good s
  gone : ∀ s ∈ d.gone, Good s
  len : d.ahead.length + d.gone.length ≤ 30
def dk0 : Dk := ⟨sd0 1 0 1 1, [], []⟩
def startD (d : Dk) (kg : Nat) (a : Int) (t h : Nat) : List Int × Dk := if Km420.okStart kg a t h = false then ([-22], d) else ([0], ⟨sd0 kg a t h, [], []⟩)
def goOn (d : Dk) (t : Sd) : Dk := ⟨t, (d.ahead ++ [d.now]).drop ((d.ahead ++ [d.now]).length - 30), []⟩
def backD (d : Dk) : List Int × Dk := match d.ahead.getLast? with
  | none => ([-2], d)
  | some t => ([((d.ahead.dropLast.length : Nat) : Int)], ⟨t, d.ahead.dropLast, d.gone ++ [d.now]⟩)
def againD (d : Dk) : List Int × Dk := match d.gone.getLast? with
  | none => ([-2], d)
  | some t => ([((d.gone.dropLast.length : Nat) : Int)], ⟨t, d.ahead ++ [d.now], d.gone.dropLast⟩)
def stateD (d : Dk) : List Int := [(d.now.rooms.length : Int), (d.now.lines.length : Int), ((pbits d.now.rooms 0 : Nat) : Int), (d.ahead.length : Int), (d.gone.length : Int)]
/-! ## Lists of stands -/
structure Sds (K : PySem.W.Frag) (H : Hp) (vs : List V) (l : List Sd) : Prop where
  len : vs.length = l.length
  row : ∀ (i : Nat) (v : V), vs[i]? = some v → ∃ s a, l[i]? = some s ∧ v = .ref a ∧ SdAt K H a s
def SdsAt (K : PySem.W.Frag) (H : Hp) (p : Addr) (l : List Sd) : Prop := ∃ vs, H p = some (.lst vs) ∧ Sds K H vs l
section
variable {K : PySem.W.Frag} {mg : Str → Option Value} {H H' H1 H2 : Hp} {a dk dx p q : Addr} {s : Sd} {vs : List V} {l : List Sd} {C : Addr} {fs : List (Str × V)} {o : HO}
theorem SdAt.put (h : SdAt K H a s) (hd : H dk = some (.ins C dx fs)) (hl : fs.length < 11) : SdAt K (upd H dk o) a s := by
  obtain ⟨dy, lr, ll, h⟩ := h
  have n1 : a ≠ dk := fun z => by
    have e := h.ins
    rw [z, hd] at e
    injection e with e
    injection e with e1 e2 e3
    rw [e3] at hl
    exact absurd hl (by show ¬ (11 < 11); omega)
  refine ⟨dy, lr, ll, ?_, h.rooms.keep (ins_tups hd) (upd_ne ?_), h.lines.keep (ins_tups hd) (upd_ne ?_), h.ne⟩
  · rw [upd_ne n1]
    exact h.ins
  · obtain ⟨us, h1, _⟩ := h.rooms
    exact ne_of h1 hd fun z => nomatch z
  · obtain ⟨us, h1, _⟩ := h.lines
    exact ne_of h1 hd fun z => nomatch z
theorem Sds.imp (h : Sds K H vs l) (i : ∀ a s, SdAt K H a s → SdAt K H' a s) : Sds K H' vs l := ⟨h.len, fun j v hv => by
  obtain ⟨s, a, h1, h2, h3⟩ := h.row j v hv
  exact ⟨s, a, h1, h2, i _ _ h3⟩⟩
theorem SdsAt.ex (h : SdsAt K H p l) (e : Ex H H') : SdsAt K H' p l := by
  obtain ⟨vs, h1, h2⟩ := h
  exact ⟨vs, e _ _ h1, h2.imp fun _ _ h => h.ex e⟩
theorem SdsAt.put (h : SdsAt K H p l) (hd : H dk = some (.ins C dx fs)) (hl : fs.length < 11) : SdsAt K (upd H dk o) p l := by
  obtain ⟨vs, h1, h2⟩ := h
  exact ⟨vs, (upd_ne (ne_of h1 hd fun z => nomatch z)).trans h1, h2.imp fun _ _ h => h.put hd hl⟩
theorem Sds.nil : Sds K H [] [] := ⟨rfl, fun i v h => by simp at h⟩
theorem Sds.snoc (h : Sds K H vs l) (ha : SdAt K H a s) : Sds K H (vs ++ [.ref a]) (l ++ [s]) := by
  refine ⟨by rw [List.length_append, List.length_append, h.len]; rfl, fun i u hu => ?_⟩
  by_cases c : i < vs.length
  · rw [List.getElem?_append_left c] at hu
    rw [List.getElem?_append_left (by rw [← h.len]; exact c)]
    exact h.row i u hu
  · rw [List.getElem?_append_right (by omega)] at hu
    rw [List.getElem?_append_right (by rw [← h.len]; omega), ← h.len]
    cases e : i - vs.length with
    | zero =>
      rw [e] at hu
      cases hu
      exact ⟨s, a, rfl, rfl, ha⟩
    | succ n =>
      rw [e] at hu
      cases hu
theorem Sds.drop (h : Sds K H vs l) (n : Nat) : Sds K H (vs.drop n) (l.drop n) := ⟨by rw [List.length_drop, List.length_drop, h.len], fun i v hv => by
  rw [List.getElem?_drop] at hv ⊢
  exact h.row _ v hv⟩
theorem Sds.unsnoc (h : Sds K H vs (l ++ [s])) : ∃ us a, vs = us ++ [.ref a] ∧ Sds K H us l ∧ SdAt K H a s := by
  have hl : vs.length = l.length + 1 := by rw [h.len, List.length_append]; rfl
  rcases List.eq_nil_or_concat vs with e | ⟨us, v, e⟩
  · rw [e] at hl
    cases hl
  · have e' : vs = us ++ [v] := by rw [e, List.concat_eq_append]
    subst e'
    have hu : us.length = l.length := by
      rw [List.length_append] at hl
      exact Nat.add_right_cancel hl
    obtain ⟨t, a, h1, h2, h3⟩ := h.row us.length v (by rw [List.getElem?_append_right (Nat.le_refl _), Nat.sub_self]; rfl)
    rw [hu, List.getElem?_append_right (Nat.le_refl _), Nat.sub_self] at h1
    have h1' : s = t := Option.some.inj h1
    subst h1' h2
    refine ⟨us, a, rfl, ⟨hu, fun i v hv => ?_⟩, h3⟩
    have hi := (List.getElem?_eq_some_iff.mp hv).1
    obtain ⟨t, b, g1, g2, g3⟩ := h.row i v (by rw [List.getElem?_append_left hi]; exact hv)
    rw [List.getElem?_append_left (by rw [← hu]; exact hi)] at g1
    exact ⟨t, b, g1, g2, g3⟩
end
/-! ## A desk in the heap -/
abbrev CD (K : PySem.W.Frag) : Addr := He.ga K "Desk"
def dkF (a p q : Addr) : List (Str × V) := [("stand", .ref a), ("ahead", .ref p), ("gone", .ref q)]
structure DkIs (K : PySem.W.Frag) (H : Hp) (dk dx a p q : Addr) (d : Dk) : Prop where
  ins : H dk = some (.ins (CD K) dx (dkF a p q))
  now : SdAt K H a d.now
  ahead : SdsAt K H p d.ahead
  gone : SdsAt K H q d.gone
def DkAt (K : PySem.W.Frag) (H : Hp) (dk : Addr) (d : Dk) : Prop := ∃ dx a p q, DkIs K H dk dx a p q d
/-- what a call on the desk leaves and gives -/
def DkQ (K : PySem.W.Frag) (H : Hp) (dk : Addr) (r : List Int × Dk) (Q : VK) : Prop := ∀ v H', But dk H H' → DkAt K H' dk r.2 → IntsV r.1 v H' → Q v H'
section
variable {K : PySem.W.Frag} {mg : Str → Option Value} {H H' H1 H2 : Hp} {a dk dx p q r : Addr} {d : Dk} {s : Sd} {l : List Sd} {σ : L2.St} {te ta tv tb : TE} {D : Ends} {tz : TS} {Q : VK} {x : List Int × Dk}
theorem DkIs.ex (h : DkIs K H dk dx a p q d) (e : Ex H H') : DkIs K H' dk dx a p q d := ⟨e _ _ h.ins, h.now.ex e, h.ahead.ex e, h.gone.ex e⟩
theorem DkAt.ex (h : DkAt K H dk d) (e : Ex H H') : DkAt K H' dk d := by
  obtain ⟨dx, a, p, q, h⟩ := h
  exact ⟨dx, a, p, q, h.ex e⟩
theorem But.pre (f : Ex H H1) (e : But dk H1 H2) : But dk H H2 := fun b o h n => e b o (f b o h) n
theorem DkQ.on (h : DkQ K H dk x Q) (e : Ex H H1) : DkQ K H1 dk x Q := fun v H' b => h v H' (b.pre e)
theorem dkF_lt : (dkF a p q).length < 11 := Nat.lt_of_lt_of_le (show 3 < 4 by decide) (by decide)
theorem dkF_lt2 : (dkF a p q).length < 1000 := Nat.lt_of_lt_of_le (show 3 < 4 by decide) (by decide)
theorem DkIs.putA (h : DkIs K H dk dx a p q d) (hp : SdsAt K H r l) : DkIs K (upd H dk (.ins (CD K) dx (dkF a r q))) dk dx a r q { d with ahead := l } := ⟨upd_same, h.now.put h.ins dkF_lt, hp.put h.ins dkF_lt, h.gone.put h.ins dkF_lt⟩
theorem DkIs.putG (h : DkIs K H dk dx a p q d) (hp : SdsAt K H r l) : DkIs K (upd H dk (.ins (CD K) dx (dkF a p r))) dk dx a p r { d with gone := l } := ⟨upd_same, h.now.put h.ins dkF_lt, h.ahead.put h.ins dkF_lt, hp.put h.ins dkF_lt⟩
theorem DkIs.putS (h : DkIs K H dk dx a p q d) (hs : SdAt K H r s) : DkIs K (upd H dk (.ins (CD K) dx (dkF r p q))) dk dx r p q { d with now := s } := ⟨upd_same, hs.put h.ins dkF_lt, h.ahead.put h.ins dkF_lt, h.gone.put h.ins dkF_lt⟩
theorem dkF_stand : (dkF a p q).lookup ("stand" : Str) = some (.ref a) := lk_here
theorem dkF_ahead : (dkF a p q).lookup ("ahead" : Str) = some (.ref p) := (lk_past (by decide +kernel)).trans lk_here
theorem dkF_gone : (dkF a p q).lookup ("gone" : Str) = some (.ref q) := (lk_past (by decide +kernel)).trans ((lk_past (by decide +kernel)).trans lk_here)
theorem putF_stand : putF "stand" (.ref r) (dkF a p q) = dkF r p q := put_here
theorem putF_ahead : putF "ahead" (.ref r) (dkF a p q) = dkF a r q := (put_past (by decide +kernel)).trans (congrArg _ put_here)
theorem putF_gone : putF "gone" (.ref r) (dkF a p q) = dkF a p r := (put_past (by decide +kernel)).trans (congrArg _ ((put_past (by decide +kernel)).trans (congrArg _ put_here)))
theorem ev_stand (T : Facts K mg) (h : DkIs K H dk dx a p q d) (ha : Ev te σ H (.ref dk)) : Ev (tFld K te "stand") σ H (.ref a) := ev_fld ha h.ins T.cl_Desk T.na_Desk_stand dkF_stand
theorem ev_ahead (T : Facts K mg) (h : DkIs K H dk dx a p q d) (ha : Ev te σ H (.ref dk)) : Ev (tFld K te "ahead") σ H (.ref p) := ev_fld ha h.ins T.cl_Desk T.na_Desk_ahead dkF_ahead
theorem ev_gone (T : Facts K mg) (h : DkIs K H dk dx a p q d) (ha : Ev te σ H (.ref dk)) : Ev (tFld K te "gone") σ H (.ref q) := ev_fld ha h.ins T.cl_Desk T.na_Desk_gone dkF_gone
def IsSds (K : PySem.W.Frag) (l : List Sd) : V → Hp → Prop := fun v H => ∃ r, v = .ref r ∧ SdsAt K H r l
theorem isSds_ex : ∀ v H1 H2, Ex H1 H2 → IsSds K l v H1 → IsSds K l v H2 := fun v H1 H2 e ⟨r, h1, h2⟩ => ⟨r, h1, h2.ex e⟩
def IsSd (K : PySem.W.Frag) (s : Sd) : V → Hp → Prop := fun v H => ∃ r, v = .ref r ∧ SdAt K H r s
theorem isSd_ex : ∀ v H1 H2, Ex H1 H2 → IsSd K s v H1 → IsSd K s v H2 := fun v H1 H2 e ⟨r, h1, h2⟩ => ⟨r, h1, h2.ex e⟩
theorem q_dkA (T : Facts K mg) (h : DkIs K H dk dx a p q d) (l : List Sd) (hv : EvP tv σ H (IsSds K l)) (ha : Ev ta σ H (.ref dk)) (k : ∀ H1 r, But dk H H1 → DkIs K H1 dk dx a r q { d with ahead := l } → tz D σ H1) : tSeq (sFld K ta tv "ahead") tz D σ H :=
  q_fldP hv ha h.ins T.cl_Desk T.na_Desk_ahead dkF_lt2 isSds_ex fun v H1 e1 ⟨r, hv, hr⟩ => by
    subst hv
    rw [putF_ahead]
    exact k _ r (Ex.but e1).put ((h.ex e1).putA hr)
theorem q_dkG (T : Facts K mg) (h : DkIs K H dk dx a p q d) (l : List Sd) (hv : EvP tv σ H (IsSds K l)) (ha : Ev ta σ H (.ref dk)) (k : ∀ H1 r, But dk H H1 → DkIs K H1 dk dx a p r { d with gone := l } → tz D σ H1) : tSeq (sFld K ta tv "gone") tz D σ H :=
  q_fldP hv ha h.ins T.cl_Desk T.na_Desk_gone dkF_lt2 isSds_ex fun v H1 e1 ⟨r, hv, hr⟩ => by
    subst hv
    rw [putF_gone]
    exact k _ r (Ex.but e1).put ((h.ex e1).putG hr)
theorem q_dkS (T : Facts K mg) (h : DkIs K H dk dx a p q d) (s : Sd) (hv : EvP tv σ H (IsSd K s)) (ha : Ev ta σ H (.ref dk)) (k : ∀ H1 r, But dk H H1 → DkIs K H1 dk dx r p q { d with now := s } → tz D σ H1) : tSeq (sFld K ta tv "stand") tz D σ H :=
  q_fldP hv ha h.ins T.cl_Desk T.na_Desk_stand dkF_lt2 isSd_ex fun v H1 e1 ⟨r, hv, hr⟩ => by
    subst hv
    rw [putF_stand]
    exact k _ r (Ex.but e1).put ((h.ex e1).putS hr)
theorem s_dkS (T : Facts K mg) (h : DkIs K H dk dx a p q d) (s : Sd) (hv : EvP tv σ H (IsSd K s)) (ha : Ev ta σ H (.ref dk)) (k : ∀ H1 r, But dk H H1 → DkIs K H1 dk dx r p q { d with now := s } → D.nx σ H1) : sFld K ta tv "stand" D σ H :=
  s_fldP hv ha h.ins T.cl_Desk T.na_Desk_stand dkF_lt2 isSd_ex fun v H1 e1 ⟨r, hv, hr⟩ => by
    subst hv
    rw [putF_stand]
    exact k _ r (Ex.but e1).put ((h.ex e1).putS hr)
/-! ### lists of stands, evaluated -/
theorem ep_noSds : EvP (tLst tNil) σ H (IsSds K []) := (ep_newL (el_lst ea_nil (Nat.zero_le _))).imp fun v H1 e1 ⟨r, h1, _, h3⟩ => ⟨r, h1, [], h3, Sds.nil⟩
theorem el_catR {xs zs : List V} (ha : Ev ta σ H (.ref p)) (hp : H p = some (.lst xs)) (hb : EvL tb σ H zs) (hz : xs.length + zs.length ≤ 100000) : EvL (tOp rCat ta tb) σ H (xs ++ zs) := fun H1 e Q q => ha H1 e _ fun H2 e2 => hb H2 (e.trans e2) _ fun b H3 n3 e3 h3 =>
  ⟨p, b, xs, zs, rfl, rfl, e3 _ _ (e2 _ _ (e _ _ hp)), h3, sz_of hz, fun c nc => q c _ (fresh_back (e2.trans e3) nc) ((e2.trans e3).trans (Ex.new nc)) upd_same⟩
theorem el_slL {tl th : TO} {xs : List V} {lo hi : Option Int} (h : EvL te σ H xs) (h1 : ∀ H1, Ex H H1 → EvO tl σ H1 lo) (h2 : ∀ H1, Ex H H1 → EvO th σ H1 hi) : EvL (tSl (rSlL K) te tl th) σ H (cutV xs lo hi) := fun H1 e Q q =>
  h H1 e _ fun p H2 n2 e2 hp => h1 H2 (e.trans e2) H2 (Ex.refl _) _ fun H3 e3 => h2 H3 ((e.trans e2).trans e3) H3 (Ex.refl _) _ fun H4 e4 =>
    ⟨p, xs, rfl, sq_of (e4 _ _ (e3 _ _ hp)), fun c nc => q c _ (fresh_back ((e2.trans e3).trans e4) nc) (((e2.trans e3).trans e4).trans (Ex.new nc)) upd_same⟩
theorem sIx_neg {n d : Nat} {v : Int} (h : v < 0) : HT.sIx n d (some v) = (v + (n : Int)).toNat := if_pos h
theorem cut_last (xs : List V) (k : Nat) (hk : 0 < k) : cutV xs (some (-(k : Int))) none = xs.drop (xs.length - k) := by
  unfold cutV
  rw [sIx_neg (by omega), HT.sIx_none]
  have e : (-(k : Int) + (xs.length : Int)).toNat = xs.length - k := by omega
  rw [e, List.take_of_length_le]
  rw [List.length_drop]
  exact Nat.le_refl _
theorem cut_init (xs : List V) (v : V) : cutV (xs ++ [v]) none (some (-1)) = xs := by
  unfold cutV
  rw [sIx_neg (by omega), HT.sIx_none, List.drop_zero, List.length_append]
  have e : ((-1 : Int) + ((xs.length + [v].length : Nat) : Int)).toNat = xs.length := by
    show ((-1 : Int) + ((xs.length + 1 : Nat) : Int)).toNat = xs.length
    omega
  rw [e, Nat.sub_zero, List.take_left]
theorem at_last (xs : List V) (v : V) : atI (xs ++ [v]) (-1) = some v := by
  unfold atI ixN
  rw [if_neg (by omega), List.length_append]
  have e : ((xs.length + [v].length : Nat) : Int) = (xs.length : Int) + 1 := by show ((xs.length + 1 : Nat) : Int) = _; omega
  rw [e, if_pos (by omega)]
  show (xs ++ [v])[_]? = _
  rw [show (-1 + ((xs.length : Int) + 1)).toNat = xs.length by omega, List.getElem?_append_right (Nat.le_refl _), Nat.sub_self]
  rfl
theorem el_keep {xs : List V} (h : EvL te σ H xs) : EvL (tSl (rSlL K) te (tPart (tUn (rU fun i => V.int (-i)) (tC (.int 30)))) tNoPart) σ H (xs.drop (xs.length - 30)) := by
  have e := el_slL (K := K) (lo := some (-(30 : Int))) (hi := none) h (fun H1 e1 => eo_some (ev_un ev_c ru_neg)) (fun H1 e1 => eo_none)
  have c : cutV xs (some (-(30 : Int))) none = xs.drop (xs.length - 30) := cut_last xs 30 (by decide)
  rw [c] at e
  exact e
theorem ep_sds {vs : List V} (h : EvL te σ H vs) (hs : ∀ H1, Ex H H1 → Sds K H1 vs l) : EvP te σ H (IsSds K l) := (ep_newL h).imp fun v H1 e1 ⟨r, h1, _, h3⟩ => ⟨r, h1, vs, h3, hs H1 e1⟩
/-- xs + [s] -/
theorem el_more {vs : List V} (hp : H p = some (.lst vs)) (hl : vs.length ≤ 1000) (ha : Ev ta σ H (.ref p)) (hb : Ev tb σ H (.ref a)) : EvL (tOp rCat ta (tLst (tCons tb tNil))) σ H (vs ++ [.ref a]) := el_catR ha hp (el_lst (ea_cons hb ea_nil) (Nat.le_of_ble_eq_true rfl)) (by show vs.length + 1 ≤ 100000; omega)
theorem ep_isSd (h : Ev te σ H (.ref a)) (hs : SdAt K H a s) : EvP te σ H (IsSd K s) := (ep_ev h).imp fun v H1 e1 hv => ⟨a, hv, hs.ex e1⟩
end
section
variable {P : Program} {w : World} {K : PySem.W.Frag} {mg : Str → Option Value} {base : Heap}
theorem g_unl4 {σ : L2.St} {H : Hp} {n : Addr} {x y z u : V} {i j k l : Nat} (h : H n = some (.lst [x, y, z, u])) (Q : L2.St → Hp → Prop) (q : Q ((((σ.set i (some x)).set j (some y)).set k (some z)).set l (some u)) H) : gUnl K 4 (gCons (gName i) (gCons (gName j) (gCons (gName k) (gCons (gName l) gNil)))) (.ref n) σ H Q := ⟨n, [x, y, z, u], rfl, sq_of h, rfl, x, [y, z, u], rfl, y, [z, u], rfl, z, [u], rfl, u, [], rfl, rfl, q⟩
/-! ## Desk's __init__ -/
def sp_Desk_init (K : PySem.W.Frag) : Sp := fun vs H Q _ => ∃ (dk dx : Addr), vs = [.ref dk] ∧ H dk = some (.ins (CD K) dx []) ∧ ∀ H', But dk H H' → DkAt K H' dk dk0 → Q .non H'
theorem k_Desk_init (T : Facts K mg) (h_Stand_init : Km P w K mg base "Stand" "__init__" 1 ["self", "kg", "place", "tilt", "depth"] (sp_Stand_init K)) : Km P w K mg base "Desk" "__init__" 3 ["self"] (sp_Desk_init K) := by
  refine T.raw_Desk_init.km sc_Desk_init (fun vs H Q E h => ?_) (fun cdv A outer st H vs Q E hr h => ?_)
  · obtain ⟨dk, dx, rfl, _⟩ := h
    rfl
  · obtain ⟨dk, dx, rfl, hd, q⟩ := h
    refine ⟨_, (pss_cons (ps_fld (pv 0) (pe_mk T.mk_Stand T.m_Stand h_Stand_init hr (pa_cons pe_int (pa_cons pe_int (pa_cons pe_int (pa_cons pe_int pa_nil))))) rfl)
      (pss_cons (ps_fld (pv 0) (pe_lst pa_nil) rfl)
      (pss_one (ps_fld (pv 0) (pe_lst pa_nil) rfl)))), ?_⟩
    have len : ∀ n, n ≤ 10 → n < 1000 := fun n h => by omega
    refine q_fldP ((ep_stand (kg := 1) (at_ := 0) (tilt := 1) (depth := 1) (ea_cons ev_c (ea_cons ev_c (ea_cons ev_c (ea_cons ev_c ea_nil))))).imp (ψ := IsSd K (sd0 1 0 1 1)) fun v H1 e1 ⟨x, dy, lr, ll, hv, _, _, _, sy⟩ => ⟨x, hv, dy, lr, ll, sy⟩) (ev_var rfl) hd T.cl_Desk T.na_Desk_stand (len _ (by decide)) isSd_ex fun v H1 e1 ⟨x, hv, sx⟩ => ?_
    subst hv
    have sx1 := sx.put (o := .ins (CD K) dx (putF "stand" (.ref x) [])) (e1 _ _ hd) (by decide)
    have b1 := (Ex.but (a := dk) e1).put (o := .ins (CD K) dx (putF "stand" (.ref x) []))
    refine q_fldP (ep_noSds (K := K)) (ev_var rfl) upd_same T.cl_Desk T.na_Desk_ahead (len _ (Nat.le_of_ble_eq_true rfl)) isSds_ex fun v H2 e2 ⟨p, hv, hp⟩ => ?_
    subst hv
    have sx2 := (sx1.ex e2).put (o := .ins (CD K) dx (putF "ahead" (.ref p) (putF "stand" (.ref x) []))) (e2 _ _ upd_same) (Nat.le_of_ble_eq_true rfl)
    have hp2 := hp.put (o := .ins (CD K) dx (putF "ahead" (.ref p) (putF "stand" (.ref x) []))) (e2 _ _ upd_same) (Nat.le_of_ble_eq_true rfl)
    have b2 := (b1.on e2).put (o := .ins (CD K) dx (putF "ahead" (.ref p) (putF "stand" (.ref x) [])))
    refine s_fldP (ep_noSds (K := K)) (ev_var rfl) upd_same T.cl_Desk T.na_Desk_gone (len _ (Nat.le_of_ble_eq_true rfl)) isSds_ex fun v H3 e3 ⟨p3, hv, hp3⟩ => ?_
    subst hv
    exact q _ ((b2.on e3).put) ⟨dx, x, p, p3, upd_same, (sx2.ex e3).put (e3 _ _ upd_same) (Nat.le_of_ble_eq_true rfl), (hp2.ex e3).put (e3 _ _ upd_same) (Nat.le_of_ble_eq_true rfl), hp3.put (e3 _ _ upd_same) (Nat.le_of_ble_eq_true rfl)⟩
/-! ## start -/
def sp_Desk_start (K : PySem.W.Frag) : Sp := fun vs H Q _ => ∃ (dk n : Addr) (d : Dk) (kg : Nat) (a : Int) (t h : Nat), vs = [.ref dk, .ref n] ∧ DkAt K H dk d ∧ H n = some (.lst [.int kg, .int a, .int t, .int h]) ∧ DkQ K H dk (startD d kg a t h) Q
theorem cond_start (kg : Nat) (a : Int) (t h : Nat) : Km420.okStart kg a t h = ((inB kg 1 1000000 && Km420.okAt a) && (inB t 1 100000 && inB h 1 100)) := by
  unfold Km420.okStart inB
  have c1 : decide ((1 : Int) ≤ (kg : Int)) = decide (1 ≤ kg) := decide_eq_decide.mpr (by omega)
  have c2 : decide ((kg : Int) ≤ 1000000) = decide (kg ≤ 1000000) := decide_eq_decide.mpr (by omega)
  have c3 : decide ((1 : Int) ≤ (t : Int)) = decide (1 ≤ t) := decide_eq_decide.mpr (by omega)
  have c4 : decide ((t : Int) ≤ 100000) = decide (t ≤ 100000) := decide_eq_decide.mpr (by omega)
  have c5 : decide ((1 : Int) ≤ (h : Int)) = decide (1 ≤ h) := decide_eq_decide.mpr (by omega)
  have c6 : decide ((h : Int) ≤ 100) = decide (h ≤ 100) := decide_eq_decide.mpr (by omega)
  rw [c1, c2, c3, c4, c5, c6]
  simp only [Bool.and_assoc]
theorem k_Desk_start (T : Facts K mg) (h_Stand_init : Km P w K mg base "Stand" "__init__" 1 ["self", "kg", "place", "tilt", "depth"] (sp_Stand_init K)) (h_is_within : Kn P w K mg base "is_within" 1 ["number", "least", "most"] (sp_is_within K)) (h_is_place : Kn P w K mg base "is_place" 1 ["place"] (sp_is_place K)) :
    Km P w K mg base "Desk" "start" 3 ["self", "numbers"] (sp_Desk_start K) := by
  refine T.raw_Desk_start.km sc_Desk_start (fun vs H Q E h => ?_) (fun cdv A outer st H vs Q E hr h => ?_)
  · obtain ⟨dk, n, d, kg, a, t, h, rfl, _⟩ := h
    rfl
  · obtain ⟨dk, n, d, kg, a, t, h, rfl, ⟨dx, b, p, r, hd⟩, hn, q⟩ := h
    refine ⟨_, (pss_cons (ps_asg (pv 1) (pg_unl rfl (pgs_cons (pg_name (i := 2) sc_Desk_start.nd rfl (Or.inl rfl)) (pgs_cons (pg_name (i := 3) sc_Desk_start.nd rfl (Or.inl rfl)) (pgs_cons (pg_name (i := 4) sc_Desk_start.nd rfl (Or.inl rfl)) (pgs_cons (pg_name (i := 5) sc_Desk_start.nd rfl (Or.inl rfl)) pgs_nil))))))
      (pss_cons (ps_if (PW.pt (pw_or (pt_not (pt_val (pe_kn h_is_within hr (pa_cons (pv 2) (pa_cons pe_int (pa_cons pe_int pa_nil)))))) (pw_or1 (pt_not (pt_val (pe_kn h_is_place hr (pa_cons (pv 3) pa_nil))))))) (pss_one (ps_ret (pe_lst (pa_cons (pe_un un_neg pe_int) pa_nil)))) pss_nil)
      (pss_cons (ps_if (PW.pt (pw_or (pt_not (pt_val (pe_kn h_is_within hr (pa_cons (pv 4) (pa_cons pe_int (pa_cons pe_int pa_nil)))))) (pw_or1 (pt_not (pt_val (pe_kn h_is_within hr (pa_cons (pv 5) (pa_cons pe_int (pa_cons pe_int pa_nil))))))))) (pss_one (ps_ret (pe_lst (pa_cons (pe_un un_neg pe_int) pa_nil)))) pss_nil)
      (pss_cons (ps_fld (pv 0) (pe_mk T.mk_Stand T.m_Stand h_Stand_init hr (pa_cons (pv 2) (pa_cons (pv 3) (pa_cons (pv 4) (pa_cons (pv 5) pa_nil))))) rfl)
      (pss_cons (ps_fld (pv 0) (pe_lst pa_nil) rfl)
      (pss_cons (ps_fld (pv 0) (pe_lst pa_nil) rfl)
      (pss_one (ps_ret (pe_lst (pa_cons pe_int pa_nil)))))))))), ?_⟩
    refine ⟨_, rfl, g_unl4 hn _ ?_⟩
    have w1 : ∀ {x : V} {te1 te2 te3 : TE} {σ : L2.St} {H : Hp} {i j l : Int}, Ev te1 σ H (.int i) → Ev te2 σ H (.int j) → Ev te3 σ H (.int l) → EvT (tNot (tB (tCall (sp_is_within K) [] E0 (tCons te1 (tCons te2 (tCons te3 tNil)))))) σ H (!(inB i j l)) := fun h1 h2 h3 => et_not (et_B (ev_kall (ea_cons h1 (ea_cons h2 (ea_cons h3 ea_nil))) u_is_within))
    have fin : ∀ {σ : L2.St} {H' : Hp}, Ex H H' → Km420.okStart kg a t h = false → tRet (tLst (tCons (tUn (rU fun i => V.int (-i)) (tC (V.int 22))) tNil)) { nx := fun _ H' => Q .non H', rt := Q } σ H' := fun {σ H'} e c => by
      unfold startD at q
      rw [if_pos c] at q
      exact s_one (ev_un ev_c ru_neg) fun v H3 e3 hv => q v H3 (Ex.but (e.trans e3)) ⟨dx, b, p, r, hd.ex (e.trans e3)⟩ hv
    refine q_when (et_or (w1 (x := .non) (ev_var rfl) ev_c ev_c) fun _ => et_not (et_B (ev_kall (ea_cons (ev_var rfl) ea_nil) u_is_place))) (fun c H1 e1 => ?_) (fun c H1 e1 => ?_)
    · refine fin e1 ?_
      rw [cond_start]
      cases c1 : inB kg 1 1000000 <;> cases c2 : Km420.okAt a <;> rw [c1, c2] at c <;> first | rfl | cases c
    · refine q_when (et_or (w1 (x := .non) (ev_var rfl) ev_c ev_c) fun _ => w1 (x := .non) (ev_var rfl) ev_c ev_c) (fun c' H2 e2 => ?_) (fun c' H2 e2 => ?_)
      · refine fin (e1.trans e2) ?_
        rw [cond_start, Bool.and_comm]
        cases c1 : inB t 1 100000 <;> cases c2 : inB h 1 100 <;> rw [c1, c2] at c' <;> first | rfl | cases c'
      · have ok : Km420.okStart kg a t h = true := by
          rw [cond_start]
          cases c1 : inB kg 1 1000000 <;> cases c2 : Km420.okAt a <;> rw [c1, c2] at c <;> first | cases c | skip
          cases c1 : inB t 1 100000 <;> cases c2 : inB h 1 100 <;> rw [c1, c2] at c' <;> first | rfl | cases c'
        unfold startD at q
        rw [ok, if_neg (by decide)] at q
        have e12 := e1.trans e2
        refine q_dkS T (hd.ex e12) (sd0 kg a t h) ((ep_stand (ea_cons (ev_var rfl) (ea_cons (ev_var rfl) (ea_cons (ev_var rfl) (ea_cons (ev_var rfl) ea_nil))))).imp fun v H1 e1 ⟨x, dy, lr, ll, hv, _, _, _, sy⟩ => ⟨x, hv, dy, lr, ll, sy⟩) (ev_var rfl) fun H3 r3 b3 d3 => ?_
        refine q_dkA T d3 [] ep_noSds (ev_var rfl) fun H4 r4 b4 d4 => ?_
        refine q_dkG T d4 [] ep_noSds (ev_var rfl) fun H5 r5 b5 d5 => ?_
        exact s_one ev_c fun v H6 e6 hv => q v H6 (((b3.pre e12).trans b4).trans b5 |>.on e6) ⟨dx, r3, r4, r5, d5.ex e6⟩ hv
/-! ## go_on -/
def sp_Desk_go_on (K : PySem.W.Frag) : Sp := fun vs H Q _ => ∃ (dk x : Addr) (d : Dk) (t : Sd), vs = [.ref dk, .ref x] ∧ DkAt K H dk d ∧ d.ahead.length ≤ 30 ∧ SdAt K H x t ∧ ∀ H', But dk H H' → DkAt K H' dk (goOn d t) → Q .non H'
theorem k_Desk_go_on (T : Facts K mg) : Km P w K mg base "Desk" "go_on" 1 ["self", "later"] (sp_Desk_go_on K) := by
  refine T.raw_Desk_go_on.km sc_Desk_go_on (fun vs H Q E h => ?_) (fun cdv A outer st H vs Q E hr h => ?_)
  · obtain ⟨dk, x, d, t, rfl, _⟩ := h
    rfl
  · obtain ⟨dk, x, d, t, rfl, ⟨dx, b, p, r, hd⟩, hl, hx, q⟩ := h
    refine ⟨_, (pss_cons (ps_fld (pv 0) (pe_slice sl_list (pe_op op_cat (pe_fld (pv 0) rfl) (pe_lst (pa_cons (pe_fld (pv 0) rfl) pa_nil))) (po_some (pe_un un_neg (pe_gi T.g_MOST_BACK))) po_none) rfl)
      (pss_cons (ps_fld (pv 0) (pe_lst pa_nil) rfl)
      (pss_one (ps_fld (pv 0) (pv 1) rfl)))), ?_⟩
    obtain ⟨vs, hp, hs⟩ := hd.ahead
    have hvs := hs.len
    have hsn := hs.snoc hd.now
    have hxe : ∀ H1, But dk H H1 → SdAt K H1 x t := fun H1 b1 => by
      obtain ⟨dy, lr, ll, sx⟩ := hx
      have n1 : x ≠ dk := fun z => by
        have e := sx.ins
        rw [z, hd.ins] at e
        injection e with e
        injection e with e1 e2 e3
        have e4 := congrArg List.length e3
        exact absurd e4 (by show ¬ (3 = 11); omega)
      obtain ⟨us, g1, g2⟩ := sx.rooms
      obtain ⟨ws, g3, g4⟩ := sx.lines
      have tp : ∀ b ys, H b = some (.tup ys) → H1 b = some (.tup ys) := fun b ys e => b1 _ _ e (ne_of e hd.ins fun z => nomatch z)
      exact ⟨dy, lr, ll, b1 _ _ sx.ins n1, ⟨us, b1 _ _ g1 (ne_of g1 hd.ins fun z => nomatch z), g2.keep tp⟩, ⟨ws, b1 _ _ g3 (ne_of g3 hd.ins fun z => nomatch z), g4.keep tp⟩, sx.ne⟩
    refine q_dkA T hd ((d.ahead ++ [d.now]).drop ((d.ahead ++ [d.now]).length - 30)) (ep_sds (el_keep (el_more (a := b) hp (by omega) (ev_ahead T hd (ev_var rfl)) (ev_stand T hd (ev_var rfl)))) fun H1 e1 => ?_) (ev_var rfl) fun H1 r1 b1 d1 => ?_
    · have e5 : (vs ++ [V.ref b]).length = (d.ahead ++ [d.now]).length := hsn.len
      rw [e5]
      exact (hsn.imp fun _ _ h => h.ex e1).drop _
    · refine q_dkG T d1 [] ep_noSds (ev_var rfl) fun H2 r2 b2 d2 => ?_
      refine s_dkS T d2 t (ep_isSd (ev_var rfl) (hxe H2 (b1.trans b2))) (ev_var rfl) fun H3 r3 b3 d3 => ?_
      exact q _ ((b1.trans b2).trans b3) ⟨dx, r3, r1, r2, d3⟩
/-! ## take_back, do_again -/
theorem ev_lastS {σ : L2.St} {H : Hp} {te : TE} {p a : Addr} {vs : List V} (h : Ev te σ H (.ref p)) (hp : H p = some (.lst (vs ++ [.ref a]))) : Ev (tOp (rIxL K) te (tUn (rU fun i => V.int (-i)) (tC (.int 1)))) σ H (.ref a) := ev_op h (ev_un ev_c ru_neg) (rv_ixL (sq_of hp) (at_last vs (.ref a)))
theorem el_init {σ : L2.St} {H : Hp} {te : TE} {p : Addr} {v : V} {vs : List V} (h : Ev te σ H (.ref p)) (hp : H p = some (.lst (vs ++ [v]))) : EvL (tSl (rSlL K) te tNoPart (tPart (tUn (rU fun i => V.int (-i)) (tC (.int 1))))) σ H vs := by
  have e := el_sl (K := K) (lo := none) (hi := some (-1)) h eo_none (eo_some (ev_un ev_c ru_neg)) (sq_of hp)
  rw [cut_init] at e
  exact e
def sp_Desk_take_back (K : PySem.W.Frag) : Sp := fun vs H Q _ => ∃ (dk : Addr) (d : Dk), vs = [.ref dk] ∧ DkAt K H dk d ∧ d.ahead.length + d.gone.length ≤ 30 ∧ DkQ K H dk (backD d) Q
theorem k_Desk_take_back (T : Facts K mg) : Km P w K mg base "Desk" "take_back" 1 ["self"] (sp_Desk_take_back K) := by
  refine T.raw_Desk_take_back.km sc_Desk_take_back (fun vs H Q E h => ?_) (fun cdv A outer st H vs Q E hr h => ?_)
  · obtain ⟨dk, d, rfl, _⟩ := h
    rfl
  · obtain ⟨dk, d, rfl, ⟨dx, b, p, r, hd⟩, hl, q⟩ := h
    refine ⟨_, (pss_cons (ps_if (pt_cmpR op_eq (pe_callB call_len_seq (by rfl) T.n_len bt_len (pa_cons (pe_fld (pv 0) rfl) pa_nil)) pe_int (nomark _)) (pss_one (ps_ret (pe_lst (pa_cons (pe_un un_neg pe_int) pa_nil)))) pss_nil)
      (pss_cons (ps_fld (pv 0) (pe_op op_cat (pe_fld (pv 0) rfl) (pe_lst (pa_cons (pe_fld (pv 0) rfl) pa_nil))) rfl)
      (pss_cons (ps_fld (pv 0) (pe_ix ix_list (pe_fld (pv 0) rfl) (pe_un un_neg pe_int) (fun _ _ => rfl)) rfl)
      (pss_cons (ps_fld (pv 0) (pe_slice sl_list (pe_fld (pv 0) rfl) po_none (po_some (pe_un un_neg pe_int))) rfl)
      (pss_one (ps_ret (pe_lst (pa_cons (pe_callB call_len_seq (by rfl) T.n_len bt_len (pa_cons (pe_fld (pv 0) rfl) pa_nil)) pa_nil)))))))), ?_⟩
    obtain ⟨d1, d2, d3⟩ := d
    obtain ⟨vs, hp, hs⟩ := hd.ahead
    have hvs : vs.length = d2.length := hs.len
    have hl' : d2.length + d3.length ≤ 30 := hl
    refine q_when (et_test (ev_op (ev_len2 (ev_ahead T hd (ev_var rfl)) hp) ev_c rv_eqI)) (fun c H1 e1 => ?_) (fun c H1 e1 => ?_)
    · have c1 := of_decide_eq_true c
      have c2 : d2 = [] := List.eq_nil_of_length_eq_zero (by omega)
      subst c2
      exact s_one (ev_un ev_c ru_neg) fun v H3 e3 hv => q v H3 (Ex.but (e1.trans e3)) ⟨dx, b, p, r, hd.ex (e1.trans e3)⟩ hv
    · have c1 := of_decide_eq_false c
      rcases List.eq_nil_or_concat d2 with e | ⟨l, s, e⟩
      · subst e
        exact absurd (show (vs.length : Int) = 0 by rw [hvs]; rfl) c1
      · have e' : d2 = l ++ [s] := by rw [e, List.concat_eq_append]
        subst e'
        obtain ⟨us, a, hu, hs1, hs2⟩ := hs.unsnoc
        subst hu
        have eb : backD ⟨d1, l ++ [s], d3⟩ = ([((l.length : Nat) : Int)], ⟨s, l, d3 ++ [d1]⟩) := by
          unfold backD
          simp only [List.getLast?_concat, List.dropLast_concat]
        rw [eb] at q
        have hd1 := hd.ex e1
        obtain ⟨ws, hq, hw⟩ := hd1.gone
        have hws : ws.length = d3.length := hw.len
        refine q_dkG T hd1 (d3 ++ [d1]) (ep_sds (el_more hq (by omega) (ev_gone T hd1 (ev_var rfl)) (ev_stand T hd1 (ev_var rfl))) fun H2 e2 => (hw.imp fun _ _ h => h.ex e2).snoc (hd1.now.ex e2)) (ev_var rfl) fun H2 r2 b2 dd2 => ?_
        have hp2 : H2 p = some (.lst (us ++ [.ref a])) := b2 _ _ (e1 _ _ hp) (ne_of (e1 _ _ hp) hd1.ins fun z => nomatch z)
        obtain ⟨us2, hp2', hs2'⟩ := dd2.ahead
        rw [hp2] at hp2'
        injection hp2' with z
        injection z with z
        subst z
        obtain ⟨us3, a3, z, hs3, hs4⟩ := hs2'.unsnoc
        obtain ⟨z1, z2⟩ := List.append_inj' z rfl
        injection z2 with z2
        injection z2 with z2
        subst z1 z2
        refine q_dkS T dd2 s (ep_isSd (ev_lastS (ev_ahead T dd2 (ev_var rfl)) hp2) hs4) (ev_var rfl) fun H3 r3 b3 dd3 => ?_
        have hp3 : H3 p = some (.lst (us ++ [.ref a])) := b3 _ _ hp2 (ne_of hp2 dd2.ins fun z => nomatch z)
        obtain ⟨us5, hp5, hs5⟩ := dd3.ahead
        rw [hp3] at hp5
        injection hp5 with z
        injection z with z
        subst z
        obtain ⟨us6, a6, z, hs6, hs7⟩ := hs5.unsnoc
        obtain ⟨z1, z2⟩ := List.append_inj' z rfl
        subst z1
        refine q_dkA T dd3 l (ep_sds (el_init (ev_ahead T dd3 (ev_var rfl)) hp3) fun H4 e4 => hs6.imp fun _ _ h => h.ex e4) (ev_var rfl) fun H4 r4 b4 dd4 => ?_
        obtain ⟨us8, hp8, hs8⟩ := dd4.ahead
        have hu8 : us8.length = l.length := hs8.len
        exact s_one (z := ((l.length : Nat) : Int)) (ev_is (ev_len2 (ev_ahead T dd4 (ev_var rfl)) hp8) (by rw [hu8])) fun v H5 e5 hv => q v H5 (((b2.pre e1).trans b3).trans b4 |>.on e5) ⟨dx, r3, r4, r2, dd4.ex e5⟩ hv
def sp_Desk_do_again (K : PySem.W.Frag) : Sp := fun vs H Q _ => ∃ (dk : Addr) (d : Dk), vs = [.ref dk] ∧ DkAt K H dk d ∧ d.ahead.length + d.gone.length ≤ 30 ∧ DkQ K H dk (againD d) Q
theorem k_Desk_do_again (T : Facts K mg) : Km P w K mg base "Desk" "do_again" 1 ["self"] (sp_Desk_do_again K) := by
  refine T.raw_Desk_do_again.km sc_Desk_do_again (fun vs H Q E h => ?_) (fun cdv A outer st H vs Q E hr h => ?_)
  · obtain ⟨dk, d, rfl, _⟩ := h
    rfl
  · obtain ⟨dk, d, rfl, ⟨dx, b, p, r, hd⟩, hl, q⟩ := h
    refine ⟨_, (pss_cons (ps_if (pt_cmpR op_eq (pe_callB call_len_seq (by rfl) T.n_len bt_len (pa_cons (pe_fld (pv 0) rfl) pa_nil)) pe_int (nomark _)) (pss_one (ps_ret (pe_lst (pa_cons (pe_un un_neg pe_int) pa_nil)))) pss_nil)
      (pss_cons (ps_fld (pv 0) (pe_op op_cat (pe_fld (pv 0) rfl) (pe_lst (pa_cons (pe_fld (pv 0) rfl) pa_nil))) rfl)
      (pss_cons (ps_fld (pv 0) (pe_ix ix_list (pe_fld (pv 0) rfl) (pe_un un_neg pe_int) (fun _ _ => rfl)) rfl)
      (pss_cons (ps_fld (pv 0) (pe_slice sl_list (pe_fld (pv 0) rfl) po_none (po_some (pe_un un_neg pe_int))) rfl)
      (pss_one (ps_ret (pe_lst (pa_cons (pe_callB call_len_seq (by rfl) T.n_len bt_len (pa_cons (pe_fld (pv 0) rfl) pa_nil)) pa_nil)))))))), ?_⟩
    obtain ⟨d1, d2, d3⟩ := d
    obtain ⟨vs, hp, hs⟩ := hd.gone
    have hvs : vs.length = d3.length := hs.len
    have hl' : d2.length + d3.length ≤ 30 := hl
    refine q_when (et_test (ev_op (ev_len2 (ev_gone T hd (ev_var rfl)) hp) ev_c rv_eqI)) (fun c H1 e1 => ?_) (fun c H1 e1 => ?_)
    · have c1 := of_decide_eq_true c
      have c2 : d3 = [] := List.eq_nil_of_length_eq_zero (by omega)
      subst c2
      exact s_one (ev_un ev_c ru_neg) fun v H3 e3 hv => q v H3 (Ex.but (e1.trans e3)) ⟨dx, b, p, r, hd.ex (e1.trans e3)⟩ hv
    · have c1 := of_decide_eq_false c
      rcases List.eq_nil_or_concat d3 with e | ⟨l, s, e⟩
      · subst e
        exact absurd (show (vs.length : Int) = 0 by rw [hvs]; rfl) c1
      · have e' : d3 = l ++ [s] := by rw [e, List.concat_eq_append]
        subst e'
        obtain ⟨us, a, hu, hs1, hs2⟩ := hs.unsnoc
        subst hu
        have eb : againD ⟨d1, d2, l ++ [s]⟩ = ([((l.length : Nat) : Int)], ⟨s, d2 ++ [d1], l⟩) := by
          unfold againD
          simp only [List.getLast?_concat, List.dropLast_concat]
        rw [eb] at q
        have hd1 := hd.ex e1
        obtain ⟨ws, hq, hw⟩ := hd1.ahead
        have hws : ws.length = d2.length := hw.len
        refine q_dkA T hd1 (d2 ++ [d1]) (ep_sds (el_more hq (by omega) (ev_ahead T hd1 (ev_var rfl)) (ev_stand T hd1 (ev_var rfl))) fun H2 e2 => (hw.imp fun _ _ h => h.ex e2).snoc (hd1.now.ex e2)) (ev_var rfl) fun H2 r2 b2 dd2 => ?_
        have hp2 : H2 r = some (.lst (us ++ [.ref a])) := b2 _ _ (e1 _ _ hp) (ne_of (e1 _ _ hp) hd1.ins fun z => nomatch z)
        obtain ⟨us2, hp2', hs2'⟩ := dd2.gone
        rw [hp2] at hp2'
        injection hp2' with z
        injection z with z
        subst z
        obtain ⟨us3, a3, z, hs3, hs4⟩ := hs2'.unsnoc
        obtain ⟨z1, z2⟩ := List.append_inj' z rfl
        injection z2 with z2
        injection z2 with z2
        subst z1 z2
        refine q_dkS T dd2 s (ep_isSd (ev_lastS (ev_gone T dd2 (ev_var rfl)) hp2) hs4) (ev_var rfl) fun H3 r3 b3 dd3 => ?_
        have hp3 : H3 r = some (.lst (us ++ [.ref a])) := b3 _ _ hp2 (ne_of hp2 dd2.ins fun z => nomatch z)
        obtain ⟨us5, hp5, hs5⟩ := dd3.gone
        rw [hp3] at hp5
        injection hp5 with z
        injection z with z
        subst z
        obtain ⟨us6, a6, z, hs6, hs7⟩ := hs5.unsnoc
        obtain ⟨z1, z2⟩ := List.append_inj' z rfl
        subst z1
        refine q_dkG T dd3 l (ep_sds (el_init (ev_gone T dd3 (ev_var rfl)) hp3) fun H4 e4 => hs6.imp fun _ _ h => h.ex e4) (ev_var rfl) fun H4 r4 b4 dd4 => ?_
        obtain ⟨us8, hp8, hs8⟩ := dd4.gone
        have hu8 : us8.length = l.length := hs8.len
        exact s_one (z := ((l.length : Nat) : Int)) (ev_is (ev_len2 (ev_gone T dd4 (ev_var rfl)) hp8) (by rw [hu8])) fun v H5 e5 hv => q v H5 (((b2.pre e1).trans b3).trans b4 |>.on e5) ⟨dx, r3, r2, r4, dd4.ex e5⟩ hv
/-! ## tell_state -/
def sp_Desk_tell_state (K : PySem.W.Frag) : Sp := fun vs H Q _ => ∃ (dk : Addr) (d : Dk), vs = [.ref dk] ∧ DkAt K H dk d ∧ d.now.rooms.length ≤ 1000 ∧ DkQ K H dk (stateD d, d) Q
theorem k_Desk_tell_state (T : Facts K mg) (h_patched_bits : Kn P w K mg base "patched_bits" 2 ["rooms"] (sp_patched_bits K)) : Km P w K mg base "Desk" "tell_state" 3 ["self"] (sp_Desk_tell_state K) := by
  refine T.raw_Desk_tell_state.km sc_Desk_tell_state (fun vs H Q E h => ?_) (fun cdv A outer st H vs Q E hr h => ?_)
  · obtain ⟨dk, d, rfl, _⟩ := h
    rfl
  · obtain ⟨dk, d, rfl, ⟨dx, b, p, r, hd⟩, hl, q⟩ := h
    refine ⟨_, (pss_cons (ps_set (i := 1) sc_Desk_tell_state.nd rfl (Or.inl rfl) (pe_fld (pv 0) rfl))
      (pss_one (ps_ret (pe_lst (pa_cons (pe_callB call_len_seq (by rfl) T.n_len bt_len (pa_cons (pe_fld (pv 1) rfl) pa_nil)) (pa_cons (pe_callB call_len_seq (by rfl) T.n_len bt_len (pa_cons (pe_fld (pv 1) rfl) pa_nil)) (pa_cons (pe_kn h_patched_bits hr (pa_cons (pe_fld (pv 1) rfl) pa_nil)) (pa_cons (pe_callB call_len_seq (by rfl) T.n_len bt_len (pa_cons (pe_fld (pv 0) rfl) pa_nil)) (pa_cons (pe_callB call_len_seq (by rfl) T.n_len bt_len (pa_cons (pe_fld (pv 0) rfl) pa_nil)) pa_nil))))))))), ?_⟩
    refine q_asg (ev_stand T hd (ev_var rfl)) fun H1 e1 => ?_
    have hd1 := hd.ex e1
    obtain ⟨dy, lr, ll, sd⟩ := hd1.now
    obtain ⟨ts, hr1, ht⟩ := sd.rooms
    obtain ⟨us, hl1, hu⟩ := sd.lines
    obtain ⟨vs, hp, hs⟩ := hd1.ahead
    obtain ⟨ws, hq, hw⟩ := hd1.gone
    exact s_retP (ep_ints (zs := stateD d) (ea_cons (ev_is (ev_len2 (ev_rooms T sd (ev_var rfl)) hr1) (congrArg (fun n : Nat => V.int (n : Int)) ht.size)) (ea_cons (ev_is (ev_len2 (ev_lines T sd (ev_var rfl)) hl1) (congrArg (fun n : Nat => V.int (n : Int)) hu.size)) (ea_cons (ev_kall (ea_cons (ev_rooms T sd (ev_var rfl)) ea_nil) (u_patched_bits sd.rooms hl))
      (ea_cons (ev_is (ev_len2 (ev_ahead T hd1 (ev_var rfl)) hp) (congrArg (fun n : Nat => V.int (n : Int)) hs.len)) (ea_cons (ev_is (ev_len2 (ev_gone T hd1 (ev_var rfl)) hq) (congrArg (fun n : Nat => V.int (n : Int)) hw.len)) ea_nil))))) (Nat.le_of_ble_eq_true rfl)) fun v H2 e2 hv => q v H2 (Ex.but (e1.trans e2)) ⟨dx, b, p, r, hd1.ex e2⟩ hv
end
end Wr
/-! ### part: O -/
set_option Elab.async false
set_option linter.all false
set_option maxRecDepth 100000
set_option maxHeartbeats 4000000
/-! # The walk, fourteenth part: calls answered -/
namespace Wr
open PySem PySem.Spec PyProof.Rows L2 Evl
open Km420 (Call)
/-! the evaluation of what hangs on nothing but what is known -/
local macro_rules | `(tactic| walk_at "cm") => `(tactic| first | exact Or.inl ⟨by decide, by decide⟩ | exact ⟨by decide, by decide⟩ | exact Or.inr ⟨by decide, by decide⟩ | exact Or.inl ⟨by omega, by omega⟩ | exact Or.inr ⟨by omega, by omega⟩ | exact ⟨by omega, by omega⟩ | exact ⟨by omega, by omega, by omega⟩)
local macro_rules | `(tactic| walk_at "at") => `(tactic| first | rfl | assumption)
local macro_rules | `(tactic| walk_at "rv") => `(tactic| first | exact rv_I0 | exact rv_eqI | exact rv_neI | exact rv_ixT (st_of (by assumption)) (by walk_at "at") | exact rv_ixT (by assumption) (by walk_at "at") | exact rv_ixL (sq_of (by assumption)) (by walk_at "at") | exact rv_ixL (by assumption) (by walk_at "at") | (apply rv_I; walk_at "cm"))
local macro_rules | `(tactic| walk_at "ea") => `(tactic| first | exact ea_nil | (apply ea_cons; walk_at "ev"; walk_at "ea"))
local macro_rules | `(tactic| walk_at "rc") => `(tactic| first | exact rc_min2 | exact rc_max2 | exact rc_min3 | exact rc_int | exact rc_len (sq_of (by assumption)) | exact rc_len (by assumption))
local macro_rules | `(tactic| walk_at "ev") => `(tactic| first | exact ev_c | exact ev_var rfl | assumption | (apply ev_op; walk_at "ev"; walk_at "ev"; walk_at "rv") | (apply ev_un; walk_at "ev"; exact ru_neg) | (apply ev_cb; walk_at "ea"; walk_at "rc"))
/-! ## The mirror: one call, all calls -/
def wordC : Call → Int
  | .start _ _ _ _ => 0 | .room _ _ _ => 1 | .line _ _ => 2 | .patch _ => 3 | .pump _ _ => 4 | .hook _ _ => 5 | .minutes _ => 6 | .haul _ => 7 | .lower _ => 8
  | .can => 9 | .net => 10 | .bears => 11 | .pull _ => 12 | .pulls => 13 | .range => 14 | .work => 15 | .would _ => 16 | .few => 17 | .without _ => 18 | .dry _ => 19
  | .look _ => 20 | .see _ => 21 | .lifts _ => 22 | .here => 23 | .water => 24 | .back => 25 | .again => 26 | .state => 27
def numsC : Call → List Int
  | .start g a t h => [g, a, t, h] | .room m a k => [m, a, k] | .line a g => [a, g] | .patch k => [k] | .pump k n => [k, n] | .hook k o => [k, o] | .minutes n => [n] | .haul n => [n] | .lower n => [n]
  | .pull k => [k] | .would b => [b] | .without k => [k] | .dry k => [k] | .look k => [k] | .see k => [k] | .lifts k => [k]
  | _ => []
def chC (s : Sd) : Call → Option (List Int × Option Sd)
  | .room m a k => some (chRoom s m a k) | .line a g => some (chLine s a g) | .patch k => some (chPatch s k) | .pump k n => some (chPump s k n) | .hook k o => some (chHook s k o)
  | .minutes n => some (chMinutes s n) | .haul n => some (chHaul s n) | .lower n => some (chLower s n)
  | _ => none
def lkC (s : Sd) : Call → Option (List Int)
  | .can => some (lkCan s) | .net => some (lkNet s) | .bears => some (lkBears s) | .pull k => some (lkPull s k) | .pulls => some (lkPulls s) | .range => some (lkRange s) | .work => some (lkWork s)
  | .would b => some (lkWould s b) | .few => some (lkFew s) | .without k => some (lkWithout s k) | .dry k => some (lkDry s k) | .look k => some (lkLook s k) | .see k => some (lkSee s k)
  | .lifts k => some (lkLifts s k) | .here => some (lkHere s) | .water => some (lkWater s)
  | _ => none
def chD (d : Dk) (r : List Int × Option Sd) : List Int × Dk := (r.1, match r.2 with
  | none => d
  | some t => goOn d t)
def stepD (d : Dk) : Call → List Int × Dk
  | .start g a t h => startD d g a t h
  | .back => backD d
  | .again => againD d
  | .state => (stateD d, d)
  | c => match chC d.now c with
    | some r => chD d r
    | none => match lkC d.now c with
      | some r => (r, d)
      | none => ([], d)
def flatC : List Call → List Int
  | [] => []
  | c :: r => wordC c :: (numsC c ++ flatC r)
def outs : Dk → List Call → List Int
  | _, [] => []
  | d, c :: r => ((stepD d c).1.length : Int) :: ((stepD d c).1 ++ outs (stepD d c).2 r)
theorem step_ch {d : Dk} {c : Call} {r : List Int × Option Sd} (h : chC d.now c = some r) : stepD d c = chD d r := by
  cases c <;> first | (cases h; rfl) | cases h
theorem step_lk {d : Dk} {c : Call} {r : List Int} (h : lkC d.now c = some r) : stepD d c = (r, d) := by
  cases c <;> first | (cases h; rfl) | cases h
theorem word_ch {s : Sd} {c : Call} {r : List Int × Option Sd} (h : chC s c = some r) : wordC c ≠ 0 ∧ wordC c ≠ 25 ∧ wordC c ≠ 26 ∧ wordC c ≠ 27 ∧ (nameAt chgL (wordC c)).isSome = true := by
  cases c <;> first | (cases h; done) | exact ⟨of_decide_eq_false rfl, of_decide_eq_false rfl, of_decide_eq_false rfl, of_decide_eq_false rfl, rfl⟩
theorem word_lk {s : Sd} {c : Call} {r : List Int} (h : lkC s c = some r) : wordC c ≠ 0 ∧ wordC c ≠ 25 ∧ wordC c ≠ 26 ∧ wordC c ≠ 27 ∧ (nameAt chgL (wordC c)).isSome = false := by
  cases c <;> first | (cases h; done) | exact ⟨of_decide_eq_false rfl, of_decide_eq_false rfl, of_decide_eq_false rfl, of_decide_eq_false rfl, rfl⟩
theorem kinds (s : Sd) (c : Call) : (∃ g a t h, c = .start g a t h) ∨ c = .back ∨ c = .again ∨ c = .state ∨ (∃ r, chC s c = some r) ∨ ∃ r, lkC s c = some r := by
  cases c <;> first | exact .inl ⟨_, _, _, _, rfl⟩ | exact .inr (.inl rfl) | exact .inr (.inr (.inl rfl)) | exact .inr (.inr (.inr (.inl rfl))) | exact .inr (.inr (.inr (.inr (.inl ⟨_, rfl⟩)))) | exact .inr (.inr (.inr (.inr (.inr ⟨_, rfl⟩))))
theorem size_at (K : PySem.W.Frag) (c : Call) : atI (sizeL.map (He.Dv.v K)) (wordC c) = some (.int ((numsC c).length : Int)) := by
  cases c <;> rfl
section
variable {P : Program} {w : World} {K : PySem.W.Frag} {mg : Str → Option Value} {base : Heap}
/-! ## changed, looked -/
def spC (c : Call) (K : PySem.W.Frag) : Sp := fun vs H Q _ => ∃ (a n : Addr) (s : Sd) (r : List Int × Option Sd), vs = [.ref a, .ref n] ∧ SdAt K H a s ∧ Good s ∧ H n = some (.lst ((numsC c).map V.int)) ∧ chC s c = some r ∧ RetP (ChV K r) H Q
def spK (c : Call) (K : PySem.W.Frag) : Sp := fun vs H Q _ => ∃ (a n : Addr) (s : Sd) (r : List Int), vs = [.ref a, .ref n] ∧ SdAt K H a s ∧ Good s ∧ H n = some (.lst ((numsC c).map V.int)) ∧ lkC s c = some r ∧ RetP (IntsV r) H Q
structure Changes (P : Program) (w : World) (K : PySem.W.Frag) (mg : Str → Option Value) (base : Heap) : Prop where
  at_ : ∀ (c : Call) (s : Sd) r, chC s c = some r → ∃ z, nameAt chgL (wordC c) = some z ∧ Held P w K mg base 8 (He.ga K z) (spC c K)
structure Looks (P : Program) (w : World) (K : PySem.W.Frag) (mg : Str → Option Value) (base : Heap) : Prop where
  at_ : ∀ (c : Call) (s : Sd) r, lkC s c = some r → ∃ z, nameAt lookL (wordC c) = some z ∧ Held P w K mg base 8 (He.ga K z) (spK c K)
theorem Kn.held {x : Str} {k : Nat} {ps : List Str} {sp sp' : Sp} (h : Kn P w K mg base x k ps sp) (hk : k ≤ 8) (i : ∀ vs H Q E, sp' vs H Q E → sp vs H Q E) : Held P w K mg base 8 (He.ga K x) sp' := by
  obtain ⟨fd, h1, h2, h3, h4⟩ := h.ex
  exact ⟨fd, ps, (h4.mono hk).imp i, h2, h3⟩
theorem ep_callA {σ : L2.St} {H : Hp} {i : Nat} {f : Addr} {sp : Sp} {S : Addr → Option Sp} {ta : TA} {vs : List V} {φ : V → Hp → Prop} (hσ : σ[i]? = some (some (.ref f))) (hS : S f = some sp) (ha : EvA ta σ H vs) (hs : SpP sp vs H φ) : EvP (tCallA i S ta) σ H φ := fun H1 e Q q =>
  ⟨f, sp, hσ, hS, ha H1 e _ fun H2 e2 => hs H2 (e.trans e2) Q (fun v H3 e3 p => q v H3 (e2.trans e3) p) _⟩
theorem q_asgCh {σ : L2.St} {H : Hp} {te : TE} {tz : TS} {D : Ends} {i j : Nat} {r : List Int × Option Sd} (h : EvP te σ H (ChV K r))
    (q : ∀ f x H1, Ex H H1 → H1 f = some (.lst (r.1.map V.int)) → (match r.2 with
      | none => x = .non
      | some t => ∃ b, x = .ref b ∧ SdAt K H1 b t) → tz D ((σ.set i (some (.ref f))).set j (some x)) H1) : tSeq (tAsg te (gTup K 2 (gCons (gName i) (gCons (gName j) gNil)))) tz D σ H :=
  h H (Ex.refl H) _ fun v H1 e ⟨f, x, h1, h2, h3⟩ => g_two h1 _ (q f x H1 e h2 h3)
/-- a method of the desk is called -/
theorem m_desk {σ : L2.St} {H : Hp} {m : Str} {sp : Sp} {E : XK} {ta : TE} {t : TA} {dk : Addr} {d : Dk} {vs : List V} {Q : VK} (ha : Ev ta σ H (.ref dk)) (hd : DkAt K H dk d) (hm : ∀ a p q, (dkF a p q).lookup m = none) (hv : EvA t σ H vs) (q : ∀ H1, Ex H H1 → sp (.ref dk :: vs) H1 Q E) : tMeth (CD K) m sp [] E ta t σ H Q :=
  ha H (Ex.refl H) _ fun H1 e1 => by
    obtain ⟨dx, a, p, r, h⟩ := hd.ex e1
    exact ⟨dk, dx, dkF a p r, rfl, h.ins, hm _ _ _, hv H1 e1 _ fun H2 e2 => by
      rw [List.append_nil]
      exact q H2 (e1.trans e2)⟩
theorem no_go_on (a p q : Addr) : (dkF a p q).lookup ("go_on" : Str) = none := (lk_past (by decide +kernel)).trans ((lk_past (by decide +kernel)).trans ((lk_past (by decide +kernel)).trans rfl))
theorem no_start (a p q : Addr) : (dkF a p q).lookup ("start" : Str) = none := (lk_past (by decide +kernel)).trans ((lk_past (by decide +kernel)).trans ((lk_past (by decide +kernel)).trans rfl))
theorem no_back (a p q : Addr) : (dkF a p q).lookup ("take_back" : Str) = none := (lk_past (by decide +kernel)).trans ((lk_past (by decide +kernel)).trans ((lk_past (by decide +kernel)).trans rfl))
theorem no_again (a p q : Addr) : (dkF a p q).lookup ("do_again" : Str) = none := (lk_past (by decide +kernel)).trans ((lk_past (by decide +kernel)).trans ((lk_past (by decide +kernel)).trans rfl))
theorem no_state (a p q : Addr) : (dkF a p q).lookup ("tell_state" : Str) = none := (lk_past (by decide +kernel)).trans ((lk_past (by decide +kernel)).trans ((lk_past (by decide +kernel)).trans rfl))
def sp_changed (K : PySem.W.Frag) : Sp := fun vs H Q _ => ∃ (dk n : Addr) (d : Dk) (c : Call) (r : List Int × Option Sd), vs = [.ref dk, .int (wordC c), .ref n] ∧ DkAt K H dk d ∧ GoodD d ∧ H n = some (.lst ((numsC c).map V.int)) ∧ chC d.now c = some r ∧ DkQ K H dk (chD d r) Q
theorem k_changed (T : Facts K mg) (C : Changes P w K mg base) (m_go_on : Km P w K mg base "Desk" "go_on" 1 ["self", "later"] (sp_Desk_go_on K)) : Kn P w K mg base "changed" 9 ["desk", "word", "numbers"] (sp_changed K) := by
  refine T.raw_changed.kn sc_changed (fun vs H Q E h => ?_) (fun cdv A outer st H vs Q E hr h => ?_)
  · obtain ⟨dk, n, d, c, r, rfl, _⟩ := h
    rfl
  · obtain ⟨dk, n, d, c, r, rfl, ⟨dx, b, p, l, hd⟩, g, hn, hc, q⟩ := h
    obtain ⟨z, hz, held⟩ := C.at_ c d.now r hc
    have hA : ∀ f sp, (fun f => if f = He.ga K z then some (spC c K) else none) f = some sp → Held P w K mg base 8 f sp := fun f sp e => by
      by_cases hf : f = He.ga K z
      · subst hf
        have e' : (if He.ga K z = He.ga K z then some (spC c K) else none) = some sp := e
        rw [if_pos rfl] at e'
        cases e'
        exact held
      · have e' : (if f = He.ga K z then some (spC c K) else none) = some sp := e
        rw [if_neg hf] at e'
        cases e'
    obtain ⟨fd_go_on, kp_go_on, b_go_on, F_go_on⟩ := m_go_on.ex
    refine ⟨_, (pss_cons (ps_set (i := 3) sc_changed.nd rfl (Or.inl rfl) (pe_ix (ix_tab T.chg) (pe_glob (v := .ref (He.ga K "CHANGES")) rfl T.m_CHANGES rfl) (pv 1) (fun _ _ => rfl)))
      (pss_cons (ps_asg (pe_callA (i := 3) hA (hr.mono (by decide)) rfl (.inl rfl) (pa_cons (pe_fld (pv 0) rfl) (pa_cons (pv 2) pa_nil))) (pg_tup rfl (pgs_cons (pg_name (i := 4) sc_changed.nd rfl (Or.inl rfl)) (pgs_cons (pg_name (i := 5) sc_changed.nd rfl (Or.inl rfl)) pgs_nil))))
      (pss_cons (ps_if (pt_cmpR op_notN (pv 5) pe_non (nomark _)) (pss_one (ps_expr (pe_meth (pv 0) T.cl_Desk T.me_Desk_go_on F_go_on (hr.mono (by decide)) b_go_on .nil pass0 (pa_cons (pv 5) pa_nil)))) pss_nil)
      (pss_one (ps_ret (pv 4)))))), ?_⟩
    refine q_asg (v := .ref (He.ga K z)) (ev_op ev_c (ev_var rfl) fun H1 e Q q => ⟨wordC c, z, rfl, rfl, hz, q H1 (Ex.refl _)⟩) fun H1 e1 => ?_
    have hd1 := hd.ex e1
    refine q_asgCh (r := r) (ep_callA (f := He.ga K z) (sp := spC c K) (vs := [.ref b, .ref n]) rfl (if_pos rfl) (ea_cons (ev_stand T hd1 (ev_var rfl)) (ea_cons (ev_var rfl) ea_nil)) fun H2 e2 Q q E => ⟨b, n, d.now, r, rfl, hd1.now.ex e2, g.now, e2 _ _ (e1 _ _ hn), hc, q⟩) fun f x H2 e2 hf hx => ?_
    have hd2 := hd1.ex e2
    have e12 := e1.trans e2
    obtain ⟨out, ch⟩ := r
    cases ch with
    | none =>
      have hx' : x = .non := hx
      subst hx'
      refine q_when (et_test (ev_notN (b := false) (ev_var rfl) rfl)) (fun c' H3 e3 => by cases c') (fun c' H3 e3 => ?_)
      exact s_ret (ev_var rfl) fun H4 e4 => q _ H4 (Ex.but ((e12.trans e3).trans e4)) ⟨dx, b, p, l, hd2.ex (e3.trans e4)⟩ ⟨f, rfl, e4 _ _ (e3 _ _ hf)⟩
    | some t =>
      obtain ⟨y, hy, hys⟩ := (show ∃ b, x = .ref b ∧ SdAt K H2 b t from hx)
      subst hy
      refine q_when (et_test (ev_notN (b := true) (ev_var rfl) rfl)) (fun c' H3 e3 => ?_) (fun c' H3 e3 => by cases c')
      have hl := g.len
      refine m_desk (vs := [.ref y]) (ev_var rfl) ⟨dx, b, p, l, hd2.ex e3⟩ no_go_on (ea_cons (ev_var rfl) ea_nil) fun H4 e4 => ⟨dk, y, d, t, rfl, ⟨dx, b, p, l, hd2.ex (e3.trans e4)⟩, by omega, hys.ex (e3.trans e4), fun H5 b5 hd5 => ?_⟩
      have hf4 := e4 _ _ (e3 _ _ hf)
      have hf5 : H5 f = some (.lst (out.map V.int)) := b5 _ _ hf4 (ne_of hf4 ((hd2.ex (e3.trans e4)).ins) fun z => nomatch z)
      exact s_ret (ev_var rfl) fun H6 e6 => q _ H6 ((b5.pre ((e12.trans e3).trans e4)).on e6) (hd5.ex e6) ⟨f, rfl, e6 _ _ hf5⟩
def sp_looked (K : PySem.W.Frag) : Sp := fun vs H Q _ => ∃ (dk n : Addr) (d : Dk) (c : Call) (r : List Int), vs = [.ref dk, .int (wordC c), .ref n] ∧ DkAt K H dk d ∧ GoodD d ∧ H n = some (.lst ((numsC c).map V.int)) ∧ lkC d.now c = some r ∧ DkQ K H dk (r, d) Q
theorem k_looked (T : Facts K mg) (C : Looks P w K mg base) : Kn P w K mg base "looked" 9 ["desk", "word", "numbers"] (sp_looked K) := by
  refine T.raw_looked.kn sc_looked (fun vs H Q E h => ?_) (fun cdv A outer st H vs Q E hr h => ?_)
  · obtain ⟨dk, n, d, c, r, rfl, _⟩ := h
    rfl
  · obtain ⟨dk, n, d, c, r, rfl, ⟨dx, b, p, l, hd⟩, g, hn, hc, q⟩ := h
    obtain ⟨z, hz, held⟩ := C.at_ c d.now r hc
    have hA : ∀ f sp, (fun f => if f = He.ga K z then some (spK c K) else none) f = some sp → Held P w K mg base 8 f sp := fun f sp e => by
      by_cases hf : f = He.ga K z
      · subst hf
        have e' : (if He.ga K z = He.ga K z then some (spK c K) else none) = some sp := e
        rw [if_pos rfl] at e'
        cases e'
        exact held
      · have e' : (if f = He.ga K z then some (spK c K) else none) = some sp := e
        rw [if_neg hf] at e'
        cases e'
    refine ⟨_, (pss_cons (ps_set (i := 3) sc_looked.nd rfl (Or.inl rfl) (pe_ix (ix_tab T.look) (pe_glob (v := .ref (He.ga K "LOOKS")) rfl T.m_LOOKS rfl) (pv 1) (fun _ _ => rfl)))
      (pss_one (ps_ret (pe_callA (i := 3) hA (hr.mono (by decide)) rfl (.inl rfl) (pa_cons (pe_fld (pv 0) rfl) (pa_cons (pv 2) pa_nil)))))), ?_⟩
    refine q_asg (v := .ref (He.ga K z)) (ev_op ev_c (ev_var rfl) fun H1 e Q q => ⟨wordC c, z, rfl, rfl, hz, q H1 (Ex.refl _)⟩) fun H1 e1 => ?_
    have hd1 := hd.ex e1
    exact s_retP (ep_callA (f := He.ga K z) (sp := spK c K) (vs := [.ref b, .ref n]) (φ := IntsV r) rfl (if_pos rfl) (ea_cons (ev_stand T hd1 (ev_var rfl)) (ea_cons (ev_var rfl) ea_nil)) fun H2 e2 Q q E => ⟨b, n, d.now, r, rfl, hd1.now.ex e2, g.now, e2 _ _ (e1 _ _ hn), hc, q⟩) fun v H2 e2 hv => q v H2 (Ex.but (e1.trans e2)) ⟨dx, b, p, l, hd1.ex e2⟩ hv
/-! ## answered -/
theorem s_callD {σ : L2.St} {H : Hp} {sp : Sp} {E : XK} {ta : TA} {vs : List V} {D : Ends} (ha : EvA ta σ H vs) (k : ∀ H1, Ex H H1 → sp vs H1 D.rt E) : tRet (tCall sp [] E ta) D σ H := ha H (Ex.refl _) _ fun H1 e1 => by
  rw [List.append_nil]
  exact k H1 e1
def sp_answered (K : PySem.W.Frag) : Sp := fun vs H Q _ => ∃ (dk n : Addr) (d : Dk) (c : Call), vs = [.ref dk, .int (wordC c), .ref n] ∧ DkAt K H dk d ∧ GoodD d ∧ H n = some (.lst ((numsC c).map V.int)) ∧ DkQ K H dk (stepD d c) Q
theorem k_answered (T : Facts K mg) (m_start : Km P w K mg base "Desk" "start" 3 ["self", "numbers"] (sp_Desk_start K)) (m_take_back : Km P w K mg base "Desk" "take_back" 1 ["self"] (sp_Desk_take_back K)) (m_do_again : Km P w K mg base "Desk" "do_again" 1 ["self"] (sp_Desk_do_again K))
    (m_tell_state : Km P w K mg base "Desk" "tell_state" 3 ["self"] (sp_Desk_tell_state K)) (h_changed : Kn P w K mg base "changed" 9 ["desk", "word", "numbers"] (sp_changed K)) (h_looked : Kn P w K mg base "looked" 9 ["desk", "word", "numbers"] (sp_looked K)) :
    Kn P w K mg base "answered" 10 ["desk", "word", "numbers"] (sp_answered K) := by
  refine T.raw_answered.kn sc_answered (fun vs H Q E h => ?_) (fun cdv A outer st H vs Q E hr h => ?_)
  · obtain ⟨dk, n, d, c, rfl, _⟩ := h
    rfl
  · obtain ⟨dk, n, d, c, rfl, hd, g, hn, q⟩ := h
    obtain ⟨fd_start, kp_start, b_start, F_start⟩ := m_start.ex
    obtain ⟨fd_take_back, kp_take_back, b_take_back, F_take_back⟩ := m_take_back.ex
    obtain ⟨fd_do_again, kp_do_again, b_do_again, F_do_again⟩ := m_do_again.ex
    obtain ⟨fd_tell_state, kp_tell_state, b_tell_state, F_tell_state⟩ := m_tell_state.ex
    refine ⟨_, (pss_cons (ps_if (pt_cmpR op_eq (pv 1) (pe_gi T.g_START) (nomark _)) (pss_one (ps_ret (pe_meth (pv 0) T.cl_Desk T.me_Desk_start F_start (hr.mono (by decide)) b_start .nil pass0 (pa_cons (pv 2) pa_nil)))) pss_nil)
      (pss_cons (ps_if (pt_cmpR op_eq (pv 1) (pe_gi T.g_BACK) (nomark _)) (pss_one (ps_ret (pe_meth0 (pv 0) T.cl_Desk T.me_Desk_take_back F_take_back (hr.mono (by decide)) b_take_back .nil pass0))) pss_nil)
      (pss_cons (ps_if (pt_cmpR op_eq (pv 1) (pe_gi T.g_AGAIN) (nomark _)) (pss_one (ps_ret (pe_meth0 (pv 0) T.cl_Desk T.me_Desk_do_again F_do_again (hr.mono (by decide)) b_do_again .nil pass0))) pss_nil)
      (pss_cons (ps_if (pt_cmpR op_eq (pv 1) (pe_gi T.g_STATE) (nomark _)) (pss_one (ps_ret (pe_meth0 (pv 0) T.cl_Desk T.me_Desk_tell_state F_tell_state (hr.mono (by decide)) b_tell_state .nil pass0))) pss_nil)
      (pss_cons (ps_if (pt_cmpR (op_inD T.chg) (pv 1) (pe_glob (v := .ref (He.ga K "CHANGES")) rfl T.m_CHANGES rfl) (by rfl)) (pss_one (ps_ret (pe_kn h_changed hr (pa_cons (pv 0) (pa_cons (pv 1) (pa_cons (pv 2) pa_nil)))))) pss_nil)
      (pss_one (ps_ret (pe_kn h_looked hr (pa_cons (pv 0) (pa_cons (pv 1) (pa_cons (pv 2) pa_nil))))))))))), ?_⟩
    have gl := g.len
    have grn := g.now.rn
    have ek : ∀ (z : Int) {σ : L2.St} {H1 : Hp}, σ[1]? = some (some (.int (wordC c))) → EvT (tTest (tOp rEq (tVar 1) (tC (.int z)))) σ H1 (decide (wordC c = z)) := fun z {σ H1} hσ => et_test (ev_op (ev_var hσ) ev_c rv_eqI)
    have skip : ∀ {z : Int} {tu tz : TS} {D : Ends} {σ : L2.St} {H1 : Hp}, σ[1]? = some (some (.int (wordC c))) → wordC c ≠ z → (∀ H2, Ex H1 H2 → tz D σ H2) → tSeq (tIfS (tTest (tOp rEq (tVar 1) (tC (.int z)))) tu tNext) tz D σ H1 := fun {z tu tz D σ H1} hσ hz k => q_when (ek z hσ) (fun c' => absurd (of_decide_eq_true c') hz) (fun _ => k)
    rcases kinds d.now c with ⟨kg, a, t, h, rfl⟩ | rfl | rfl | rfl | ⟨r, hr1⟩ | ⟨r, hr1⟩
    · refine q_when (ek 0 rfl) (fun c' H1 e1 => ?_) (fun c' => absurd rfl (of_decide_eq_false c'))
      exact m_desk (vs := [.ref n]) (ev_var rfl) (hd.ex e1) no_start (ea_cons (ev_var rfl) ea_nil) fun H2 e2 => ⟨dk, n, d, kg, a, t, h, rfl, hd.ex (e1.trans e2), e2 _ _ (e1 _ _ hn), q.on (e1.trans e2)⟩
    · refine skip rfl (by show ¬ ((25 : Int) = 0); decide) fun H1 e1 => ?_
      refine q_when (ek 25 rfl) (fun c' H2 e2 => ?_) (fun c' => absurd rfl (of_decide_eq_false c'))
      exact m_desk (vs := []) (ev_var rfl) (hd.ex (e1.trans e2)) no_back ea_nil fun H3 e3 => ⟨dk, d, rfl, hd.ex ((e1.trans e2).trans e3), gl, q.on ((e1.trans e2).trans e3)⟩
    · refine skip rfl (by show ¬ ((26 : Int) = 0); decide) fun H1 e1 => ?_
      refine skip rfl (by show ¬ ((26 : Int) = 25); decide) fun H2 e2 => ?_
      refine q_when (ek 26 rfl) (fun c' H3 e3 => ?_) (fun c' => absurd rfl (of_decide_eq_false c'))
      have e13 := (e1.trans e2).trans e3
      exact m_desk (vs := []) (ev_var rfl) (hd.ex e13) no_again ea_nil fun H3 e3 => ⟨dk, d, rfl, hd.ex (e13.trans e3), gl, q.on (e13.trans e3)⟩
    · refine skip rfl (by show ¬ ((27 : Int) = 0); decide) fun H1 e1 => ?_
      refine skip rfl (by show ¬ ((27 : Int) = 25); decide) fun H2 e2 => ?_
      refine skip rfl (by show ¬ ((27 : Int) = 26); decide) fun H3 e3 => ?_
      refine q_when (ek 27 rfl) (fun c' H4 e4 => ?_) (fun c' => absurd rfl (of_decide_eq_false c'))
      have e13 := ((e1.trans e2).trans e3).trans e4
      exact m_desk (vs := []) (ev_var rfl) (hd.ex e13) no_state ea_nil fun H3 e3 => ⟨dk, d, rfl, hd.ex (e13.trans e3), by omega, q.on (e13.trans e3)⟩
    · obtain ⟨w0, w1, w2, w3, w4⟩ := word_ch hr1
      rw [step_ch hr1] at q
      refine skip rfl w0 fun H1 e1 => ?_
      refine skip rfl w1 fun H2 e2 => ?_
      refine skip rfl w2 fun H3 e3 => ?_
      refine skip rfl w3 fun H4 e4 => ?_
      have e14 := ((e1.trans e2).trans e3).trans e4
      refine q_when (b := true) (et_test (ev_op (ev_var rfl) ev_c fun H5 e5 Q q => ⟨wordC c, rfl, rfl, by rw [w4]; exact q H5 (Ex.refl _)⟩)) (fun c' H5 e5 => ?_) (fun c' => Bool.noConfusion c')
      exact s_callD (vs := [.ref dk, .int (wordC c), .ref n]) (ea_cons (ev_var rfl) (ea_cons (ev_var rfl) (ea_cons (ev_var rfl) ea_nil))) fun H6 e6 => ⟨dk, n, d, c, r, rfl, hd.ex ((e14.trans e5).trans e6), g, e6 _ _ (e5 _ _ (e14 _ _ hn)), hr1, q.on ((e14.trans e5).trans e6)⟩
    · obtain ⟨w0, w1, w2, w3, w4⟩ := word_lk hr1
      rw [step_lk hr1] at q
      refine skip rfl w0 fun H1 e1 => ?_
      refine skip rfl w1 fun H2 e2 => ?_
      refine skip rfl w2 fun H3 e3 => ?_
      refine skip rfl w3 fun H4 e4 => ?_
      have e14 := ((e1.trans e2).trans e3).trans e4
      refine q_when (b := false) (et_test (ev_op (ev_var rfl) ev_c fun H5 e5 Q q => ⟨wordC c, rfl, rfl, by rw [w4]; exact q H5 (Ex.refl _)⟩)) (fun c' => Bool.noConfusion c') (fun c' H5 e5 => ?_)
      exact s_callD (vs := [.ref dk, .int (wordC c), .ref n]) (ea_cons (ev_var rfl) (ea_cons (ev_var rfl) (ea_cons (ev_var rfl) ea_nil))) fun H6 e6 => ⟨dk, n, d, c, r, rfl, hd.ex ((e14.trans e5).trans e6), g, e6 _ _ (e5 _ _ (e14 _ _ hn)), hr1, q.on ((e14.trans e5).trans e6)⟩
end
end Wr
/-! ### part: R -/
set_option Elab.async false
set_option linter.all false
set_option maxRecDepth 100000
set_option maxHeartbeats 4000000
/-! # The walk, last part: answers -/
namespace Wr
open PySem PySem.Spec PyProof.Rows L2 Evl
open Km420 (Call)
/-! the evaluation of what hangs on nothing but what is known -/
local macro_rules | `(tactic| walk_at "cm") => `(tactic| first | exact Or.inl ⟨by decide, by decide⟩ | exact ⟨by decide, by decide⟩ | exact Or.inr ⟨by decide, by decide⟩ | exact Or.inl ⟨by omega, by omega⟩ | exact Or.inr ⟨by omega, by omega⟩ | exact ⟨by omega, by omega⟩ | exact ⟨by omega, by omega, by omega⟩)
local macro_rules | `(tactic| walk_at "at") => `(tactic| first | rfl | assumption)
local macro_rules | `(tactic| walk_at "rv") => `(tactic| first | exact rv_I0 | exact rv_eqI | exact rv_neI | exact rv_ixT (st_of (by assumption)) (by walk_at "at") | exact rv_ixT (by assumption) (by walk_at "at") | exact rv_ixL (sq_of (by assumption)) (by walk_at "at") | exact rv_ixL (by assumption) (by walk_at "at") | (apply rv_I; walk_at "cm"))
local macro_rules | `(tactic| walk_at "ea") => `(tactic| first | exact ea_nil | (apply ea_cons; walk_at "ev"; walk_at "ea"))
local macro_rules | `(tactic| walk_at "rc") => `(tactic| first | exact rc_min2 | exact rc_max2 | exact rc_min3 | exact rc_int | exact rc_len (sq_of (by assumption)) | exact rc_len (by assumption))
local macro_rules | `(tactic| walk_at "ev") => `(tactic| first | exact ev_c | exact ev_var rfl | assumption | (apply ev_op; walk_at "ev"; walk_at "ev"; walk_at "rv") | (apply ev_un; walk_at "ev"; exact ru_neg) | (apply ev_cb; walk_at "ea"; walk_at "rc"))
/-! ## A desk stays good -/
theorem sd0_good {kg : Nat} {a : Int} {t h : Nat} (ok : Km420.okStart kg a t h = true) : Good (sd0 kg a t h) := by
  unfold Km420.okStart Km420.okAt at ok
  simp only [Bool.and_eq_true, decide_eq_true_eq] at ok
  obtain ⟨h1, h2, ⟨h3, h4⟩, h5, h6, h7, h8⟩ := ok
  exact ⟨h2, h3, h4, h6, by show 0 ≤ 6; omega, by show 0 ≤ 4; omega, (fun r hr => nomatch hr), (fun r hr => nomatch hr), List.nodup_nil⟩
theorem dk0_good : GoodD dk0 := ⟨sd0_good (by decide), (fun s hs => nomatch hs), (fun s hs => nomatch hs), by show 0 + 0 ≤ 30; omega⟩
theorem chC_good {s t : Sd} (g : Good s) {c : Call} {r : List Int × Option Sd} (h : chC s c = some r) (ht : r.2 = some t) : Good t := by
  cases c <;> first | (cases h; done) | skip
  all_goals cases h
  · exact g.chRoom ht
  · exact g.chLine ht
  · exact g.chPatch ht
  · exact g.chPump ht
  · exact g.chHook ht
  · exact g.chMinutes ht
  · exact g.chHaul ht
  · exact g.chLower ht
theorem goOn_good {d : Dk} (g : GoodD d) {t : Sd} (gt : Good t) : GoodD (goOn d t) := by
  refine ⟨gt, fun s hs => ?_, (fun s hs => nomatch hs), ?_⟩
  · have hs' := List.mem_of_mem_drop hs
    rcases List.mem_append.mp hs' with h | h
    · exact g.ahead s h
    · rw [List.mem_singleton.mp h]
      exact g.now
  · show ((d.ahead ++ [d.now]).drop _).length + 0 ≤ 30
    rw [List.length_drop]
    omega
theorem backD_nil {d : Dk} (h : d.ahead = []) : backD d = ([-2], d) := by
  unfold backD
  rw [h]
  rfl
theorem backD_snoc {d : Dk} {l : List Sd} {s : Sd} (h : d.ahead = l ++ [s]) : backD d = ([((l.length : Nat) : Int)], ⟨s, l, d.gone ++ [d.now]⟩) := by
  unfold backD
  rw [h]
  simp only [List.getLast?_concat, List.dropLast_concat]
theorem againD_nil {d : Dk} (h : d.gone = []) : againD d = ([-2], d) := by
  unfold againD
  rw [h]
  rfl
theorem againD_snoc {d : Dk} {l : List Sd} {s : Sd} (h : d.gone = l ++ [s]) : againD d = ([((l.length : Nat) : Int)], ⟨s, d.ahead ++ [d.now], l⟩) := by
  unfold againD
  rw [h]
  simp only [List.getLast?_concat, List.dropLast_concat]
theorem nil_or_snoc {α : Type} (l : List α) : l = [] ∨ ∃ m x, l = m ++ [x] := by
  rcases List.eq_nil_or_concat l with e | ⟨m, x, e⟩
  · exact .inl e
  · exact .inr ⟨m, x, by rw [e, List.concat_eq_append]⟩
theorem step_good {d : Dk} (g : GoodD d) (c : Call) : GoodD (stepD d c).2 := by
  rcases kinds d.now c with ⟨kg, a, t, h, rfl⟩ | rfl | rfl | rfl | ⟨r, hr1⟩ | ⟨r, hr1⟩
  · show GoodD (startD d kg a t h).2
    unfold startD
    split
    · exact g
    · rename_i c1
      have ok : Km420.okStart kg a t h = true := by
        cases e : Km420.okStart kg a t h
        · exact absurd e c1
        · rfl
      exact ⟨sd0_good ok, (fun s hs => nomatch hs), (fun s hs => nomatch hs), by show 0 + 0 ≤ 30; omega⟩
  · show GoodD (backD d).2
    have gl := g.len
    rcases nil_or_snoc d.ahead with e | ⟨l, s, e⟩
    · rw [backD_nil e]
      exact g
    · rw [backD_snoc e]
      rw [e, List.length_append] at gl
      have gl' : l.length + 1 + d.gone.length ≤ 30 := gl
      refine ⟨g.ahead s (by rw [e]; exact List.mem_append_right _ (List.mem_singleton.mpr rfl)), fun x hx => g.ahead x (by rw [e]; exact List.mem_append_left _ hx), fun x hx => ?_, ?_⟩
      · rcases List.mem_append.mp hx with h | h
        · exact g.gone x h
        · rw [List.mem_singleton.mp h]
          exact g.now
      · show l.length + (d.gone ++ [d.now]).length ≤ 30
        rw [List.length_append]
        show l.length + (d.gone.length + 1) ≤ 30
        omega
  · show GoodD (againD d).2
    have gl := g.len
    rcases nil_or_snoc d.gone with e | ⟨l, s, e⟩
    · rw [againD_nil e]
      exact g
    · rw [againD_snoc e]
      rw [e, List.length_append] at gl
      have gl' : d.ahead.length + (l.length + 1) ≤ 30 := gl
      refine ⟨g.gone s (by rw [e]; exact List.mem_append_right _ (List.mem_singleton.mpr rfl)), fun x hx => ?_, fun x hx => g.gone x (by rw [e]; exact List.mem_append_left _ hx), ?_⟩
      · rcases List.mem_append.mp hx with h | h
        · exact g.ahead x h
        · rw [List.mem_singleton.mp h]
          exact g.now
      · show (d.ahead ++ [d.now]).length + l.length ≤ 30
        rw [List.length_append]
        show d.ahead.length + 1 + l.length ≤ 30
        omega
  · exact g
  · rw [step_ch hr1]
    unfold chD
    cases e : r.2 with
    | none => exact g
    | some t => exact goOn_good g (chC_good g.now hr1 e)
  · rw [step_lk hr1]
    exact g
/-! ## One address out of sight -/
def hide (l : Addr) (H : Hp) : Hp := fun b => if b = l then none else H b
section
variable {K : PySem.W.Frag} {H H' H1 : Hp} {l dk a dx p q lr ll : Addr} {d : Dk} {s : Sd} {o u : HO} {od : Obj}
theorem hide_ne {b : Addr} (h : b ≠ l) : hide l H b = H b := if_neg h
theorem hide_at : hide l H l = none := if_pos rfl
theorem hide_upd : hide l (upd H l o) = hide l H := by
  funext b
  unfold hide
  split
  · rfl
  · rename_i h
    rw [upd_ne h]
theorem hide_ex : Ex (hide l H) (upd H l o) := fun b u e => by
  by_cases h : b = l
  · subst h
    rw [hide_at] at e
    cases e
  · rw [hide_ne h] at e
    rw [upd_ne h]
    exact e
theorem hide_mono (e : Ex H H1) : Ex (hide l H) (hide l H1) := fun b u h => by
  by_cases c : b = l
  · subst c
    rw [hide_at] at h
    cases h
  · rw [hide_ne c] at h ⊢
    exact e b u h
theorem hide_of {b : Addr} (hl : H l = some (.frz od u)) (hb : H b = some o) (n : o ≠ .frz od u) : hide l H b = some o := by
  rw [hide_ne (ne_of hb hl n)]
  exact hb
theorem Rows.hide {xss : List (List V)} (h : Rows H p xss) (hl : H l = some (.frz od u)) : Rows (hide l H) p xss := by
  obtain ⟨vs, h1, h2⟩ := h
  exact ⟨vs, hide_of hl h1 (fun z => nomatch z), h2.keep fun b ys e => hide_of hl e (fun z => nomatch z)⟩
theorem SdAt.hide (h : SdAt K H a s) (hl : H l = some (.frz od u)) : SdAt K (hide l H) a s := by
  obtain ⟨dx, lr, ll, h⟩ := h
  exact ⟨dx, lr, ll, hide_of hl h.ins (fun z => nomatch z), h.rooms.hide hl, h.lines.hide hl, h.ne⟩
theorem SdsAt.hide {ss : List Sd} (h : SdsAt K H p ss) (hl : H l = some (.frz od u)) : SdsAt K (hide l H) p ss := by
  obtain ⟨vs, h1, h2⟩ := h
  exact ⟨vs, hide_of hl h1 (fun z => nomatch z), h2.imp fun _ _ h => h.hide hl⟩
theorem DkAt.hide (h : DkAt K H dk d) (hl : H l = some (.frz od u)) : DkAt K (hide l H) dk d := by
  obtain ⟨dx, a, p, q, h⟩ := h
  exact ⟨dx, a, p, q, hide_of hl h.ins (fun z => nomatch z), h.now.hide hl, h.ahead.hide hl, h.gone.hide hl⟩
theorem hide_new (n : H l = none) : Ex H (hide l (upd H l o)) := fun b u e => by
  rw [hide_ne (ne_of_none e n), upd_ne (ne_of_none e n)]
  exact e
end
section
variable {P : Program} {w : World} {K : PySem.W.Frag} {mg : Str → Option Value} {base : Heap}
/-! ## rules -/
theorem q_lockCall {σ : L2.St} {H : Hp} {sp : Sp} {E : XK} {ta : TA} {tz : TS} {D : Ends} {Φ : List V → Hp → Prop} {i : Nat} {l : Addr} {xs : List V} (hl : H l = some (.lst xs)) (ha : ∀ od, EvPA ta σ (upd H l (.frz od (.lst xs))) Φ)
    (k : ∀ od vs H1, Ex (upd H l (.frz od (.lst xs))) H1 → Φ vs H1 → sp vs H1 (fun v H2 => H2 l = some (.frz od (.lst xs)) ∧ tz D (σ.set i (some v)) (upd H2 l (.lst xs))) E) : tSeq (tAsg (tLockE (tCall sp [] E ta)) (gName i)) tz D σ H :=
  ⟨l, .lst xs, hl, trivial, fun od => ha od _ (Ex.refl _) _ fun vs H1 e1 p => by
    rw [List.append_nil]
    exact k od vs H1 e1 p⟩
theorem q_ext {σ : L2.St} {H : Hp} {ta te : TE} {tz : TS} {D : Ends} {l f : Addr} {xs zs : List V} (hl : H l = some (.lst xs)) (hf : H f = some (.lst zs)) (ha : Ev ta σ H (.ref l)) (h : Ev te σ H (.ref f)) (hz : xs.length + zs.length ≤ 100000) (k : ∀ H1, Ex H H1 → tz D σ (upd H1 l (.lst (xs ++ zs)))) :
    tSeq (tDrop (tBM K "list" rExtend ta (tCons te tNil))) tz D σ H := ha H (Ex.refl H) _ fun H1 e1 =>
  ⟨Or.inl ⟨rfl, xs, sq_of (e1 l _ hl)⟩, h H1 e1 _ fun H2 e2 => ⟨l, f, xs, zs, rfl, rfl, e2 l _ (e1 l _ hl), e2 f _ (e1 f _ hf), sz_of hz, k H2 (e1.trans e2)⟩⟩
theorem cut_mid (pre : List V) (x : V) (nums post : List V) : cutV (pre ++ x :: (nums ++ post)) (some ((pre.length : Int) + 1)) (some ((pre.length : Int) + 1 + (nums.length : Int))) = nums := by
  unfold cutV
  have e1 : (pre.length : Int) + 1 = ((pre.length + 1 : Nat) : Int) := by omega
  have e2 : (pre.length : Int) + 1 + (nums.length : Int) = ((pre.length + 1 + nums.length : Nat) : Int) := by omega
  rw [e2, e1, HT.sIx_nat, HT.sIx_nat]
  have el : (pre ++ x :: (nums ++ post)).length = pre.length + 1 + nums.length + post.length := by
    rw [List.length_append, List.length_cons, List.length_append]
    omega
  rw [el, Nat.min_eq_left (by omega), Nat.min_eq_left (by omega)]
  have e3 : (pre ++ x :: (nums ++ post)).drop (pre.length + 1) = nums ++ post := by
    rw [List.drop_append, List.drop_eq_nil_of_le (by omega), show pre.length + 1 - pre.length = 1 by omega]
    rfl
  rw [e3, show pre.length + 1 + nums.length - (pre.length + 1) = nums.length by omega, List.take_left]
/-- a new desk -/
theorem ep_desk {σ : L2.St} {H : Hp} : EvP (tMake (CD K) (sp_Desk_init K) [] E0 tNil) σ H (fun v H' => ∃ dk, v = .ref dk ∧ H dk = none ∧ DkAt K H' dk dk0) := fun H1 e Q q => fun x dx nx nd ne => by
  have ex : Ex H1 (upd (upd H1 dx (.own x)) x (.ins (CD K) dx [])) := fun b o hb => by
    rw [upd_ne (ne_of_none hb nx), upd_ne (ne_of_none hb nd)]
    exact hb
  exact ⟨x, dx, rfl, upd_same, fun H' bt hd => ⟨rfl, q _ H' (bt.new ex nx) ⟨x, rfl, fresh_back e nx, hd⟩⟩⟩
/-! ## answers -/
def sp_answers (K : PySem.W.Frag) : Sp := fun vs H Q _ => ∃ (n : Addr) (cs : List Call), vs = [.ref n] ∧ SqL K H n ((flatC cs).map V.int) ∧ (flatC cs).length ≤ 90000 ∧ (outs dk0 cs).length ≤ 90000 ∧ RetP (IntsV (outs dk0 cs)) H Q
theorem fn_raw {x : Str} {st : Stmt} {N ps : List Str} {k : Nat} {sp : Sp} {fd : FuncData} (F : FnP K x x st (He.ga K x) fd) (S : FnScope N ps (defScope st)) (len : ∀ vs H Q E, sp vs H Q E → vs.length = ps.length)
    (hbody : ∀ (cdv : Value) (A : Around) (outer : List Env) (s : Shared) (H : Hp) (vs : List V) (Q : VK) (E : XK), Room k (A.deeper (envOfC x (defScope st) s.heap.objs.size (He.ga K x) cdv)) → sp vs H Q E →
      ∃ t, PSs (cxOf CX0 P w K mg base N x (defScope st) (He.ga K x) cdv A outer s H E).nox (defBody st) t ∧ t { nx := fun _ H' => Q .non H', rt := Q } (start N vs) H) : FnOk P w K mg base CX0 (k + 1) (He.ga K x) fd ps sp := F.ok S len fun cdv A outer s H vs Q E hr hsp => by
  obtain ⟨t, h, q⟩ := hbody cdv A outer s H vs Q E hr hsp
  exact ⟨t, h.nox, q⟩
theorem k_answers {fd : FuncData} (T : Facts K mg) (F : FnP K "answers" "answers" s_answers (He.ga K "answers") fd) (h_Desk_init : Km P w K mg base "Desk" "__init__" 3 ["self"] (sp_Desk_init K)) (h_answered : Kn P w K mg base "answered" 10 ["desk", "word", "numbers"] (sp_answered K)) : FnOk P w K mg base CX0 11 (He.ga K "answers") fd ["calls"] (sp_answers K) := by
  refine fn_raw F sc_answers (fun vs H Q E h => ?_) (fun cdv A outer st H vs Q E hr h => ?_)
  · obtain ⟨n, cs, rfl, _⟩ := h
    rfl
  · obtain ⟨n, cs, rfl, hn, hfl, hol, q⟩ := h
    refine ⟨_, (pss_cons (ps_set (i := 1) sc_answers.nd rfl (Or.inl rfl) (pe_mk0 T.mk_Desk T.m_Desk h_Desk_init hr))
      (pss_cons (ps_set (i := 2) sc_answers.nd rfl (Or.inl rfl) (pe_lst pa_nil))
      (pss_cons (ps_set (i := 3) sc_answers.nd rfl (Or.inl rfl) pe_int)
      (pss_cons (ps_while PassesOwn.never (pt_cmpR op_lt (pv 3) (pe_callB call_len_seq (by rfl) T.n_len bt_len (pa_cons (pv 0) pa_nil)) (nomark _))
        (pss_cons (ps_set (i := 4) sc_answers.nd rfl (Or.inl rfl) (pe_ix ix_list (pv 0) (pv 3) (fun _ _ => rfl)))
        (pss_cons (ps_set (i := 5) sc_answers.nd rfl (Or.inl rfl) (pe_op op_add (pe_op op_add (pv 3) pe_int) (pe_ix ix_tup (pe_glob (v := .ref (He.ga K "SIZES")) rfl T.m_SIZES rfl) (pv 4) (fun _ _ => rfl))))
        (pss_cons (ps_set (i := 6) sc_answers.nd rfl (Or.inl rfl) (pe_lock (pe_kn h_answered hr (pa_cons (pv 1) (pa_cons (pv 4) (pa_cons (pe_slice sl_list (pv 0) (po_some (pe_op op_add (pv 3) pe_int)) (po_some (pv 5))) pa_nil))))))
        (pss_cons (ps_expr (pe_bm PySem.F.plainAttrs_list PySem.F.slot_list_append PySem.F.type_list_append mt_append (pv 2) (pa_cons (pe_callB call_len_seq (by rfl) T.n_len bt_len (pa_cons (pv 6) pa_nil)) pa_nil)))
        (pss_cons (ps_expr (pe_bm PySem.F.plainAttrs_list PySem.F.slot_list_extend PySem.F.type_list_extend mt_extend (pv 2) (pa_cons (pv 6) pa_nil)))
        (pss_one (ps_set (i := 3) sc_answers.nd rfl (Or.inl rfl) (pv 5)))))))))
      (pss_one (ps_ret (pv 2))))))), ?_⟩
    refine q_asgP ep_desk fun v H1 e1 ⟨dk, hv, ndk, hd⟩ => ?_
    subst hv
    refine q_asgP (ep_newL (xs := []) (el_lst ea_nil (Nat.zero_le _))) fun v H2 e2 ⟨l, hv, nl, hl⟩ => ?_
    subst hv
    have nl0 : H l = none := fresh_back e1 nl
    have hd2 : DkAt K (hide l H2) dk dk0 := by
      refine hd.ex fun b u hb => ?_
      rw [hide_ne (ne_of_none hb nl)]
      exact e2 _ _ hb
    refine q_asg (v := .int 0) ev_c fun H3 e3 => ?_
    generalize hR : outs dk0 cs = res at *
    generalize hX : flatC cs = xs at *
    refine q_while (fun m σ' H' => ∃ (pre : List Int) (rest : List Call) (d : Dk) (told : List Int) (y4 y5 y6 : Option V), m = rest.length ∧ σ' = [some (.ref n), some (.ref dk), some (.ref l), some (.int (pre.length : Int)), y4, y5, y6] ∧ Ex H H' ∧ H' l = some (.lst (told.map V.int)) ∧ DkAt K (hide l H') dk d ∧ GoodD d ∧ xs = pre ++ flatC rest ∧ res = told ++ outs d rest)
      cs.length ⟨[], cs, dk0, [], none, none, none, rfl, rfl, (e1.trans e2).trans e3, e3 _ _ hl, hd2.ex (hide_mono e3), dk0_good, hX.symm, hR.symm⟩ fun m σ' H' hw => ?_
    obtain ⟨pre, rest, d, told, y4, y5, y6, rfl, rfl, ex, hl', hd', g, hxs, hres⟩ := hw
    have hn' := ex_l ex hn
    refine ⟨decide ((pre.length : Int) < ((xs.map V.int).length : Int)), et_test (ev_op (ev_var rfl) (ev_len (ev_var rfl) hn') rv_I0), fun c H4 e4 => ?_, fun c H4 e4 => ?_⟩
    · have c1 := of_decide_eq_true c
      rw [List.length_map, hxs, List.length_append] at c1
      cases rest with
      | nil =>
        have z : (flatC []).length = 0 := rfl
        rw [z] at c1
        omega
      | cons k rest =>
        have hxs' : xs = pre ++ wordC k :: (numsC k ++ flatC rest) := hxs
        have hres' : res = told ++ ((stepD d k).1.length : Int) :: ((stepD d k).1 ++ outs (stepD d k).2 rest) := hres
        refine ⟨_, fun σ2 H5 hw => hw, ?_⟩
        have ex4 := ex.trans e4
        have hn4 := ex_l ex4 hn
        have hmap : xs.map V.int = pre.map V.int ++ V.int (wordC k) :: ((numsC k).map V.int ++ (flatC rest).map V.int) := by
          rw [hxs', List.map_append, List.map_cons, List.map_append]
        have hlen : told.length + ((stepD d k).1.length + 1) ≤ 90000 := by
          rw [hres', List.length_append, List.length_cons, List.length_append] at hol
          omega
        refine q_asg (v := .int (wordC k)) (ev_op (ev_var rfl) (ev_var rfl) (rv_ixL hn4 (by rw [hmap]; exact atI_nat (by rw [List.getElem?_append_right (by rw [List.length_map]; exact Nat.le_refl _), List.length_map, Nat.sub_self]; rfl)))) fun H5 e5 => ?_
        refine q_asg (v := .int ((pre.length : Int) + 1 + ((numsC k).length : Int))) (ev_op (ev_op (ev_var rfl) ev_c rv_I0) (ev_op ev_c (ev_var rfl) (rv_ixT (T.sizes _) (size_at K k))) rv_I0) fun H6 e6 => ?_
        have ex6 := (ex4.trans e5).trans e6
        have hl6 := (e5.trans e6) _ _ (e4 _ _ hl')
        have hd6 := hd'.ex (hide_mono (l := l) ((e4.trans e5).trans e6))
        refine q_lockCall (Φ := fun vs H7 => ∃ f, vs = [.ref dk, .int (wordC k), .ref f] ∧ H7 f = some (.lst ((numsC k).map V.int))) hl6 (fun od => ?_) fun od vs H7 e7 ⟨f, hv, hf⟩ => ?_
        · have exf : Ex H (upd H6 l (.frz od (.lst (told.map V.int)))) := Ex.mut ex6 nl0
          have hnf := ex_l exf hn
          have ec : cutV (xs.map V.int) (some ((pre.length : Int) + 1)) (some ((pre.length : Int) + 1 + ((numsC k).length : Int))) = (numsC k).map V.int := by
            have := cut_mid (pre.map V.int) (V.int (wordC k)) ((numsC k).map V.int) ((flatC rest).map V.int)
            rw [List.length_map, List.length_map] at this
            rw [hmap]
            exact this
          refine epa_ev (ev_var rfl) (epa_ev (ev_var rfl) (epa_one (φ := NewL _ ((numsC k).map V.int)) (ep_newL (by rw [← ec]; exact el_sl (ev_var rfl) (eo_some (ev_op (ev_var rfl) ev_c rv_I0)) (eo_some (ev_var rfl)) hnf)) fun v H7 e7 ⟨f, hv, _, hf⟩ => ⟨f, by rw [hv], hf⟩))
        · subst hv
          have hl7 := e7 _ _ (upd_same (H := H6) (a := l) (o := .frz od (.lst (told.map V.int))))
          refine ⟨dk, f, d, k, rfl, hd6.ex (hide_ex.trans e7), g, hf, fun v H8 b8 hd8 ⟨p, hv, hp⟩ => ?_⟩
          subst hv
          obtain ⟨dx0, a0, p0, q0, hdk⟩ := hd6.ex (hide_ex (l := l) (H := H6) (o := .frz od (.lst (told.map V.int))) |>.trans e7)
          have hldk : l ≠ dk := ne_of hl7 hdk.ins (fun z => nomatch z)
          have hl8 := b8 _ _ hl7 hldk
          refine ⟨hl8, ?_⟩
          have hd9 := hd8.hide hl8
          have hpl : p ≠ l := ne_of hp hl8 (fun z => nomatch z)
          have ex8 : Ex H H8 := But.new b8 ((Ex.mut (o := .frz od (.lst (told.map V.int))) ex6 nl0).trans e7) ndk
          have ex9 : Ex H (upd H8 l (.lst (told.map V.int))) := Ex.mut ex8 nl0
          have hp9 : upd H8 l (.lst (told.map V.int)) p = some (.lst ((stepD d k).1.map V.int)) := (upd_ne hpl).trans hp
          have hd10 : DkAt K (hide l (upd H8 l (.lst (told.map V.int)))) dk (stepD d k).2 := by
            rw [hide_upd]
            exact hd9
          refine q_app (v := .int (((stepD d k).1.map V.int).length : Int)) upd_same (ev_var rfl) (ev_len2 (ev_var rfl) hp9) (by rw [List.length_map]; omega) fun H10 e10 => ?_
          have ex10 : Ex H (upd H10 l (.lst (told.map V.int ++ [.int (((stepD d k).1.map V.int).length : Int)]))) := Ex.mut (ex9.trans e10) nl0
          have hp10 : upd H10 l (.lst (told.map V.int ++ [.int (((stepD d k).1.map V.int).length : Int)])) p = some (.lst ((stepD d k).1.map V.int)) := (upd_ne hpl).trans (e10 _ _ hp9)
          have hd11 : DkAt K (hide l (upd H10 l (.lst (told.map V.int ++ [.int (((stepD d k).1.map V.int).length : Int)])))) dk (stepD d k).2 := by
            rw [hide_upd]
            exact hd10.ex (hide_mono e10)
          refine q_ext upd_same hp10 (ev_var rfl) (ev_var rfl) (by rw [List.length_append, List.length_map, List.length_map]; show told.length + 1 + _ ≤ _; omega) fun H11 e11 => ?_
          refine s_asg (v := .int ((pre.length : Int) + 1 + ((numsC k).length : Int))) (ev_var rfl) fun H12 e12 => ?_
          refine ⟨rest.length, Nat.lt_succ_self _, pre ++ wordC k :: numsC k, rest, (stepD d k).2, told ++ ((stepD d k).1.length : Int) :: (stepD d k).1, some (.int (wordC k)), some (.int ((pre.length : Int) + 1 + ((numsC k).length : Int))), some (.ref p), rfl, ?_, (Ex.mut (ex10.trans e11) nl0).trans e12, ?_, ?_, step_good g k, ?_, ?_⟩
          · have e : (pre.length : Int) + 1 + ((numsC k).length : Int) = (((pre ++ wordC k :: numsC k).length : Nat) : Int) := by
              rw [List.length_append, List.length_cons]
              omega
            rw [e]
            rfl
          · rw [e12 _ _ upd_same, List.map_append, List.map_cons, List.append_assoc, List.length_map]
            rfl
          · refine DkAt.ex ?_ (hide_mono e12)
            rw [hide_upd]
            exact hd11.ex (hide_mono e11)
          · rw [hxs', List.append_assoc]
            rfl
          · rw [hres', List.append_assoc]
            rfl
    · have c1 := of_decide_eq_false c
      rw [List.length_map, hxs, List.length_append] at c1
      cases rest with
      | cons k rest =>
        have z : (flatC (k :: rest)).length = (numsC k ++ flatC rest).length + 1 := rfl
        rw [z] at c1
        omega
      | nil =>
        have e : res = told := by
          rw [hres]
          show told ++ [] = told
          rw [List.append_nil]
        refine s_ret (ev_var rfl) fun H5 e5 => q _ H5 ((ex.trans e4).trans e5) ⟨l, rfl, ?_⟩
        rw [e]
        exact e5 _ _ (e4 _ _ hl')
end
end Wr
/-! ### part: Law -/
set_option Elab.async false
set_option linter.all false
set_option maxRecDepth 10000
/-! # The plain law: the mirror's calls are the specification's -/
namespace Wr
open Km420 (Room Line Wreck Call)
def Dk.D (d : Dk) : Km420.Desk := ⟨d.now.w, (d.ahead.map Sd.w).reverse, (d.gone.map Sd.w).reverse⟩
theorem goOn_D (d : Dk) (t : Sd) : (goOn d t).D = d.D.become t.w := by
  have e : (d.now.w :: (d.ahead.map Sd.w).reverse) = ((d.ahead ++ [d.now]).map Sd.w).reverse := by
    rw [List.map_append, List.reverse_append]
    rfl
  show (⟨t.w, (((d.ahead ++ [d.now]).drop ((d.ahead ++ [d.now]).length - 30)).map Sd.w).reverse, []⟩ : Km420.Desk) = ⟨t.w, (d.now.w :: (d.ahead.map Sd.w).reverse).take 30, []⟩
  rw [e, List.take_reverse, List.length_map, List.map_drop]
/-! ## Changes -/
def ChRel (d : Dk) (x : Km420.Desk × Km420.Ans) (r : List Int × Option Sd) : Prop := Km420Neutral.told x.2 = r.1 ∧ x.1 = (match r.2 with
  | none => d.D
  | some t => d.D.become t.w)
section
variable {d : Dk}
theorem chrel_if {c c' : Prop} [Decidable c] [Decidable c'] {x y : Km420.Desk × Km420.Ans} {r s : List Int × Option Sd} (h : c ↔ c') (h1 : c' → ChRel d x r) (h2 : ¬ c' → ChRel d y s) : ChRel d (if c then x else y) (if c' then r else s) := by
  by_cases z : c'
  · rw [if_pos (h.mpr z), if_pos z]
    exact h1 z
  · rw [if_neg (fun a => z (h.mp a)), if_neg z]
    exact h2 z
theorem chrel_no (n : Int) : ChRel d (d.D, Km420.only n) ([n], none) := ⟨rfl, rfl⟩
theorem chrel_yes {w : Wreck} {t : Sd} {n : Int} (h : w = t.w) : ChRel d (d.D.become w, Km420.only n) ([n], some t) := ⟨rfl, by rw [h]⟩
theorem sd_w {s t : Sd} {w : Wreck} (h : w = s.w) (e : s.w = t.w) : w = t.w := h.trans e
theorem law_room (m : Nat) (a : Int) (k : Nat) : ChRel d (Km420.act d.D (.room m a k)) (chRoom d.now m a k) := by
  unfold chRoom
  refine chrel_if (c := m = 0 ∨ 200000 < m ∨ Km420.okAt a = false ∨ 5000 < k) Iff.rfl (fun _ => chrel_no _) fun _ => chrel_if (c := d.now.height ≠ 0) Iff.rfl (fun _ => chrel_no _) fun _ => chrel_if (c := 6 ≤ d.now.rooms.length) Iff.rfl (fun _ => chrel_no _) fun _ => chrel_yes ?_
  have e : Km420.sum ((d.now.rooms ++ [(⟨m, a, k, false, 0, m⟩ : Room)]).map Room.most) = Km420.sum (d.now.rooms.map Room.most) + m := by
    rw [List.map_append, sum_app]
    show _ + (0 + m) = _
    omega
  show _ = Wreck.mk _ _ _ _ _ _ _ _ _ (Km420.sum ((d.now.rooms ++ [(⟨m, a, k, false, 0, m⟩ : Room)]).map Room.most)) _ _
  rw [e]
  rfl
theorem law_line (a : Int) (n : Nat) : ChRel d (Km420.act d.D (.line a n)) (chLine d.now a n) := by
  unfold chLine
  have e : ((d.now.lines.map Ln.l).any fun l => l.at_ == a) = d.now.lines.any fun x => x.at_ == a := by
    rw [List.any_map]
    rfl
  refine chrel_if (c := Km420.okAt a = false ∨ n = 0 ∨ 500000 < n ∨ ((d.now.lines.map Ln.l).any fun l => l.at_ == a) = true) (by rw [e]) (fun _ => chrel_no _) fun _ => chrel_if (c := 4 ≤ (d.now.lines.map Ln.l).length) (by rw [List.length_map]) (fun _ => chrel_no _) fun _ => ?_
  have h : ChRel d (d.D.become { d.now.w with lines := d.now.lines.map Ln.l ++ [⟨a, 1000 * n, false⟩] }, Km420.only ((d.now.lines.length : Nat) : Int)) ([(d.now.lines.length : Int)], some { d.now with lines := d.now.lines ++ [(⟨a, n, false⟩ : Ln)] }) := chrel_yes (by
    show _ = Wreck.mk _ _ _ _ _ ((d.now.lines ++ [(⟨a, n, false⟩ : Ln)]).map Ln.l) _ _ _ _ _ _
    rw [List.map_append]
    rfl)
  have e2 : ((d.now.lines.length : Nat) : Int) = (((d.now.lines.map Ln.l).length : Nat) : Int) := by rw [List.length_map]
  rw [e2] at h
  have e3 : [(((d.now.lines.map Ln.l).length : Nat) : Int)] = [(d.now.lines.length : Int)] := by rw [List.length_map]
  rw [e3] at h
  exact h
theorem set_w {s : Sd} {k : Nat} {r r' : Room} (h : s.rooms[k]? = some r) (e : r'.most = r.most) : ({ s.w with rooms := s.rooms.set k r' } : Wreck) = ({ s with rooms := s.rooms.set k r' } : Sd).w := by
  have e1 : (s.rooms.set k r').map Room.most = s.rooms.map Room.most := set_same Room.most h e
  show _ = Wreck.mk _ _ _ _ _ _ _ _ _ (Km420.sum ((s.rooms.set k r').map Room.most)) _ _
  rw [e1]
  rfl
theorem law_patch (k : Nat) : ChRel d (Km420.act d.D (.patch k)) (chPatch d.now k) := by
  have e : Km420.act d.D (.patch k) = (match d.now.rooms[k]? with
      | none => (d.D, Km420.only (-2))
      | some r => if r.patched = true then (d.D, Km420.only (-17)) else if d.now.height ≠ 0 then (d.D, Km420.only (-16)) else (d.D.become { d.now.w with rooms := d.now.rooms.set k { r with patched := true } }, Km420.only ((r.water : Nat) : Int))) := rfl
  unfold chPatch
  rw [e]
  cases h : d.now.rooms[k]? with
  | none => exact chrel_no _
  | some r => exact chrel_if Iff.rfl (fun _ => chrel_no _) fun _ => chrel_if Iff.rfl (fun _ => chrel_no _) fun _ => chrel_yes (set_w h rfl)
theorem law_pump (k n : Nat) : ChRel d (Km420.act d.D (.pump k n)) (chPump d.now k n) := by
  have e : Km420.act d.D (.pump k n) = (match d.now.rooms[k]? with
      | none => (d.D, Km420.only (-2))
      | some r => if 20000 < n then (d.D, Km420.only (-22)) else (d.D.become { d.now.w with rooms := d.now.rooms.set k { r with pump := n } }, Km420.only ((r.pump : Nat) : Int))) := rfl
  unfold chPump
  rw [e]
  cases h : d.now.rooms[k]? with
  | none => exact chrel_no _
  | some r => exact chrel_if Iff.rfl (fun _ => chrel_no _) fun _ => chrel_yes (set_w h rfl)
theorem used_len (s : Sd) : s.w.used.length = (s.lines.filter Ln.on_).length := by
  rw [used_is, (order_p _).length_eq, List.length_map]
theorem law_hook (k o : Nat) : ChRel d (Km420.act d.D (.hook k o)) (chHook d.now k o) := by
  have e : Km420.act d.D (.hook k o) = (match (d.now.lines.map Ln.l)[k]? with
      | none => (d.D, Km420.only (-2))
      | some l => if 1 < o then (d.D, Km420.only (-22)) else if l.on_ = (o == 1) then (d.D, Km420.only (-17)) else
        if ({ d.now.w with lines := (d.now.lines.map Ln.l).set k { l with on_ := o == 1 } } : Wreck).height ≠ 0 ∧ ({ d.now.w with lines := (d.now.lines.map Ln.l).set k { l with on_ := o == 1 } } : Wreck).can = false then (d.D, Km420.only (-33))
        else (d.D.become ({ d.now.w with lines := (d.now.lines.map Ln.l).set k { l with on_ := o == 1 } } : Wreck), Km420.only ((({ d.now.w with lines := (d.now.lines.map Ln.l).set k { l with on_ := o == 1 } } : Wreck).used.length : Nat) : Int))) := rfl
  unfold chHook
  rw [e, List.getElem?_map]
  cases h : d.now.lines[k]? with
  | none => exact chrel_no _
  | some x =>
    have ew : ({ d.now.w with lines := (d.now.lines.map Ln.l).set k { x.l with on_ := o == 1 } } : Wreck) = (hookSd d.now k x o).w := by
      have e1 : (d.now.lines.map Ln.l).set k { x.l with on_ := o == 1 } = (d.now.lines.set k { x with on_ := o == 1 }).map Ln.l := by
        rw [List.map_set]
        rfl
      rw [e1]
      rfl
    show ChRel d (if 1 < o then (d.D, Km420.only (-22)) else if x.on_ = (o == 1) then (d.D, Km420.only (-17)) else
        if ({ d.now.w with lines := (d.now.lines.map Ln.l).set k { x.l with on_ := o == 1 } } : Wreck).height ≠ 0 ∧ ({ d.now.w with lines := (d.now.lines.map Ln.l).set k { x.l with on_ := o == 1 } } : Wreck).can = false then (d.D, Km420.only (-33))
        else (d.D.become ({ d.now.w with lines := (d.now.lines.map Ln.l).set k { x.l with on_ := o == 1 } } : Wreck), Km420.only ((({ d.now.w with lines := (d.now.lines.map Ln.l).set k { x.l with on_ := o == 1 } } : Wreck).used.length : Nat) : Int))) _
    rw [ew, used_len]
    exact chrel_if Iff.rfl (fun _ => chrel_no _) fun _ => chrel_if Iff.rfl (fun _ => chrel_no _) fun _ => chrel_if Iff.rfl (fun _ => chrel_no _) fun _ => chrel_yes rfl
theorem law_minutes (n : Nat) : ChRel d (Km420.act d.D (.minutes n)) (chMinutes d.now n) := by
  unfold chMinutes
  refine chrel_if (c := n = 0 ∨ 1440 < n) Iff.rfl (fun _ => chrel_no _) fun _ => chrel_if (c := Km420.LATEST < d.now.minute + n) Iff.rfl (fun _ => chrel_no _) fun _ => ?_
  have e := minutesSd_w n d.now
  have h : ChRel d (d.D.become (minutesSd n d.now).w, ⟨(((minutesSd n d.now).w.time : Nat) : Int), [(minutesSd n d.now).w.height, (minutesSd n d.now).w.drops]⟩) ([((minutesSd n d.now).minute : Int), ((minutesSd n d.now).height : Int), ((minutesSd n d.now).drops : Int)], some (minutesSd n d.now)) := ⟨rfl, rfl⟩
  rw [e] at h
  exact h
theorem law_haul (n : Nat) : ChRel d (Km420.act d.D (.haul n)) (chHaul d.now n) := by
  unfold chHaul
  exact chrel_if (c := n = 0) Iff.rfl (fun _ => chrel_no _) fun _ => chrel_if (c := d.now.depth < d.now.height + n) Iff.rfl (fun _ => chrel_no _) fun _ => chrel_if (c := d.now.w.can = false) Iff.rfl (fun _ => chrel_no _) fun _ => chrel_yes rfl
theorem law_lower (n : Nat) : ChRel d (Km420.act d.D (.lower n)) (chLower d.now n) := by
  unfold chLower
  exact chrel_if (c := n = 0) Iff.rfl (fun _ => chrel_no _) fun _ => chrel_if (c := d.now.height < n) Iff.rfl (fun _ => chrel_no _) fun _ => chrel_yes rfl
end
end Wr
/-! ### part: Look -/
set_option Elab.async false
set_option linter.all false
set_option maxRecDepth 10000
/-! # The plain law: looks, back, again, state -/
namespace Wr
open Km420 (Room Line Wreck Call)
theorem bit_b01 (b : Bool) : ((Km420.bit b : Nat) : Int) = b01 b := by cases b <;> rfl
/-! ## Sums, bounds -/
theorem sum_perm {l m : List Nat} (h : l.Perm m) : Km420.sum l = Km420.sum m := by
  induction h with
  | nil => rfl
  | cons x _ ih => rw [sum_cons, sum_cons, ih]
  | swap x y l => rw [sum_cons, sum_cons, sum_cons, sum_cons]; omega
  | trans _ _ ih1 ih2 => exact ih1.trans ih2
theorem sum_mul (l : List Ln) : Km420.sum (l.map fun x => 1000 * x.kg) = 1000 * Km420.sum (l.map Ln.kg) := by
  induction l with
  | nil => rfl
  | cons x l ih => rw [List.map_cons, List.map_cons, sum_cons, sum_cons, ih]; omega
theorem bears_used (s : Sd) : Km420.bears s.w.used = 1000 * Km420.sum ((s.lines.filter Ln.on_).map Ln.kg) := by
  rw [used_is, ← sum_mul]
  unfold Km420.bears
  rw [sum_perm ((order_p _).map _), List.map_map]
  rfl
theorem moment_room {r : Room} (h : RoomOk r) : (r.lifts : Int) * r.at_ ≤ 1025000000000 ∧ -1025000000000 ≤ (r.lifts : Int) * r.at_ := by
  have h1 : r.lifts ≤ 205000000 := by
    unfold Room.lifts Km420.SALT
    have := h.most
    omega
  have h2 := h.at1
  have h3 := h.at2
  generalize r.lifts = n at h1
  generalize r.at_ = a at h2 h3
  constructor
  · have : (n : Int) * a ≤ (n : Int) * 5000 := Int.mul_le_mul_of_nonneg_left h3 (Int.natCast_nonneg n)
    omega
  · have : (n : Int) * (-5000) ≤ (n : Int) * a := Int.mul_le_mul_of_nonneg_left h2 (Int.natCast_nonneg n)
    omega
theorem total_rooms : ∀ (l : List Room), (∀ r ∈ l, RoomOk r) → Km420.total (l.map fun r => (r.lifts : Int) * r.at_) ≤ 1025000000000 * l.length
  | [], _ => by
    rw [List.map_nil, total_nil]
    exact Int.le_refl _
  | r :: l, h => by
    have h1 := (moment_room (h r List.mem_cons_self)).1
    have ih := total_rooms l fun x hx => h x (List.mem_cons_of_mem _ hx)
    rw [List.map_cons, total_cons, List.length_cons]
    omega
theorem moment_low {s : Sd} (g : Good s) : -100000000000000 ≤ s.w.moment := by
  have h := total_rooms s.rooms g.rooms
  have e : s.w.moment = ((1000 * s.kg : Nat) : Int) * s.at_ - Km420.total (s.rooms.map fun r => (r.lifts : Int) * r.at_) := rfl
  have h1 := g.at1
  have h2 := g.kg
  have h3 := g.rn
  have h4 : ((1000 * s.kg : Nat) : Int) * (-5000) ≤ ((1000 * s.kg : Nat) : Int) * s.at_ := Int.mul_le_mul_of_nonneg_left h1 (Int.natCast_nonneg _)
  rw [e]
  omega
theorem coarse_is {m : Int} (h : -100000000000000 ≤ m) : ((Km420.coarse m : Nat) : Int) = m / 100000 + 1000000000 := by
  unfold Km420.coarse
  omega
theorem fills_low : ∀ (l : List Line) (n : Nat), (∀ x ∈ l, -5000 ≤ x.at_ ∧ x.at_ ≤ 5000) → (∀ x ∈ l, x.most ≤ 500000000) → -(2500000000000 * (l.length : Int)) ≤ Km420.momentOf l (Km420.fills l n)
  | [], n, _, _ => by
    show -(2500000000000 * (0 : Int)) ≤ 0
    omega
  | x :: l, n, h1, h2 => by
    have ih := fills_low l (n - min x.most n) (fun y hy => h1 y (List.mem_cons_of_mem _ hy)) (fun y hy => h2 y (List.mem_cons_of_mem _ hy))
    have e : Km420.momentOf (x :: l) (Km420.fills (x :: l) n) = ((min x.most n : Nat) : Int) * x.at_ + Km420.momentOf l (Km420.fills l (n - min x.most n)) := by
      show Km420.total (((x, min x.most n) :: l.zip (Km420.fills l (n - min x.most n))).map fun p => (p.2 : Int) * p.1.at_) = _
      rw [List.map_cons, total_cons]
      rfl
    have a1 := (h1 x List.mem_cons_self).1
    have a2 := h2 x List.mem_cons_self
    have h4 : ((min x.most n : Nat) : Int) * (-5000) ≤ ((min x.most n : Nat) : Int) * x.at_ := Int.mul_le_mul_of_nonneg_left a1 (Int.natCast_nonneg _)
    have h5 : min x.most n ≤ 500000000 := Nat.le_trans (Nat.min_le_left _ _) a2
    rw [e, List.length_cons]
    generalize ((min x.most n : Nat) : Int) * x.at_ = z at *
    omega
theorem least_low {l : List Line} (f : LdFine l) (n : Nat) : -100000000000000 ≤ Km420.least l n := by
  have h := fills_low l n f.at_ f.most
  have := f.len
  unfold Km420.least
  omega
theorem greatest_low {l : List Line} (f : LdFine l) (n : Nat) : -100000000000000 ≤ Km420.greatest l n := by
  have h := fills_low l.reverse n (fun x hx => f.at_ x (List.mem_reverse.mp hx)) (fun x hx => f.most x (List.mem_reverse.mp hx))
  have := f.len
  rw [List.length_reverse] at h
  unfold Km420.greatest
  omega
/-! ## Rooms, lines by their places -/
def mapFrom {α β : Type} (f : Nat → α → β) : List α → Nat → List β
  | [], _ => []
  | x :: r, k => f k x :: mapFrom f r (k + 1)
theorem fm_congr {α β : Type} {f g : α → Option β} : ∀ {l : List α}, (∀ x ∈ l, f x = g x) → l.filterMap f = l.filterMap g
  | [], _ => rfl
  | x :: l, h => by
    rw [List.filterMap_cons, List.filterMap_cons, h x List.mem_cons_self, fm_congr fun y hy => h y (List.mem_cons_of_mem _ hy)]
theorem range_map {α β : Type} (f : Nat → α → β) : ∀ (l : List α) (k : Nat), (List.range l.length).filterMap (fun i => l[i]?.map (f (k + i))) = mapFrom f l k
  | [], _ => rfl
  | x :: l, k => by
    rw [List.length_cons, List.range_succ_eq_map, List.filterMap_cons, List.filterMap_map]
    show f (k + 0) x :: _ = f k x :: mapFrom f l (k + 1)
    rw [← range_map f l (k + 1), Nat.add_zero]
    congr 1
    apply fm_congr
    intro i _
    show (x :: l)[i + 1]?.map (f (k + (i + 1))) = l[i]?.map (f (k + 1 + i))
    rw [List.getElem?_cons_succ, show k + (i + 1) = k + 1 + i by omega]
theorem dry_map (b : Nat) : ∀ (l : List Room) (k : Nat), dryFrom b l k = mapFrom (fun i r => if b.testBit i = true then { r with water := 0 } else r) l k
  | [], _ => rfl
  | x :: l, k => by
    show dry1 b k x :: dryFrom b l (k + 1) = _ :: mapFrom _ l (k + 1)
    rw [dry_map b l (k + 1)]
    rfl
theorem dried_rooms (s : Sd) (b : Nat) : (s.w.dried b).rooms = dryL s.rooms b := by
  unfold dryL
  rw [dry_map, ← range_map]
  show (List.range s.rooms.length).filterMap (fun i => s.rooms[i]?.map fun r => if b.testBit i = true then { r with water := 0 } else r) = _
  apply fm_congr
  intro i _
  rw [Nat.zero_add]
theorem dried_can (s : Sd) (b : Nat) : (s.w.dried b).can = hangD s b := by
  have e : (s.w.dried b).can = Km420.hangs s.w.used (((1000 * s.kg : Nat) : Int) - (Km420.sum ((s.w.dried b).rooms.map Room.lifts) : Nat)) (((1000 * s.kg : Nat) : Int) * s.at_ - Km420.total ((s.w.dried b).rooms.map fun r => (r.lifts : Int) * r.at_)) (100000 * s.tilt) := rfl
  rw [e, dried_rooms, used_is]
  rfl
theorem litres_from (b : Nat) : ∀ (l : List Room) (k : Nat), Km420.sum ((List.range l.length).map fun i => match l[i]? with
    | some r => if b.testBit (k + i) = true then r.water else 0
    | none => 0) = Km420.sum ((pickFrom b l k).map fun r => r.water)
  | [], _ => rfl
  | x :: l, k => by
    have ih := litres_from b l (k + 1)
    have e : (List.range (x :: l).length).map (fun i => match (x :: l)[i]? with
      | some r => if b.testBit (k + i) = true then r.water else 0
      | none => 0) = (if b.testBit k = true then x.water else 0) :: (List.range l.length).map fun i => match l[i]? with
        | some r => if b.testBit (k + 1 + i) = true then r.water else 0
        | none => 0 := by
      rw [List.length_cons, List.range_succ_eq_map, List.map_cons, List.map_map]
      congr 1
      apply List.map_congr_left
      intro i _
      show (match (x :: l)[i + 1]? with
        | some r => if b.testBit (k + (i + 1)) = true then r.water else 0
        | none => 0) = _
      rw [List.getElem?_cons_succ, show k + (i + 1) = k + 1 + i by omega]
    rw [e, sum_cons, ih]
    show _ = Km420.sum ((if b.testBit k = true then x :: pickFrom b l (k + 1) else pickFrom b l (k + 1)).map fun r => r.water)
    split
    · rw [List.map_cons, sum_cons]
    · rw [Nat.zero_add]
theorem litres_is (s : Sd) (b : Nat) : s.w.litres b = litOf s.rooms b := by
  have h := litres_from b s.rooms 0
  unfold litOf pick
  rw [← h]
  show Km420.sum ((List.range s.rooms.length).map fun i => match s.rooms[i]? with
    | some r => if b.testBit i = true then r.water else 0
    | none => 0) = _
  congr 1
  apply List.map_congr_left
  intro i _
  rw [Nat.zero_add]
theorem work_is (s : Sd) : s.w.work = workOf s := by
  unfold workOf
  show (List.range (2 ^ s.rooms.length)).foldl (fun r b => if (s.w.dried b).can = false then r else match r with
    | none => some (s.w.litres b, b)
    | some (v, u) => if s.w.litres b < v then some (s.w.litres b, b) else some (v, u)) none = _
  congr 1
  funext r b
  rw [dried_can, litres_is]
  unfold better
  cases r <;> rfl
/-! ### the fewest lines -/
theorem ones_succ (n b : Nat) : Km420.ones (n + 1) b = Km420.ones n b + (if b.testBit n = true then 1 else 0) := by
  unfold Km420.ones
  rw [List.range_succ, List.filter_append, List.length_append]
  congr 1
  rw [List.filter_cons]
  split <;> rfl
theorem ones_more {n b : Nat} (h : b < 2 ^ n) : ∀ k, Km420.ones (n + k) b = Km420.ones n b
  | 0 => rfl
  | k + 1 => by
    have e : b.testBit (n + k) = false := Nat.testBit_lt_two_pow (Nat.lt_of_lt_of_le h (Nat.pow_le_pow_right (by decide) (Nat.le_add_right n k)))
    rw [← Nat.add_assoc, ones_succ, e, ones_more h k]
    rfl
theorem pick_ones {α : Type} (l : List α) (b : Nat) : (pick l b).length = Km420.ones l.length b := by
  rcases nil_or_snoc l with e | ⟨m, x, e⟩
  · subst e
    rfl
  · subst e
    have ih := pick_ones m b
    rw [pick_snoc, List.length_append, List.length_append, ih]
    show _ = Km420.ones (m.length + 1) b
    rw [ones_succ]
    split <;> rfl
  termination_by l.length
  decreasing_by
    subst e
    rw [List.length_append]
    exact Nat.lt_succ_self _
theorem only_strip (b : Nat) : ∀ (l : List Ln) (k : Nat), ((mapFrom (fun i (y : Line) => ({ y with on_ := b.testBit i } : Line)) (l.map Ln.l) k).filter fun y => y.on_).map strip = ((pickFrom b l k).map Ln.l).map strip
  | [], _ => rfl
  | x :: l, k => by
    have ih := only_strip b l (k + 1)
    show ((({ x.l with on_ := b.testBit k } : Line) :: mapFrom _ (l.map Ln.l) (k + 1)).filter fun y => y.on_).map strip = ((if b.testBit k = true then x :: pickFrom b l (k + 1) else pickFrom b l (k + 1)).map Ln.l).map strip
    by_cases c : b.testBit k = true
    · rw [List.filter_cons_of_pos (show (fun y : Line => y.on_) { x.l with on_ := b.testBit k } = true from c), if_pos c, List.map_cons, List.map_cons, List.map_cons, ih]
      rfl
    · rw [List.filter_cons_of_neg (show ¬ (fun y : Line => y.on_) { x.l with on_ := b.testBit k } = true from c), if_neg c]
      exact ih
theorem only_can (s : Sd) (b : Nat) : (s.w.only b).can = hangW s s.rooms (pick s.lines b) := by
  have el : (s.w.only b).lines = mapFrom (fun i (y : Line) => ({ y with on_ := b.testBit i } : Line)) (s.lines.map Ln.l) 0 := by
    rw [← range_map]
    show (List.range (s.lines.map Ln.l).length).filterMap (fun i => (s.lines.map Ln.l)[i]?.map fun l => { l with on_ := b.testBit i }) = _
    apply fm_congr
    intro i _
    rw [Nat.zero_add]
  have eu : (s.w.only b).used = order ((s.w.only b).lines.filter fun y => y.on_) := rfl
  have e : (s.w.only b).can = Km420.hangs (s.w.only b).used (netOf s s.rooms) (momOf s s.rooms) (100000 * s.tilt) := rfl
  rw [e, eu, el]
  exact hangs_strip (order_strip (only_strip b s.lines 0)) _ _ _
def fewRel : Option Nat → Option (Nat × Nat)
  | none => none
  | some b => some (Km420.ones Km420.LINES b, b)
theorem few_is {s : Sd} (g : Good s) : fewOf s = fewRel s.w.few := by
  have hl := g.ln
  have key : ∀ n, n ≤ 2 ^ s.lines.length → (List.range n).foldl (fun r b => better (hangW s s.rooms (pick s.lines b)) (pick s.lines b).length b r) none = fewRel ((List.range n).foldl (fun r b => if (s.w.only b).can = false then r else match r with
      | none => some b
      | some u => if Km420.ones Km420.LINES b < Km420.ones Km420.LINES u then some b else some u) none) := by
    intro n
    induction n with
    | zero => intro _; rfl
    | succ n ih =>
      intro hn
      have ih := ih (by omega)
      rw [range_fold, range_fold, ih]
      have e1 : (pick s.lines n).length = Km420.ones Km420.LINES n := by
        rw [pick_ones]
        have h := ones_more (n := s.lines.length) (b := n) (by omega) (4 - s.lines.length)
        rw [show s.lines.length + (4 - s.lines.length) = Km420.LINES by show s.lines.length + (4 - s.lines.length) = 4; omega] at h
        exact h.symm
      rw [only_can, e1]
      generalize (List.range n).foldl (fun r b => if (s.w.only b).can = false then r else match r with
        | none => some b
        | some u => if Km420.ones Km420.LINES b < Km420.ones Km420.LINES u then some b else some u) none = r
      unfold better
      cases hangW s s.rooms (pick s.lines n) with
      | false => rfl
      | true =>
        rw [if_neg (by decide), if_neg (by decide)]
        cases r with
        | none => rfl
        | some u =>
          show (if Km420.ones Km420.LINES n < Km420.ones Km420.LINES u then some (Km420.ones Km420.LINES n, n) else some (Km420.ones Km420.LINES u, u)) = fewRel (if Km420.ones Km420.LINES n < Km420.ones Km420.LINES u then some n else some u)
          split <;> rfl
  have h := key _ (Nat.le_refl _)
  unfold fewOf
  rw [h]
  show fewRel _ = fewRel ((List.range (2 ^ (s.lines.map Ln.l).length)).foldl _ none)
  rw [List.length_map]
  rfl
/-! ### without a line -/
theorem without_from (k : Nat) : ∀ (l : List Ln) (j : Nat) (x : Ln), (∀ i, k = j + i → l[i]? = some x) → k ≥ j → ((l.set (k - j) { x with on_ := false }).filter Ln.on_) = keepFrom (fun i y => !decide (i = k) && y.on_) l j
  | [], _, _, _, _ => rfl
  | y :: l, j, x, h, hj => by
    by_cases c : k = j
    · have ex : y = x := Option.some.inj (h 0 (by omega))
      subst ex
      subst c
      rw [Nat.sub_self]
      show ((({ y with on_ := false } : Ln) :: l).filter Ln.on_) = if (!decide (k = k) && y.on_) = true then _ else _
      rw [List.filter_cons, decide_eq_true rfl]
      show l.filter Ln.on_ = keepFrom _ l (k + 1)
      exact after k l (k + 1) (by omega)
    · obtain ⟨i, hi⟩ : ∃ i, k - j = i + 1 := ⟨k - j - 1, by omega⟩
      have ih := without_from k l (j + 1) x (fun i hi => by
        have := h (i + 1) (by omega)
        rw [List.getElem?_cons_succ] at this
        exact this) (by omega)
      rw [show k - (j + 1) = i by omega] at ih
      rw [hi, List.set_cons_succ, List.filter_cons]
      show _ = if (!decide (j = k) && y.on_) = true then _ else _
      rw [decide_eq_false (fun z => c z.symm)]
      show (if y.on_ = true then y :: (l.set i _).filter Ln.on_ else (l.set i _).filter Ln.on_) = if (true && y.on_) = true then _ else _
      rw [Bool.true_and, ih]
where after (k : Nat) : ∀ (l : List Ln) (j : Nat), j > k → l.filter Ln.on_ = keepFrom (fun i y => !decide (i = k) && y.on_) l j
  | [], _, _ => rfl
  | y :: l, j, hj => by
    rw [List.filter_cons, after k l (j + 1) (by omega)]
    show _ = if (!decide (j = k) && y.on_) = true then _ else _
    rw [decide_eq_false (by omega)]
    rfl
theorem without_is {s : Sd} {k : Nat} {x : Ln} (h : s.lines[k]? = some x) : ({ s.w with lines := (s.lines.map Ln.l).set k { x.l with on_ := false } } : Wreck).can = hangW s s.rooms (others s.lines k) := by
  have e1 : (s.lines.map Ln.l).set k { x.l with on_ := false } = (s.lines.set k { x with on_ := false }).map Ln.l := by
    rw [List.map_set]
    rfl
  rw [e1]
  have e2 := without_from k s.lines 0 x (fun i hi => by rw [← Nat.zero_add i, ← hi]; exact h) (Nat.zero_le _)
  rw [Nat.sub_zero] at e2
  have e3 := hangs_now { s with lines := s.lines.set k { x with on_ := false } }
  unfold hangW others
  rw [← e2]
  exact e3.symm
/-! ### bits -/
theorem bits_foldl : ∀ (l : List Nat) (a : Nat), l.foldl (fun w k => w + 2 ^ k) a = a + Km420.bits l
  | [], a => rfl
  | x :: l, a => by
    show l.foldl _ (a + 2 ^ x) = a + l.foldl _ (0 + 2 ^ x)
    rw [bits_foldl l (a + 2 ^ x), bits_foldl l (0 + 2 ^ x)]
    omega
theorem bits_append (l m : List Nat) : Km420.bits (l ++ m) = Km420.bits l + Km420.bits m := by
  show (l ++ m).foldl _ 0 = _
  rw [List.foldl_append, bits_foldl]
  rfl
theorem pbits_is (l : List Room) : Km420.bits ((List.range l.length).filter fun k => match l[k]? with
    | some r => r.patched
    | none => false) = pbits l 0 := by
  rcases nil_or_snoc l with e | ⟨m, x, e⟩
  · subst e
    rfl
  · subst e
    have ih := pbits_is m
    rw [pbits_snoc, ← ih, List.length_append]
    show Km420.bits ((List.range (m.length + 1)).filter _) = _
    rw [List.range_succ, List.filter_append, bits_append]
    congr 1
    · congr 1
      apply List.filter_congr
      intro i hi
      rw [List.getElem?_append_left (List.mem_range.mp hi)]
    · rw [List.filter_cons, List.getElem?_append_right (Nat.le_refl _), Nat.sub_self, Nat.zero_add]
      show Km420.bits (if x.patched = true then [m.length] else []) = _
      split
      · show 0 + 2 ^ m.length = _
        omega
      · rfl
  termination_by l.length
  decreasing_by
    subst e
    rw [List.length_append]
    exact Nat.lt_succ_self _
end Wr
/-! ### part: Step -/
set_option Elab.async false
set_option linter.all false
set_option maxRecDepth 10000
/-! # The plain law: each call -/
namespace Wr
open Km420 (Room Line Wreck Call)
def StepIs (d : Dk) (c : Call) : Prop := (Km420.act d.D c).1 = (stepD d c).2.D ∧ Km420Neutral.told (Km420.act d.D c).2 = (stepD d c).1
section
variable {d : Dk}
theorem of_chrel {c : Call} {r : List Int × Option Sd} (e : stepD d c = chD d r) (h : ChRel d (Km420.act d.D c) r) : StepIs d c := by
  obtain ⟨h1, h2⟩ := h
  unfold StepIs
  rw [e]
  refine ⟨?_, h1⟩
  rw [h2]
  unfold chD
  cases r.2 with
  | none => rfl
  | some t => exact (goOn_D d t).symm
theorem told_one (v : Int) : Km420Neutral.told (Km420.only v) = [v] := rfl
theorem nums_ints (t : List Nat) : Km420Neutral.nums t = intsOf t := rfl
theorem look_can (g : Good d.now) : StepIs d .can := by
  refine ⟨rfl, ?_⟩
  show [((Km420.bit d.now.w.can : Nat) : Int), ((Km420.bit (decide (d.now.w.net.toNat ≤ Km420.bears d.now.w.used)) : Nat) : Int), ((Km420.bit (decide (d.now.w.net < 0)) : Nat) : Int)] = [b01 d.now.w.can, b01 (decide (d.now.w.net ≤ (Km420.bears d.now.w.used : Nat))), b01 (decide (d.now.w.net < 0))]
  rw [bit_b01, bit_b01, bit_b01]
  have e : decide (d.now.w.net.toNat ≤ Km420.bears d.now.w.used) = decide (d.now.w.net ≤ ((Km420.bears d.now.w.used : Nat) : Int)) := decide_eq_decide.mpr (by omega)
  rw [e]
theorem look_net (g : Good d.now) : StepIs d .net := by
  refine ⟨rfl, ?_⟩
  show [d.now.w.net / 1000 + 10000000, ((Km420.coarse d.now.w.moment : Nat) : Int)] = [d.now.w.net / 1000 + 10000000, d.now.w.moment / 100000 + 1000000000]
  rw [coarse_is (moment_low g)]
theorem look_bears : StepIs d .bears := by
  refine ⟨rfl, ?_⟩
  show [((Km420.bears d.now.w.used / 1000 : Nat) : Int), ((d.now.w.used.length : Nat) : Int)] = [((Km420.sum ((d.now.lines.filter Ln.on_).map Ln.kg) : Nat) : Int), ((d.now.lines.filter Ln.on_).length : Int)]
  rw [bears_used, used_len, Nat.mul_div_cancel_left _ (by decide)]
theorem look_pull (k : Nat) : StepIs d (.pull k) := by
  refine ⟨rfl, ?_⟩
  have e : (Km420.act d.D (.pull k)).2 = (match (d.now.lines.map Ln.l)[k]? with
      | none => Km420.only (-2)
      | some l => if l.on_ = false then Km420.only (-6) else if d.now.w.can = false then Km420.only (-33) else Km420.only ((d.now.w.pullOf l : Nat) : Int)) := rfl
  have e2 : (stepD d (.pull k)).1 = lkPull d.now k := rfl
  rw [e, e2, List.getElem?_map]
  unfold lkPull
  cases h : d.now.lines[k]? with
  | none => rfl
  | some x =>
    show Km420Neutral.told (if x.on_ = false then Km420.only (-6) else if d.now.w.can = false then Km420.only (-33) else Km420.only ((d.now.w.pullOf x.l : Nat) : Int)) = if x.on_ = false then [-6] else if d.now.w.can = false then [-33] else [((d.now.w.pullOf x.l : Nat) : Int)]
    split
    · rfl
    · split <;> rfl
theorem look_pulls (g : Good d.now) : StepIs d .pulls := by
  refine ⟨rfl, ?_⟩
  have e : (Km420.act d.D .pulls).2 = if d.now.w.can = false then Km420.only (-33) else ⟨((Km420.sum d.now.w.pulls : Nat) : Int), Km420.fill Km420.LINES d.now.w.pulls⟩ := rfl
  have e2 : (stepD d .pulls).1 = lkPulls d.now := rfl
  rw [e, e2]
  unfold lkPulls
  split
  · rfl
  · have hl : d.now.w.pulls.length ≤ 4 := by
      rw [pulls_len g]
      exact g.used.len
    show ((Km420.sum d.now.w.pulls : Nat) : Int) :: intsOf (d.now.w.pulls.take 4 ++ List.replicate (4 - d.now.w.pulls.length) 0) = _
    rw [List.take_of_length_le hl]
    unfold intsOf
    rw [List.map_append, List.map_replicate]
    rfl
theorem look_range (g : Good d.now) : StepIs d .range := by
  refine ⟨rfl, ?_⟩
  have e : (Km420.act d.D .range).2 = if Km420.bears d.now.w.used < d.now.w.net.toNat then Km420.only (-33) else ⟨(0 : Int), [Km420.coarse (Km420.least d.now.w.used d.now.w.net.toNat), Km420.coarse (Km420.greatest d.now.w.used d.now.w.net.toNat)]⟩ := rfl
  have e2 : (stepD d .range).1 = lkRange d.now := rfl
  rw [e, e2]
  unfold lkRange
  by_cases c : Km420.bears d.now.w.used < d.now.w.net.toNat
  · rw [if_pos c, if_pos (show (Km420.bears d.now.w.used : Int) < d.now.w.net by omega)]
    rfl
  · rw [if_neg c, if_neg (show ¬ (Km420.bears d.now.w.used : Int) < d.now.w.net by omega)]
    show [(0 : Int), ((Km420.coarse (Km420.least d.now.w.used d.now.w.net.toNat) : Nat) : Int), ((Km420.coarse (Km420.greatest d.now.w.used d.now.w.net.toNat) : Nat) : Int)] = _
    rw [coarse_is (least_low g.used _), coarse_is (greatest_low g.used _)]
theorem look_work : StepIs d .work := by
  refine ⟨rfl, ?_⟩
  have e : (Km420.act d.D .work).2 = (match d.now.w.work with
      | none => Km420.only (-33)
      | some (v, b) => ⟨((v : Nat) : Int), [b]⟩) := rfl
  have e2 : (stepD d .work).1 = lkWork d.now := rfl
  rw [e, e2, work_is]
  unfold lkWork
  cases workOf d.now with
  | none => rfl
  | some p => rfl
theorem look_would (b : Nat) : StepIs d (.would b) := by
  refine ⟨rfl, ?_⟩
  have e : (Km420.act d.D (.would b)).2 = if 2 ^ d.now.rooms.length ≤ b then Km420.only (-22) else ⟨((Km420.bit (d.now.w.dried b).can : Nat) : Int), [d.now.w.litres b]⟩ := rfl
  have e2 : (stepD d (.would b)).1 = lkWould d.now b := rfl
  rw [e, e2, dried_can, litres_is, bit_b01]
  unfold lkWould
  split <;> rfl
theorem look_few (g : Good d.now) : StepIs d .few := by
  refine ⟨rfl, ?_⟩
  have e : (Km420.act d.D .few).2 = (match d.now.w.few with
      | none => Km420.only (-33)
      | some b => ⟨((Km420.ones Km420.LINES b : Nat) : Int), [b]⟩) := rfl
  have e2 : (stepD d .few).1 = lkFew d.now := rfl
  rw [e, e2]
  unfold lkFew
  rw [few_is g]
  cases d.now.w.few with
  | none => rfl
  | some b => rfl
theorem look_without (k : Nat) : StepIs d (.without k) := by
  refine ⟨rfl, ?_⟩
  have e : (Km420.act d.D (.without k)).2 = (match (d.now.lines.map Ln.l)[k]? with
      | none => Km420.only (-2)
      | some l => if l.on_ = false then Km420.only (-6) else Km420.only ((Km420.bit ({ d.now.w with lines := (d.now.lines.map Ln.l).set k { l with on_ := false } } : Wreck).can : Nat) : Int)) := rfl
  have e2 : (stepD d (.without k)).1 = lkWithout d.now k := rfl
  rw [e, e2, List.getElem?_map]
  unfold lkWithout
  cases h : d.now.lines[k]? with
  | none => rfl
  | some x =>
    show Km420Neutral.told (if x.on_ = false then Km420.only (-6) else Km420.only ((Km420.bit ({ d.now.w with lines := (d.now.lines.map Ln.l).set k { x.l with on_ := false } } : Wreck).can : Nat) : Int)) = if x.on_ = false then [-6] else [b01 (hangW d.now d.now.rooms (others d.now.lines k))]
    rw [without_is h, bit_b01]
    split <;> rfl
theorem look_dry (k : Nat) : StepIs d (.dry k) := by
  refine ⟨rfl, ?_⟩
  have e : (Km420.act d.D (.dry k)).2 = (match d.now.rooms[k]? with
      | none => Km420.only (-2)
      | some r => match Km420.dryIn 1441 0 r with
        | none => Km420.only (-33)
        | some n => Km420.only ((n : Nat) : Int)) := rfl
  have e2 : (stepD d (.dry k)).1 = lkDry d.now k := rfl
  rw [e, e2]
  unfold lkDry
  cases h : d.now.rooms[k]? with
  | none => rfl
  | some r =>
    show Km420Neutral.told (match Km420.dryIn 1441 0 r with
        | none => Km420.only (-33)
        | some n => Km420.only ((n : Nat) : Int)) = if dryV r < 0 then [-33] else [dryV r]
    unfold dryV
    cases Km420.dryIn 1441 0 r with
    | none => rfl
    | some n =>
      show [((n : Nat) : Int)] = if (n : Int) < 0 then [-33] else [(n : Int)]
      rw [if_neg (by omega)]
theorem look_look (k : Nat) : StepIs d (.look k) := by
  refine ⟨rfl, ?_⟩
  have e : (Km420.act d.D (.look k)).2 = (match d.now.rooms[k]? with
      | none => Km420.only (-2)
      | some r => ⟨((r.water : Nat) : Int), [r.most, r.leak, Km420.bit r.patched, r.pump]⟩) := rfl
  have e2 : (stepD d (.look k)).1 = lkLook d.now k := rfl
  rw [e, e2]
  unfold lkLook
  cases h : d.now.rooms[k]? with
  | none => rfl
  | some r =>
    show [((r.water : Nat) : Int), ((r.most : Nat) : Int), ((r.leak : Nat) : Int), ((Km420.bit r.patched : Nat) : Int), ((r.pump : Nat) : Int)] = _
    rw [bit_b01]
theorem look_see (k : Nat) : StepIs d (.see k) := by
  refine ⟨rfl, ?_⟩
  have e : (Km420.act d.D (.see k)).2 = (match (d.now.lines.map Ln.l)[k]? with
      | none => Km420.only (-2)
      | some l => ⟨l.at_ + 5000, [l.most / 1000, Km420.bit l.on_]⟩) := rfl
  have e2 : (stepD d (.see k)).1 = lkSee d.now k := rfl
  rw [e, e2, List.getElem?_map]
  unfold lkSee
  cases h : d.now.lines[k]? with
  | none => rfl
  | some x =>
    show [x.at_ + 5000, ((1000 * x.kg / 1000 : Nat) : Int), ((Km420.bit x.on_ : Nat) : Int)] = _
    rw [bit_b01, Nat.mul_div_cancel_left _ (by decide)]
theorem look_lifts (k : Nat) : StepIs d (.lifts k) := by
  refine ⟨rfl, ?_⟩
  have e : (Km420.act d.D (.lifts k)).2 = (match d.now.rooms[k]? with
      | none => Km420.only (-2)
      | some r => Km420.only ((r.lifts : Nat) : Int)) := rfl
  have e2 : (stepD d (.lifts k)).1 = lkLifts d.now k := rfl
  rw [e, e2]
  unfold lkLifts
  cases h : d.now.rooms[k]? with
  | none => rfl
  | some r => rfl
theorem look_start (kg : Nat) (a : Int) (t h : Nat) : StepIs d (.start kg a t h) := by
  have e : Km420.act d.D (.start kg a t h) = if Km420.okStart kg a t h = false then (d.D, Km420.only (-22)) else (⟨Km420.opened kg a t h, [], []⟩, Km420.only 0) := rfl
  have e2 : stepD d (.start kg a t h) = startD d kg a t h := rfl
  unfold StepIs
  rw [e, e2]
  unfold startD
  split
  · exact ⟨rfl, rfl⟩
  · exact ⟨rfl, rfl⟩
theorem look_back : StepIs d .back := by
  have e : Km420.act d.D .back = (match (d.ahead.map Sd.w).reverse with
      | [] => (d.D, Km420.only (-2))
      | k :: r => (⟨k, r, d.now.w :: (d.gone.map Sd.w).reverse⟩, Km420.only ((r.length : Nat) : Int))) := rfl
  have e2 : stepD d .back = backD d := rfl
  unfold StepIs
  rw [e, e2]
  rcases nil_or_snoc d.ahead with h | ⟨l, s, h⟩
  · rw [backD_nil h, h]
    exact ⟨rfl, rfl⟩
  · rw [backD_snoc h, h, List.map_append, List.reverse_append]
    refine ⟨?_, ?_⟩
    · show (⟨s.w, (l.map Sd.w).reverse, d.now.w :: (d.gone.map Sd.w).reverse⟩ : Km420.Desk) = ⟨s.w, (l.map Sd.w).reverse, ((d.gone ++ [d.now]).map Sd.w).reverse⟩
      rw [List.map_append, List.reverse_append]
      rfl
    · show [((((l.map Sd.w).reverse).length : Nat) : Int)] = [((l.length : Nat) : Int)]
      rw [List.length_reverse, List.length_map]
theorem look_again (g : GoodD d) : StepIs d .again := by
  have e : Km420.act d.D .again = (match (d.gone.map Sd.w).reverse with
      | [] => (d.D, Km420.only (-2))
      | k :: r => (⟨k, (d.now.w :: (d.ahead.map Sd.w).reverse).take 30, r⟩, Km420.only ((r.length : Nat) : Int))) := rfl
  have e2 : stepD d .again = againD d := rfl
  have gl := g.len
  unfold StepIs
  rw [e, e2]
  rcases nil_or_snoc d.gone with h | ⟨l, s, h⟩
  · rw [againD_nil h, h]
    exact ⟨rfl, rfl⟩
  · rw [h, List.length_append] at gl
    have gl' : d.ahead.length + (l.length + 1) ≤ 30 := gl
    rw [againD_snoc h, h, List.map_append, List.reverse_append]
    refine ⟨?_, ?_⟩
    · show (⟨s.w, (d.now.w :: (d.ahead.map Sd.w).reverse).take 30, (l.map Sd.w).reverse⟩ : Km420.Desk) = ⟨s.w, ((d.ahead ++ [d.now]).map Sd.w).reverse, (l.map Sd.w).reverse⟩
      rw [List.map_append, List.reverse_append, List.take_of_length_le (by rw [List.length_cons, List.length_reverse, List.length_map]; omega)]
      rfl
    · show [((((l.map Sd.w).reverse).length : Nat) : Int)] = [((l.length : Nat) : Int)]
      rw [List.length_reverse, List.length_map]
theorem look_state : StepIs d .state := by
  refine ⟨rfl, ?_⟩
  show [((d.now.rooms.length : Nat) : Int), (((d.now.lines.map Ln.l).length : Nat) : Int), ((Km420.bits ((List.range d.now.rooms.length).filter fun k => match d.now.rooms[k]? with
      | some r => r.patched
      | none => false) : Nat) : Int), (((d.ahead.map Sd.w).reverse.length : Nat) : Int), (((d.gone.map Sd.w).reverse.length : Nat) : Int)] = [(d.now.rooms.length : Int), (d.now.lines.length : Int), ((pbits d.now.rooms 0 : Nat) : Int), (d.ahead.length : Int), (d.gone.length : Int)]
  have e : Km420.bits ((List.range d.now.rooms.length).filter fun k => match d.now.rooms[k]? with
      | some r => r.patched
      | none => false) = pbits d.now.rooms 0 := pbits_is d.now.rooms
  rw [e, List.length_map, List.length_reverse, List.length_map, List.length_reverse, List.length_map]
theorem step_is (g : GoodD d) (c : Call) : StepIs d c := by
  cases c with
  | start kg a t h => exact look_start kg a t h
  | room m a k => exact of_chrel rfl (law_room m a k)
  | line a n => exact of_chrel rfl (law_line a n)
  | patch k => exact of_chrel rfl (law_patch k)
  | pump k n => exact of_chrel rfl (law_pump k n)
  | hook k o => exact of_chrel rfl (law_hook k o)
  | minutes n => exact of_chrel rfl (law_minutes n)
  | haul n => exact of_chrel rfl (law_haul n)
  | lower n => exact of_chrel rfl (law_lower n)
  | can => exact look_can g.now
  | net => exact look_net g.now
  | bears => exact look_bears
  | pull k => exact look_pull k
  | pulls => exact look_pulls g.now
  | range => exact look_range g.now
  | work => exact look_work
  | would b => exact look_would b
  | few => exact look_few g.now
  | without k => exact look_without k
  | dry k => exact look_dry k
  | look k => exact look_look k
  | see k => exact look_see k
  | lifts k => exact look_lifts k
  | here => exact ⟨rfl, rfl⟩
  | water => exact ⟨rfl, rfl⟩
  | back => exact look_back
  | again => exact look_again g
  | state => exact look_state
end
end Wr
/-! ### part: Top -/
set_option Elab.async false
set_option linter.all false
set_option maxRecDepth 10000
/-! # The plain law: all calls -/
namespace Wr
open Km420 (Room Line Wreck Call)
/-! ## How much is answered -/
theorem ch_len {s : Sd} {c : Call} {r : List Int × Option Sd} (h : chC s c = some r) : r.1.length ≤ 5 := by
  cases c <;> first | (cases h; done) | skip
  all_goals cases h
  · unfold chRoom
    repeat' split
    all_goals exact Nat.le_of_ble_eq_true rfl
  · unfold chLine
    repeat' split
    all_goals exact Nat.le_of_ble_eq_true rfl
  · unfold chPatch
    repeat' split
    all_goals exact Nat.le_of_ble_eq_true rfl
  · unfold chPump
    repeat' split
    all_goals exact Nat.le_of_ble_eq_true rfl
  · unfold chHook
    repeat' split
    all_goals exact Nat.le_of_ble_eq_true rfl
  · unfold chMinutes
    repeat' split
    all_goals exact Nat.le_of_ble_eq_true rfl
  · unfold chHaul
    repeat' split
    all_goals exact Nat.le_of_ble_eq_true rfl
  · unfold chLower
    repeat' split
    all_goals exact Nat.le_of_ble_eq_true rfl
theorem lk_len {s : Sd} (g : Good s) {c : Call} {r : List Int} (h : lkC s c = some r) : r.length ≤ 5 := by
  cases c <;> first | (cases h; done) | skip
  all_goals cases h
  · exact Nat.le_of_ble_eq_true rfl
  · exact Nat.le_of_ble_eq_true rfl
  · exact Nat.le_of_ble_eq_true rfl
  · unfold lkPull
    repeat' split
    all_goals exact Nat.le_of_ble_eq_true rfl
  · unfold lkPulls
    split
    · exact Nat.le_of_ble_eq_true rfl
    · have hl : s.w.pulls.length ≤ 4 := by
        rw [pulls_len g]
        exact g.used.len
      show ((intsOf s.w.pulls ++ List.replicate (4 - s.w.pulls.length) 0).length + 1) ≤ 5
      unfold intsOf
      rw [List.length_append, List.length_map, List.length_replicate]
      omega
  · unfold lkRange
    repeat' split
    all_goals exact Nat.le_of_ble_eq_true rfl
  · unfold lkWork
    repeat' split
    all_goals exact Nat.le_of_ble_eq_true rfl
  · unfold lkWould
    repeat' split
    all_goals exact Nat.le_of_ble_eq_true rfl
  · unfold lkFew
    repeat' split
    all_goals exact Nat.le_of_ble_eq_true rfl
  · unfold lkWithout
    repeat' split
    all_goals exact Nat.le_of_ble_eq_true rfl
  · unfold lkDry
    repeat' split
    all_goals exact Nat.le_of_ble_eq_true rfl
  · unfold lkLook
    repeat' split
    all_goals exact Nat.le_of_ble_eq_true rfl
  · unfold lkSee
    repeat' split
    all_goals exact Nat.le_of_ble_eq_true rfl
  · unfold lkLifts
    repeat' split
    all_goals exact Nat.le_of_ble_eq_true rfl
  · exact Nat.le_of_ble_eq_true rfl
  · exact Nat.le_of_ble_eq_true rfl
theorem out_len {d : Dk} (g : GoodD d) (c : Call) : (stepD d c).1.length ≤ 5 := by
  rcases kinds d.now c with ⟨kg, a, t, h, rfl⟩ | rfl | rfl | rfl | ⟨r, hr1⟩ | ⟨r, hr1⟩
  · show (startD d kg a t h).1.length ≤ 5
    unfold startD
    split
    all_goals exact Nat.le_of_ble_eq_true rfl
  · show (backD d).1.length ≤ 5
    unfold backD
    split
    all_goals exact Nat.le_of_ble_eq_true rfl
  · show (againD d).1.length ≤ 5
    unfold againD
    split
    all_goals exact Nat.le_of_ble_eq_true rfl
  · exact Nat.le_of_ble_eq_true rfl
  · rw [step_ch hr1]
    exact ch_len hr1
  · rw [step_lk hr1]
    exact lk_len g.now hr1
theorem outs_len : ∀ (cs : List Call) {d : Dk}, GoodD d → (outs d cs).length ≤ 6 * cs.length
  | [], _, _ => Nat.zero_le _
  | c :: cs, d, g => by
    have ih := outs_len cs (step_good g c)
    have h := out_len g c
    show ((stepD d c).1 ++ outs (stepD d c).2 cs).length + 1 ≤ 6 * (cs.length + 1)
    rw [List.length_append]
    omega
end Wr
/-! ### part: Due -/
set_option Elab.async false
set_option linter.all false
set_option maxRecDepth 10000
/-! # The plain law: what is due -/
namespace Wr
open Km420 (Room Line Wreck Call)
/-! ## The calls as numbers -/
def enc (k : Call) : List (List Int) := [wordC k :: numsC k]
theorem callOf_enc (k : Call) : Km420Neutral.callOf (enc k) = some k := by
  cases k <;> rfl
theorem natural_ex {z : Int} {n : Nat} (h : Km420Neutral.natural z n = true) : ∃ k : Nat, z = (k : Int) := by
  unfold Km420Neutral.natural at h
  rw [Bool.and_eq_true] at h
  have := of_decide_eq_true h.1
  exact ⟨z.toNat, by omega⟩
def tabC : List (Int × Nat) := [((0:Int),4),(1,3),(2,2),(3,1),(4,2),(5,2),(6,1),(7,1),(8,1),(9,0),(10,0),(11,0),(12,1),(13,0),(14,0),(15,0),(16,1),(17,0),(18,1),(19,1),(20,1),(21,1),(22,1),(23,0),(24,0),(25,0),(26,0),(27,0)]
def Zs (p : Int) (a : Option (Nat × Nat)) : Prop := ∀ n k, a = some (n, k) → k = 0 ∧ (p, n) ∈ tabC
theorem zs_if {p i : Int} {n : Nat} {b : Option (Nat × Nat)} (h : Zs i (some (n, 0))) (hb : Zs p b) : Zs p (if p = i then some (n, 0) else b) := by
  split
  · rename_i c
    rw [c]
    exact h
  · exact hb
theorem zs_some {i : Int} {n : Nat} (h : (i, n) ∈ tabC) : Zs i (some (n, 0)) := fun m k e => by
  cases e
  exact ⟨rfl, h⟩
theorem zs_none {p : Int} : Zs p none := fun n k e => by cases e
theorem shape_in (p : Int) : Zs p (PyKm420.shape p) := by
  unfold PyKm420.shape
  repeat refine zs_if (zs_some (by decide)) ?_
  exact zs_none
theorem len0 {xs : List Int} (h : xs.length = 0) : xs = [] := List.eq_nil_of_length_eq_zero h
theorem len1 {xs : List Int} {n : Nat} (h : xs.length = n + 1) : ∃ a ys, xs = a :: ys ∧ ys.length = n := by
  cases xs with
  | nil => cases h
  | cons a ys => exact ⟨a, ys, rfl, Nat.succ.inj h⟩
def OneIs (p : Int) (xs : List Int) : Prop := PyKm420.whole [p :: xs] = [p :: xs] ∧ (Km420Neutral.asked1 [p :: xs] = true → ∃ k, [p :: xs] = enc k)
theorem one_0 {xs : List Int} (h : xs.length = 4) : OneIs 0 xs := by
  obtain ⟨a, y0, rfl, h0⟩ := len1 h
  obtain ⟨b, y1, rfl, h1⟩ := len1 h0
  obtain ⟨c, y2, rfl, h2⟩ := len1 h1
  obtain ⟨d, y3, rfl, h3⟩ := len1 h2
  obtain rfl := len0 h3
  refine ⟨rfl, fun q => ?_⟩
  have q' : (Km420Neutral.natural a 32 && Km420Neutral.whole32 b && Km420Neutral.natural c 32 && Km420Neutral.natural d 32) = true := q
  simp only [Bool.and_eq_true] at q'
  obtain ⟨⟨⟨q0, q1⟩, q2⟩, q3⟩ := q'
  obtain ⟨k0, rfl⟩ := natural_ex q0
  obtain ⟨k2, rfl⟩ := natural_ex q2
  obtain ⟨k3, rfl⟩ := natural_ex q3
  exact ⟨.start k0 b k2 k3, rfl⟩
theorem one_1 {xs : List Int} (h : xs.length = 3) : OneIs 1 xs := by
  obtain ⟨a, y0, rfl, h0⟩ := len1 h
  obtain ⟨b, y1, rfl, h1⟩ := len1 h0
  obtain ⟨c, y2, rfl, h2⟩ := len1 h1
  obtain rfl := len0 h2
  refine ⟨rfl, fun q => ?_⟩
  have q' : (Km420Neutral.natural a 32 && Km420Neutral.whole32 b && Km420Neutral.natural c 32) = true := q
  simp only [Bool.and_eq_true] at q'
  obtain ⟨⟨q0, q1⟩, q2⟩ := q'
  obtain ⟨k0, rfl⟩ := natural_ex q0
  obtain ⟨k2, rfl⟩ := natural_ex q2
  exact ⟨.room k0 b k2, rfl⟩
theorem one_2 {xs : List Int} (h : xs.length = 2) : OneIs 2 xs := by
  obtain ⟨a, y0, rfl, h0⟩ := len1 h
  obtain ⟨b, y1, rfl, h1⟩ := len1 h0
  obtain rfl := len0 h1
  refine ⟨rfl, fun q => ?_⟩
  have q' : (Km420Neutral.whole32 a && Km420Neutral.natural b 32) = true := q
  simp only [Bool.and_eq_true] at q'
  obtain ⟨q0, q1⟩ := q'
  obtain ⟨k1, rfl⟩ := natural_ex q1
  exact ⟨.line a k1, rfl⟩
theorem one_3 {xs : List Int} (h : xs.length = 1) : OneIs 3 xs := by
  obtain ⟨a, y0, rfl, h0⟩ := len1 h
  obtain rfl := len0 h0
  refine ⟨rfl, fun q => ?_⟩
  have q' : (Km420Neutral.natural a 32) = true := q
  have q0 := q'
  obtain ⟨k0, rfl⟩ := natural_ex q0
  exact ⟨.patch k0, rfl⟩
theorem one_4 {xs : List Int} (h : xs.length = 2) : OneIs 4 xs := by
  obtain ⟨a, y0, rfl, h0⟩ := len1 h
  obtain ⟨b, y1, rfl, h1⟩ := len1 h0
  obtain rfl := len0 h1
  refine ⟨rfl, fun q => ?_⟩
  have q' : (Km420Neutral.natural a 32 && Km420Neutral.natural b 32) = true := q
  simp only [Bool.and_eq_true] at q'
  obtain ⟨q0, q1⟩ := q'
  obtain ⟨k0, rfl⟩ := natural_ex q0
  obtain ⟨k1, rfl⟩ := natural_ex q1
  exact ⟨.pump k0 k1, rfl⟩
theorem one_5 {xs : List Int} (h : xs.length = 2) : OneIs 5 xs := by
  obtain ⟨a, y0, rfl, h0⟩ := len1 h
  obtain ⟨b, y1, rfl, h1⟩ := len1 h0
  obtain rfl := len0 h1
  refine ⟨rfl, fun q => ?_⟩
  have q' : (Km420Neutral.natural a 32 && Km420Neutral.natural b 32) = true := q
  simp only [Bool.and_eq_true] at q'
  obtain ⟨q0, q1⟩ := q'
  obtain ⟨k0, rfl⟩ := natural_ex q0
  obtain ⟨k1, rfl⟩ := natural_ex q1
  exact ⟨.hook k0 k1, rfl⟩
theorem one_6 {xs : List Int} (h : xs.length = 1) : OneIs 6 xs := by
  obtain ⟨a, y0, rfl, h0⟩ := len1 h
  obtain rfl := len0 h0
  refine ⟨rfl, fun q => ?_⟩
  have q' : (Km420Neutral.natural a 32) = true := q
  have q0 := q'
  obtain ⟨k0, rfl⟩ := natural_ex q0
  exact ⟨.minutes k0, rfl⟩
theorem one_7 {xs : List Int} (h : xs.length = 1) : OneIs 7 xs := by
  obtain ⟨a, y0, rfl, h0⟩ := len1 h
  obtain rfl := len0 h0
  refine ⟨rfl, fun q => ?_⟩
  have q' : (Km420Neutral.natural a 32) = true := q
  have q0 := q'
  obtain ⟨k0, rfl⟩ := natural_ex q0
  exact ⟨.haul k0, rfl⟩
theorem one_8 {xs : List Int} (h : xs.length = 1) : OneIs 8 xs := by
  obtain ⟨a, y0, rfl, h0⟩ := len1 h
  obtain rfl := len0 h0
  refine ⟨rfl, fun q => ?_⟩
  have q' : (Km420Neutral.natural a 32) = true := q
  have q0 := q'
  obtain ⟨k0, rfl⟩ := natural_ex q0
  exact ⟨.lower k0, rfl⟩
theorem one_9 {xs : List Int} (h : xs.length = 0) : OneIs 9 xs := by
  obtain rfl := len0 h
  exact ⟨rfl, fun _ => ⟨.can, rfl⟩⟩
theorem one_10 {xs : List Int} (h : xs.length = 0) : OneIs 10 xs := by
  obtain rfl := len0 h
  exact ⟨rfl, fun _ => ⟨.net, rfl⟩⟩
theorem one_11 {xs : List Int} (h : xs.length = 0) : OneIs 11 xs := by
  obtain rfl := len0 h
  exact ⟨rfl, fun _ => ⟨.bears, rfl⟩⟩
theorem one_12 {xs : List Int} (h : xs.length = 1) : OneIs 12 xs := by
  obtain ⟨a, y0, rfl, h0⟩ := len1 h
  obtain rfl := len0 h0
  refine ⟨rfl, fun q => ?_⟩
  have q' : (Km420Neutral.natural a 32) = true := q
  have q0 := q'
  obtain ⟨k0, rfl⟩ := natural_ex q0
  exact ⟨.pull k0, rfl⟩
theorem one_13 {xs : List Int} (h : xs.length = 0) : OneIs 13 xs := by
  obtain rfl := len0 h
  exact ⟨rfl, fun _ => ⟨.pulls, rfl⟩⟩
theorem one_14 {xs : List Int} (h : xs.length = 0) : OneIs 14 xs := by
  obtain rfl := len0 h
  exact ⟨rfl, fun _ => ⟨.range, rfl⟩⟩
theorem one_15 {xs : List Int} (h : xs.length = 0) : OneIs 15 xs := by
  obtain rfl := len0 h
  exact ⟨rfl, fun _ => ⟨.work, rfl⟩⟩
theorem one_16 {xs : List Int} (h : xs.length = 1) : OneIs 16 xs := by
  obtain ⟨a, y0, rfl, h0⟩ := len1 h
  obtain rfl := len0 h0
  refine ⟨rfl, fun q => ?_⟩
  have q' : (Km420Neutral.natural a 32) = true := q
  have q0 := q'
  obtain ⟨k0, rfl⟩ := natural_ex q0
  exact ⟨.would k0, rfl⟩
theorem one_17 {xs : List Int} (h : xs.length = 0) : OneIs 17 xs := by
  obtain rfl := len0 h
  exact ⟨rfl, fun _ => ⟨.few, rfl⟩⟩
theorem one_18 {xs : List Int} (h : xs.length = 1) : OneIs 18 xs := by
  obtain ⟨a, y0, rfl, h0⟩ := len1 h
  obtain rfl := len0 h0
  refine ⟨rfl, fun q => ?_⟩
  have q' : (Km420Neutral.natural a 32) = true := q
  have q0 := q'
  obtain ⟨k0, rfl⟩ := natural_ex q0
  exact ⟨.without k0, rfl⟩
theorem one_19 {xs : List Int} (h : xs.length = 1) : OneIs 19 xs := by
  obtain ⟨a, y0, rfl, h0⟩ := len1 h
  obtain rfl := len0 h0
  refine ⟨rfl, fun q => ?_⟩
  have q' : (Km420Neutral.natural a 32) = true := q
  have q0 := q'
  obtain ⟨k0, rfl⟩ := natural_ex q0
  exact ⟨.dry k0, rfl⟩
theorem one_20 {xs : List Int} (h : xs.length = 1) : OneIs 20 xs := by
  obtain ⟨a, y0, rfl, h0⟩ := len1 h
  obtain rfl := len0 h0
  refine ⟨rfl, fun q => ?_⟩
  have q' : (Km420Neutral.natural a 32) = true := q
  have q0 := q'
  obtain ⟨k0, rfl⟩ := natural_ex q0
  exact ⟨.look k0, rfl⟩
theorem one_21 {xs : List Int} (h : xs.length = 1) : OneIs 21 xs := by
  obtain ⟨a, y0, rfl, h0⟩ := len1 h
  obtain rfl := len0 h0
  refine ⟨rfl, fun q => ?_⟩
  have q' : (Km420Neutral.natural a 32) = true := q
  have q0 := q'
  obtain ⟨k0, rfl⟩ := natural_ex q0
  exact ⟨.see k0, rfl⟩
theorem one_22 {xs : List Int} (h : xs.length = 1) : OneIs 22 xs := by
  obtain ⟨a, y0, rfl, h0⟩ := len1 h
  obtain rfl := len0 h0
  refine ⟨rfl, fun q => ?_⟩
  have q' : (Km420Neutral.natural a 32) = true := q
  have q0 := q'
  obtain ⟨k0, rfl⟩ := natural_ex q0
  exact ⟨.lifts k0, rfl⟩
theorem one_23 {xs : List Int} (h : xs.length = 0) : OneIs 23 xs := by
  obtain rfl := len0 h
  exact ⟨rfl, fun _ => ⟨.here, rfl⟩⟩
theorem one_24 {xs : List Int} (h : xs.length = 0) : OneIs 24 xs := by
  obtain rfl := len0 h
  exact ⟨rfl, fun _ => ⟨.water, rfl⟩⟩
theorem one_25 {xs : List Int} (h : xs.length = 0) : OneIs 25 xs := by
  obtain rfl := len0 h
  exact ⟨rfl, fun _ => ⟨.back, rfl⟩⟩
theorem one_26 {xs : List Int} (h : xs.length = 0) : OneIs 26 xs := by
  obtain rfl := len0 h
  exact ⟨rfl, fun _ => ⟨.again, rfl⟩⟩
theorem one_27 {xs : List Int} (h : xs.length = 0) : OneIs 27 xs := by
  obtain rfl := len0 h
  exact ⟨rfl, fun _ => ⟨.state, rfl⟩⟩
theorem one_call {p : Int} {n : Nat} {xs : List Int} (h : (p, n) ∈ tabC) (hx : xs.length = n) : OneIs p xs := by
  unfold tabC at h
  rcases List.mem_cons.mp h with e | h
  · obtain ⟨e1, e2⟩ := Prod.mk.inj e
    subst e1 e2
    exact one_0 hx
  rcases List.mem_cons.mp h with e | h
  · obtain ⟨e1, e2⟩ := Prod.mk.inj e
    subst e1 e2
    exact one_1 hx
  rcases List.mem_cons.mp h with e | h
  · obtain ⟨e1, e2⟩ := Prod.mk.inj e
    subst e1 e2
    exact one_2 hx
  rcases List.mem_cons.mp h with e | h
  · obtain ⟨e1, e2⟩ := Prod.mk.inj e
    subst e1 e2
    exact one_3 hx
  rcases List.mem_cons.mp h with e | h
  · obtain ⟨e1, e2⟩ := Prod.mk.inj e
    subst e1 e2
    exact one_4 hx
  rcases List.mem_cons.mp h with e | h
  · obtain ⟨e1, e2⟩ := Prod.mk.inj e
    subst e1 e2
    exact one_5 hx
  rcases List.mem_cons.mp h with e | h
  · obtain ⟨e1, e2⟩ := Prod.mk.inj e
    subst e1 e2
    exact one_6 hx
  rcases List.mem_cons.mp h with e | h
  · obtain ⟨e1, e2⟩ := Prod.mk.inj e
    subst e1 e2
    exact one_7 hx
  rcases List.mem_cons.mp h with e | h
  · obtain ⟨e1, e2⟩ := Prod.mk.inj e
    subst e1 e2
    exact one_8 hx
  rcases List.mem_cons.mp h with e | h
  · obtain ⟨e1, e2⟩ := Prod.mk.inj e
    subst e1 e2
    exact one_9 hx
  rcases List.mem_cons.mp h with e | h
  · obtain ⟨e1, e2⟩ := Prod.mk.inj e
    subst e1 e2
    exact one_10 hx
  rcases List.mem_cons.mp h with e | h
  · obtain ⟨e1, e2⟩ := Prod.mk.inj e
    subst e1 e2
    exact one_11 hx
  rcases List.mem_cons.mp h with e | h
  · obtain ⟨e1, e2⟩ := Prod.mk.inj e
    subst e1 e2
    exact one_12 hx
  rcases List.mem_cons.mp h with e | h
  · obtain ⟨e1, e2⟩ := Prod.mk.inj e
    subst e1 e2
    exact one_13 hx
  rcases List.mem_cons.mp h with e | h
  · obtain ⟨e1, e2⟩ := Prod.mk.inj e
    subst e1 e2
    exact one_14 hx
  rcases List.mem_cons.mp h with e | h
  · obtain ⟨e1, e2⟩ := Prod.mk.inj e
    subst e1 e2
    exact one_15 hx
  rcases List.mem_cons.mp h with e | h
  · obtain ⟨e1, e2⟩ := Prod.mk.inj e
    subst e1 e2
    exact one_16 hx
  rcases List.mem_cons.mp h with e | h
  · obtain ⟨e1, e2⟩ := Prod.mk.inj e
    subst e1 e2
    exact one_17 hx
  rcases List.mem_cons.mp h with e | h
  · obtain ⟨e1, e2⟩ := Prod.mk.inj e
    subst e1 e2
    exact one_18 hx
  rcases List.mem_cons.mp h with e | h
  · obtain ⟨e1, e2⟩ := Prod.mk.inj e
    subst e1 e2
    exact one_19 hx
  rcases List.mem_cons.mp h with e | h
  · obtain ⟨e1, e2⟩ := Prod.mk.inj e
    subst e1 e2
    exact one_20 hx
  rcases List.mem_cons.mp h with e | h
  · obtain ⟨e1, e2⟩ := Prod.mk.inj e
    subst e1 e2
    exact one_21 hx
  rcases List.mem_cons.mp h with e | h
  · obtain ⟨e1, e2⟩ := Prod.mk.inj e
    subst e1 e2
    exact one_22 hx
  rcases List.mem_cons.mp h with e | h
  · obtain ⟨e1, e2⟩ := Prod.mk.inj e
    subst e1 e2
    exact one_23 hx
  rcases List.mem_cons.mp h with e | h
  · obtain ⟨e1, e2⟩ := Prod.mk.inj e
    subst e1 e2
    exact one_24 hx
  rcases List.mem_cons.mp h with e | h
  · obtain ⟨e1, e2⟩ := Prod.mk.inj e
    subst e1 e2
    exact one_25 hx
  rcases List.mem_cons.mp h with e | h
  · obtain ⟨e1, e2⟩ := Prod.mk.inj e
    subst e1 e2
    exact one_26 hx
  rcases List.mem_cons.mp h with e | h
  · obtain ⟨e1, e2⟩ := Prod.mk.inj e
    subst e1 e2
    exact one_27 hx
  · cases h
theorem call_flat {p : Int} {r : List Int} {c : List (List Int)} {t : List Int} (h : PyFlat.call PyKm420.shape (p :: r) = some (c, t)) : ∃ x, c = [x] ∧ p :: r = x ++ t ∧ PyKm420.whole c = c ∧ (Km420Neutral.asked1 c = true → ∃ k, c = enc k) := by
  have h0 : (match PyKm420.shape p with
    | none => none
    | some (n, k) => if r.length < n then none else match PyFlat.rows k (r.drop n) with
      | none => none
      | some (xs, t) => some ((p :: r.take n) :: xs, t)) = some (c, t) := h
  cases hs : PyKm420.shape p with
  | none =>
    rw [hs] at h0
    cases h0
  | some nk =>
    obtain ⟨n, k⟩ := nk
    obtain ⟨hk, hi⟩ := shape_in p n k hs
    subst hk
    rw [hs] at h0
    have h' : (if r.length < n then none else some ([p :: r.take n], r.drop n)) = some (c, t) := h0
    split at h'
    · cases h'
    · rename_i hl
      cases h'
      have h1 := one_call (xs := r.take n) hi (by rw [List.length_take]; omega)
      exact ⟨_, rfl, by rw [List.cons_append, List.take_append_drop], h1.1, h1.2⟩
theorem calls_flat : ∀ (f : Nat) (l : List Int) {raw : List (List (List Int))}, PyFlat.calls PyKm420.shape f l = some raw → l = raw.flatMap List.flatten ∧ raw.map PyKm420.whole = raw ∧ (raw.all Km420Neutral.asked1 = true → ∃ cs : List Call, raw = cs.map enc)
  | 0, [], raw, h => by
    cases h
    exact ⟨rfl, rfl, fun _ => ⟨[], rfl⟩⟩
  | f + 1, [], raw, h => by
    cases h
    exact ⟨rfl, rfl, fun _ => ⟨[], rfl⟩⟩
  | 0, _ :: _, raw, h => by cases h
  | f + 1, p :: r, raw, h => by
    have h0 : (match PyFlat.call PyKm420.shape (p :: r) with
      | none => none
      | some (c, t) => match PyFlat.calls PyKm420.shape f t with
        | none => none
        | some cs => some (c :: cs)) = some raw := h
    cases hc : PyFlat.call PyKm420.shape (p :: r) with
    | none =>
      rw [hc] at h0
      cases h0
    | some ct =>
      obtain ⟨c, t⟩ := ct
      rw [hc] at h0
      cases hr : PyFlat.calls PyKm420.shape f t with
      | none =>
        have h' : (match PyFlat.calls PyKm420.shape f t with
          | none => none
          | some cs => some (c :: cs)) = some raw := h0
        rw [hr] at h'
        cases h'
      | some cs =>
        have h' : (match PyFlat.calls PyKm420.shape f t with
          | none => none
          | some cs => some (c :: cs)) = some raw := h0
        rw [hr] at h'
        cases h'
        obtain ⟨x, hx, hxt, hw, hk⟩ := call_flat hc
        obtain ⟨i1, i2, i3⟩ := calls_flat f t hr
        refine ⟨?_, ?_, fun ha => ?_⟩
        · rw [hxt, List.flatMap_cons, ← i1, hx]
          show x ++ t = (x ++ []) ++ t
          rw [List.append_nil]
        · rw [List.map_cons, hw, i2]
        · rw [List.all_cons, Bool.and_eq_true] at ha
          obtain ⟨k, hk⟩ := hk ha.1
          obtain ⟨ks, hks⟩ := i3 ha.2
          exact ⟨k :: ks, by rw [hk, hks]; rfl⟩
theorem flat_enc : ∀ cs : List Call, (cs.map enc).flatMap List.flatten = flatC cs
  | [] => rfl
  | c :: cs => by
    rw [List.map_cons, List.flatMap_cons, flat_enc cs]
    show ((wordC c :: numsC c) ++ []) ++ flatC cs = wordC c :: (numsC c ++ flatC cs)
    rw [List.append_nil]
    rfl
/-! ## All calls played -/
def Rel (s : Km420Neutral.S) (d : Dk) : Prop := (s = none ∧ d = dk0) ∨ s = some d.D
theorem step_rel {s : Km420Neutral.S} {d : Dk} {c : Call} (g : GoodD d) (h : Rel s d) (hm : (Km420Neutral.step s (enc c)).2 ≠ []) : (Km420Neutral.step s (enc c)).2 = (stepD d c).1 ∧ Rel (Km420Neutral.step s (enc c)).1 (stepD d c).2 := by
  obtain ⟨s1, s2⟩ := step_is g c
  rcases h with ⟨hs, hd⟩ | hs
  · subst hs hd
    have e : Km420Neutral.step none (enc c) = (if Km420Neutral.isStart c then (if (Km420Neutral.told (Km420.act dk0.D c).2).headD 0 < 0 then none else some (Km420.act dk0.D c).1, Km420Neutral.told (Km420.act dk0.D c).2) else (none, [])) := by
      unfold Km420Neutral.step
      rw [callOf_enc]
      rfl
    rw [e] at hm ⊢
    by_cases hi : Km420Neutral.isStart c = true
    · rw [if_pos hi, s2, s1]
      refine ⟨rfl, ?_⟩
      show Rel (if (stepD dk0 c).1.headD 0 < 0 then none else some (stepD dk0 c).2.D) (stepD dk0 c).2
      cases c with
      | start kg a t h =>
        have e3 : stepD dk0 (.start kg a t h) = startD dk0 kg a t h := rfl
        rw [e3]
        unfold startD
        split
        · exact .inl ⟨rfl, rfl⟩
        · exact .inr rfl
      | _ => cases hi
    · rw [if_neg hi] at hm
      exact absurd rfl hm
  · subst hs
    have e : Km420Neutral.step (some d.D) (enc c) = (some (Km420.act d.D c).1, Km420Neutral.told (Km420.act d.D c).2) := by
      unfold Km420Neutral.step
      rw [callOf_enc]
    rw [e, s1, s2]
    exact ⟨rfl, .inr rfl⟩
theorem played_is : ∀ (cs : List Call) {s : Km420Neutral.S} {d : Dk}, GoodD d → Rel s d → Km420Neutral.may s (cs.map enc) = true → PyFlat.told (PyFlat.played Km420Neutral.step s (cs.map enc)) = outs d cs
  | [], _, _, _, _, _ => rfl
  | c :: cs, s, d, g, h, hm => by
    have hm' : (!((Km420Neutral.step s (enc c)).2.isEmpty) && Km420Neutral.may (Km420Neutral.step s (enc c)).1 (cs.map enc)) = true := hm
    rw [Bool.and_eq_true] at hm'
    obtain ⟨m1, m2⟩ := hm'
    have hne : (Km420Neutral.step s (enc c)).2 ≠ [] := fun z => by
      rw [z] at m1
      cases m1
    obtain ⟨r1, r2⟩ := step_rel g h hne
    have ih := played_is cs (step_good g c) r2 m2
    show (((Km420Neutral.step s (enc c)).2.length : Int) :: (Km420Neutral.step s (enc c)).2) ++ PyFlat.told (PyFlat.played Km420Neutral.step (Km420Neutral.step s (enc c)).1 (cs.map enc)) = _
    rw [ih, r1]
    rfl
/-- **What is due.** -/
theorem due {l : List Int} (h : PyKm420.answers_asked l = true) : ∃ cs : List Call, flatC cs = l ∧ outs dk0 cs = PyKm420.answers l ∧ (outs dk0 cs).length ≤ 6000 := by
  unfold PyKm420.answers_asked at h
  cases hr : PyFlat.calls PyKm420.shape l.length l with
  | none =>
    rw [hr] at h
    cases h
  | some raw =>
    rw [hr] at h
    have h' : (!raw.isEmpty && PyFlat.atMost 1000 raw && PyInside.calls PyKm420.bound raw && Km420Neutral.asked (raw.map PyKm420.whole) && PyFlat.short 10000000 (PyKm420.answers l)) = true := h
    rw [Bool.and_eq_true, Bool.and_eq_true] at h'
    have ha := h'.1.2
    obtain ⟨hl, hw, hk⟩ := calls_flat _ _ hr
    rw [hw] at ha
    unfold Km420Neutral.asked at ha
    rw [Bool.and_eq_true, Bool.and_eq_true, Bool.and_eq_true] at ha
    obtain ⟨_, a2, a3, a4⟩ := ha
    obtain ⟨cs, hcs⟩ := hk a3
    subst hcs
    rw [flat_enc] at hl
    have hp := played_is cs dk0_good (.inl ⟨rfl, rfl⟩) a4
    have n1 := of_decide_eq_true a2
    rw [List.length_map] at n1
    have n2 := outs_len cs dk0_good
    refine ⟨cs, hl.symm, ?_, by omega⟩
    unfold PyKm420.answers PyKm420.calls
    rw [hr]
    show _ = PyFlat.told (PyFlat.played Km420Neutral.step Km420Neutral.start ((cs.map enc).map PyKm420.whole))
    rw [hw]
    exact hp.symm
end Wr
/-! ### part: Head -/
set_option Elab.async false
set_option linter.all false
set_option maxRecDepth 100000
set_option maxHeartbeats 4000000
namespace Wr
open PySem PySem.Spec PyProof.Rows L2
/-! ### the objects that are told of, by their addresses -/
def asL : List Addr := [3, 165, 164, 528, 527, 534, 535, 533, 21, 20, 28, 27, 35, 34, 42, 41, 47, 46, 54, 53, 61, 60, 68, 67, 75, 74, 80, 79, 87, 86, 94, 93, 99, 98, 106, 105, 113, 112, 120, 119, 127, 126, 134, 133, 141, 140, 148, 147, 162, 161, 176, 175, 181, 180, 186, 185, 193, 192, 200, 199, 207, 206, 212, 211, 217, 216, 224, 223, 231, 230, 238, 237, 245, 244, 252, 251, 259, 258, 266, 265, 273, 272, 280, 279, 285, 284, 292, 291, 299, 298, 306, 305, 313, 312, 320, 319, 327, 326, 334, 333, 339, 338, 344, 343, 351, 350, 358, 357, 365, 364, 372, 371, 379, 378, 384, 383, 389, 388, 396, 395, 403, 402, 410, 409, 417, 416, 424, 423, 429, 428, 436, 435, 443, 442, 450, 449, 457, 456, 464, 463, 469, 468, 476, 475, 490, 489, 497, 496, 504, 503, 511, 510, 518, 517, 525, 524, 542, 541, 549, 548, 556, 555, 563, 562]
def hookM : PySem.W.Hook where
  α := AlM
  obs := fun s => obsM (He.frG s.heap.get? asL)
  val := fun _ => valM
  says := fun _ h => ∃ K : PySem.W.Frag, K.In h ∧ SaysM K
  of := fun _ _ e => ⟨_, He.frG_in, e⟩
  keeps := fun _ _ _ ⟨K, hK, c⟩ k => ⟨K, PySem.W.Frag.In.keeps hK k, c⟩
def ob (s : PySem.W.SharedT) : AlM := obsM (He.frG (HandSHeadRun.getT s) asL)
theorem ob_eq (s : PySem.W.SharedT) : ob s = hookM.obs s.abs := by
  have e : HandSHeadRun.getT s = s.abs.heap.get? := funext (HandSHeadRun.getT_eq s)
  unfold ob
  rw [e] <;> rfl
/-! ## The head: one run of the top in the kernel -/
abbrev R : PySem.W.OpenSpec := PySem.Challenge.rw_wreckraising_s01_answers
abbrev qv : Program := PySem.W.view R.prog [101]
def names0 : List Str := ["LIFT", "LONGEST", "new_room", "patched_room", "pumped_room", "room_with", "water_in", "air_grams", "leaking_in", "after_minute", "minutes_till_dry", "borne", "poured", "poured_back", "moment_of", "least_moment", "greatest_moment", "can_hang", "first_pulling", "last_bearing", "to_move", "level_pulls", "GRAMS", "TOLD", "MORE", "Stand", "twin", "left_with", "moment_with", "left_of"]
def names1 : List Str := ["moment_now", "told_moment", "loads_of", "hooked_lines", "hooked_loads", "hangs_with", "hangs", "pulls_now", "pass_minute", "FARTHEST", "MOST_ROOMS", "MOST_LINES_changes", "MOST_MINUTES", "LAST_MINUTE", "is_place", "is_within", "refused", "put_room", "put_line", "patch", "pump", "hook", "minutes", "haul", "lower", "has_bit", "chosen", "dried", "hangs_dried", "least_work"]
def names2 : List Str := ["fewest_lines", "MORE_KG", "MORE_PLACE", "MOST_LINES_looks", "tell_can", "tell_net", "tell_bears", "tell_pull", "tell_pulls", "tell_range", "tell_work", "tell_would", "tell_few", "tell_without", "tell_dry", "tell_look", "tell_see", "tell_lifts", "tell_here", "tell_water", "patched_bits", "MOST_BACK", "Desk", "START", "BACK", "AGAIN", "STATE", "SIZES", "CHANGES", "LOOKS"]
def names3 : List Str := ["changed", "looked", "answered"]
def names : List Str := names0 ++ names1 ++ names2 ++ names3
theorem run (w : World) : HandSHeadRun.RunEqS R qv hookM ob 8000 names w := by
  refine PySem.W.byRow2 "special-get-raises" (P := fun w => HandSHeadRun.RunEqS R qv hookM ob 8000 names w) ?_ ?_ w
  · intro w os
    kernel_rfl
  · intro w os
    kernel_rfl
end Wr
section
open PySem PySem.W PySem.Calls PyProof.Rows
theorem Wr.head (call : WalkOS Wr.qv Wr.names (XL Wr.qv []) Wr.hookM.says Wr.R (HandSHeadRun.topDef Wr.R.prog 101) [] fun f vs => PySem.call f vs) : PySem.Challenge.rw_wreckraising_s01_answers.Holds := by
  w_on
  refine HandSHeadRun.head_spec (r := PySem.Challenge.rw_wreckraising_s01_answers) (q := Wr.qv) (H := Wr.hookM) (ob := Wr.ob) (M := 8000) (loose := Wr.names) (d := HandSHeadRun.topDef Wr.R.prog 101) (kwd := []) Wr.ob_eq
    (by kernel_rfl) (fun s => by kernel_rfl) Wr.run (by kernel_rfl) (by kernel_rfl) (by kernel_rfl) os_shapes (by first | assumption | decide +kernel) (by decide +kernel) ⟨rfl, rfl, rfl, rfl, rfl, by decide +kernel⟩ ?hw call
  exact ⟨[.list [.int 0, .int 1, .int 0, .int 1, .int 1]], by decide +kernel, by decide +kernel⟩
end
/-! ### part: End -/
set_option Elab.async false
set_option linter.all false
set_option maxRecDepth 100000
set_option maxHeartbeats 4000000
/-! # The end: all together -/
namespace Wr
open PySem PySem.Spec PyProof.Rows L2
open Km420 (Call)
section
variable {P : Program} {w : World} {K : PySem.W.Frag} {mg : Str → Option Value} {base : Heap}
theorem k_all {fd : FuncData} (T : Facts K mg) (F : FnP K "answers" "answers" s_answers (He.ga K "answers") fd) : FnOk P w K mg base CX0 11 (He.ga K "answers") fd ["calls"] (sp_answers K) := by
  have h_new_room := k_new_room (P := P) (w := w) (base := base) T
  have h_patched_room := k_patched_room (P := P) (w := w) (base := base) T
  have h_pumped_room := k_pumped_room (P := P) (w := w) (base := base) T
  have h_room_with := k_room_with (P := P) (w := w) (base := base) T
  have h_air_grams := k_air_grams (P := P) (w := w) (base := base) T
  have h_leaking_in := k_leaking_in (P := P) (w := w) (base := base) T
  have h_after_minute := k_after_minute (P := P) (w := w) (base := base) T h_leaking_in h_room_with
  have h_minutes_till_dry := k_minutes_till_dry (P := P) (w := w) (base := base) T h_after_minute
  have h_water_in := k_water_in (P := P) (w := w) (base := base) T
  have h_borne := k_borne (P := P) (w := w) (base := base) T
  have h_poured := k_poured (P := P) (w := w) (base := base) T
  have h_poured_back := k_poured_back (P := P) (w := w) (base := base) T h_poured
  have h_moment_of := k_moment_of (P := P) (w := w) (base := base) T
  have h_least_moment := k_least_moment (P := P) (w := w) (base := base) T h_poured h_moment_of
  have h_greatest_moment := k_greatest_moment (P := P) (w := w) (base := base) T h_poured_back h_moment_of
  have h_can_hang := k_can_hang (P := P) (w := w) (base := base) T h_borne h_least_moment h_greatest_moment
  have h_first_pulling := k_first_pulling (P := P) (w := w) (base := base) T
  have h_last_bearing := k_last_bearing (P := P) (w := w) (base := base) T
  have h_to_move := k_to_move (P := P) (w := w) (base := base) T
  have h_level_pulls := k_level_pulls (P := P) (w := w) (base := base) T h_poured h_first_pulling h_last_bearing h_to_move h_moment_of
  have h_Stand_init := k_Stand_init (P := P) (w := w) (base := base) T
  have h_twin := k_twin (P := P) (w := w) (base := base) T h_Stand_init
  have h_left_with := k_left_with (P := P) (w := w) (base := base) T h_air_grams
  have h_moment_with := k_moment_with (P := P) (w := w) (base := base) T h_air_grams
  have h_left_of := k_left_of (P := P) (w := w) (base := base) T h_left_with
  have h_moment_now := k_moment_now (P := P) (w := w) (base := base) T h_moment_with
  have h_told_moment := k_told_moment (P := P) (w := w) (base := base) T
  have h_loads_of := k_loads_of (P := P) (w := w) (base := base) T
  have h_hooked_lines := k_hooked_lines (P := P) (w := w) (base := base) T
  have h_hooked_loads := k_hooked_loads (P := P) (w := w) (base := base) T h_loads_of h_hooked_lines
  have h_hangs_with := k_hangs_with (P := P) (w := w) (base := base) T h_can_hang h_loads_of h_left_with h_moment_with
  have h_hangs := k_hangs (P := P) (w := w) (base := base) T h_hangs_with h_hooked_lines
  have h_pulls_now := k_pulls_now (P := P) (w := w) (base := base) T h_level_pulls h_hooked_loads h_left_of h_moment_now
  have h_pass_minute := k_pass_minute (P := P) (w := w) (base := base) T h_after_minute h_hangs
  have h_is_place := k_is_place (P := P) (w := w) (base := base) T
  have h_is_within := k_is_within (P := P) (w := w) (base := base) T
  have h_refused := k_refused (P := P) (w := w) (base := base) T
  have h_put_room := k_put_room (P := P) (w := w) (base := base) T h_is_within h_is_place h_refused h_twin h_new_room
  have h_put_line := k_put_line (P := P) (w := w) (base := base) T h_is_within h_is_place h_refused h_twin
  have h_patch := k_patch (P := P) (w := w) (base := base) T h_refused h_twin h_patched_room
  have h_pump := k_pump (P := P) (w := w) (base := base) T h_refused h_twin h_pumped_room
  have h_hook := k_hook (P := P) (w := w) (base := base) T h_refused h_twin h_hangs h_hooked_lines
  have h_minutes := k_minutes (P := P) (w := w) (base := base) T h_is_within h_refused h_twin h_pass_minute
  have h_haul := k_haul (P := P) (w := w) (base := base) T h_refused h_hangs h_twin
  have h_lower := k_lower (P := P) (w := w) (base := base) T h_refused h_twin
  have h_has_bit := k_has_bit (P := P) (w := w) (base := base) T
  have h_chosen := k_chosen (P := P) (w := w) (base := base) T h_has_bit
  have h_dried := k_dried (P := P) (w := w) (base := base) T h_has_bit h_room_with
  have h_hangs_dried := k_hangs_dried (P := P) (w := w) (base := base) T h_hangs_with h_dried h_hooked_lines
  have h_least_work := k_least_work (P := P) (w := w) (base := base) T h_hangs_dried h_water_in h_chosen
  have h_fewest_lines := k_fewest_lines (P := P) (w := w) (base := base) T h_chosen h_hangs_with
  have h_patched_bits := k_patched_bits (P := P) (w := w) (base := base) T h_has_bit
  have h_tell_can := k_tell_can (P := P) (w := w) (base := base) T h_left_of h_hangs h_borne h_hooked_loads
  have h_tell_net := k_tell_net (P := P) (w := w) (base := base) T h_left_of h_told_moment h_moment_now
  have h_tell_bears := k_tell_bears (P := P) (w := w) (base := base) T h_hooked_lines
  have h_tell_work := k_tell_work (P := P) (w := w) (base := base) T h_least_work
  have h_tell_few := k_tell_few (P := P) (w := w) (base := base) T h_fewest_lines
  have h_tell_would := k_tell_would (P := P) (w := w) (base := base) T h_hangs_dried h_water_in h_chosen
  have h_tell_dry := k_tell_dry (P := P) (w := w) (base := base) T h_minutes_till_dry
  have h_tell_look := k_tell_look (P := P) (w := w) (base := base) T
  have h_tell_lifts := k_tell_lifts (P := P) (w := w) (base := base) T h_air_grams
  have h_tell_see := k_tell_see (P := P) (w := w) (base := base) T
  have h_tell_here := k_tell_here (P := P) (w := w) (base := base) T
  have h_tell_water := k_tell_water (P := P) (w := w) (base := base) T h_water_in
  have h_tell_range := k_tell_range (P := P) (w := w) (base := base) T h_hooked_loads h_left_of h_borne h_told_moment h_least_moment h_greatest_moment
  have h_tell_pulls := k_tell_pulls (P := P) (w := w) (base := base) T h_hangs h_pulls_now
  have h_tell_pull := k_tell_pull (P := P) (w := w) (base := base) T h_hangs h_hooked_loads h_pulls_now
  have h_tell_without := k_tell_without (P := P) (w := w) (base := base) T h_hangs_with
  have h_Desk_init := k_Desk_init (P := P) (w := w) (base := base) T h_Stand_init
  have m_start := k_Desk_start (P := P) (w := w) (base := base) T h_Stand_init h_is_within h_is_place
  have m_go_on := k_Desk_go_on (P := P) (w := w) (base := base) T
  have m_take_back := k_Desk_take_back (P := P) (w := w) (base := base) T
  have m_do_again := k_Desk_do_again (P := P) (w := w) (base := base) T
  have m_tell_state := k_Desk_tell_state (P := P) (w := w) (base := base) T h_patched_bits
  have hC : Changes P w K mg base := ⟨fun c s r h => by
    cases c with
    | room m a k => exact ⟨"put_room", rfl, h_put_room.held (by decide) fun vs H Q E ⟨x, y, s, r, e1, e2, g, e3, e4, q⟩ => ⟨x, y, s, m, a, k, e1, e2, g, e3, by cases e4; exact q⟩⟩
    | line a k => exact ⟨"put_line", rfl, h_put_line.held (by decide) fun vs H Q E ⟨x, y, s, r, e1, e2, g, e3, e4, q⟩ => ⟨x, y, s, a, k, e1, e2, g, e3, by cases e4; exact q⟩⟩
    | patch k => exact ⟨"patch", rfl, h_patch.held (by decide) fun vs H Q E ⟨x, y, s, r, e1, e2, g, e3, e4, q⟩ => ⟨x, y, s, k, e1, e2, g, e3, by cases e4; exact q⟩⟩
    | pump k n => exact ⟨"pump", rfl, h_pump.held (by decide) fun vs H Q E ⟨x, y, s, r, e1, e2, g, e3, e4, q⟩ => ⟨x, y, s, k, n, e1, e2, g, e3, by cases e4; exact q⟩⟩
    | hook k b => exact ⟨"hook", rfl, h_hook.held (by decide) fun vs H Q E ⟨x, y, s, r, e1, e2, g, e3, e4, q⟩ => ⟨x, y, s, k, b, e1, e2, g, e3, by cases e4; exact q⟩⟩
    | minutes n => exact ⟨"minutes", rfl, h_minutes.held (by decide) fun vs H Q E ⟨x, y, s, r, e1, e2, g, e3, e4, q⟩ => ⟨x, y, s, n, e1, e2, g, e3, by cases e4; exact q⟩⟩
    | haul n => exact ⟨"haul", rfl, h_haul.held (by decide) fun vs H Q E ⟨x, y, s, r, e1, e2, g, e3, e4, q⟩ => ⟨x, y, s, n, e1, e2, g, e3, by cases e4; exact q⟩⟩
    | lower n => exact ⟨"lower", rfl, h_lower.held (by decide) fun vs H Q E ⟨x, y, s, r, e1, e2, g, e3, e4, q⟩ => ⟨x, y, s, n, e1, e2, g, e3, by cases e4; exact q⟩⟩
    | _ => cases h⟩
  have h_changed := k_changed (P := P) (w := w) (base := base) T hC m_go_on
  have hL : Looks P w K mg base := ⟨fun c s r h => by
    cases c with
    | can => exact ⟨"tell_can", rfl, h_tell_can.held (by decide) fun vs H Q E ⟨x, y, s, r, e1, e2, g, e3, e4, q⟩ => ⟨x, y, s, e1, e2, g, by cases e4; exact q⟩⟩
    | net => exact ⟨"tell_net", rfl, h_tell_net.held (by decide) fun vs H Q E ⟨x, y, s, r, e1, e2, g, e3, e4, q⟩ => ⟨x, y, s, e1, e2, g, by cases e4; exact q⟩⟩
    | bears => exact ⟨"tell_bears", rfl, h_tell_bears.held (by decide) fun vs H Q E ⟨x, y, s, r, e1, e2, g, e3, e4, q⟩ => ⟨x, y, s, e1, e2, g, by cases e4; exact q⟩⟩
    | pulls => exact ⟨"tell_pulls", rfl, h_tell_pulls.held (by decide) fun vs H Q E ⟨x, y, s, r, e1, e2, g, e3, e4, q⟩ => ⟨x, y, s, e1, e2, g, by cases e4; exact q⟩⟩
    | range => exact ⟨"tell_range", rfl, h_tell_range.held (by decide) fun vs H Q E ⟨x, y, s, r, e1, e2, g, e3, e4, q⟩ => ⟨x, y, s, e1, e2, g, by cases e4; exact q⟩⟩
    | work => exact ⟨"tell_work", rfl, h_tell_work.held (by decide) fun vs H Q E ⟨x, y, s, r, e1, e2, g, e3, e4, q⟩ => ⟨x, y, s, e1, e2, g, by cases e4; exact q⟩⟩
    | few => exact ⟨"tell_few", rfl, h_tell_few.held (by decide) fun vs H Q E ⟨x, y, s, r, e1, e2, g, e3, e4, q⟩ => ⟨x, y, s, e1, e2, g, by cases e4; exact q⟩⟩
    | here => exact ⟨"tell_here", rfl, h_tell_here.held (by decide) fun vs H Q E ⟨x, y, s, r, e1, e2, g, e3, e4, q⟩ => ⟨x, y, s, e1, e2, g, by cases e4; exact q⟩⟩
    | water => exact ⟨"tell_water", rfl, h_tell_water.held (by decide) fun vs H Q E ⟨x, y, s, r, e1, e2, g, e3, e4, q⟩ => ⟨x, y, s, e1, e2, g, by cases e4; exact q⟩⟩
    | pull k => exact ⟨"tell_pull", rfl, h_tell_pull.held (by decide) fun vs H Q E ⟨x, y, s, r, e1, e2, g, e3, e4, q⟩ => ⟨x, y, s, k, e1, e2, g, e3, by cases e4; exact q⟩⟩
    | would k => exact ⟨"tell_would", rfl, h_tell_would.held (by decide) fun vs H Q E ⟨x, y, s, r, e1, e2, g, e3, e4, q⟩ => ⟨x, y, s, k, e1, e2, g, e3, by cases e4; exact q⟩⟩
    | without k => exact ⟨"tell_without", rfl, h_tell_without.held (by decide) fun vs H Q E ⟨x, y, s, r, e1, e2, g, e3, e4, q⟩ => ⟨x, y, s, k, e1, e2, g, e3, by cases e4; exact q⟩⟩
    | dry k => exact ⟨"tell_dry", rfl, h_tell_dry.held (by decide) fun vs H Q E ⟨x, y, s, r, e1, e2, g, e3, e4, q⟩ => ⟨x, y, s, k, e1, e2, g, e3, by cases e4; exact q⟩⟩
    | look k => exact ⟨"tell_look", rfl, h_tell_look.held (by decide) fun vs H Q E ⟨x, y, s, r, e1, e2, g, e3, e4, q⟩ => ⟨x, y, s, k, e1, e2, g, e3, by cases e4; exact q⟩⟩
    | see k => exact ⟨"tell_see", rfl, h_tell_see.held (by decide) fun vs H Q E ⟨x, y, s, r, e1, e2, g, e3, e4, q⟩ => ⟨x, y, s, k, e1, e2, g, e3, by cases e4; exact q⟩⟩
    | lifts k => exact ⟨"tell_lifts", rfl, h_tell_lifts.held (by decide) fun vs H Q E ⟨x, y, s, r, e1, e2, g, e3, e4, q⟩ => ⟨x, y, s, k, e1, e2, g, e3, by cases e4; exact q⟩⟩
    | _ => cases h⟩
  have h_looked := k_looked (P := P) (w := w) (base := base) T hL
  have h_answered := k_answered (P := P) (w := w) (base := base) T m_start m_take_back m_do_again m_tell_state h_changed h_looked
  exact k_answers T F h_Desk_init h_answered
end
open PySem.W PySem.Calls
theorem name_is : (HandSHeadRun.topDef Wr.R.prog 101).name = ("answers" : Str) := by kernel_rfl
theorem called : PySem.W.WalkOS Wr.qv Wr.names (XL Wr.qv []) Wr.hookM.says Wr.R (HandSHeadRun.topDef Wr.R.prog 101) [] fun f vs => PySem.call f vs := by
  intro w s₀ s₁ mg mb G Y
  obtain ⟨K0, hK, hc⟩ := (show ∃ K : PySem.W.Frag, K.In s₁.heap ∧ SaysM K from Y)
  refine L2.walk_spec (r := PySem.Challenge.rw_wreckraising_s01_answers) (k := 11) (K := fun _ => K0) (YP := fun w' h => w' = w ∧ K0.In h) (CX := fun _ => L2.CX0) (ps := ["calls"]) (sp := fun _ => sp_answers K0) (by decide +kernel) (by kernel_rfl) rfl ⟨rfl, by decide, by decide⟩ (fun _ _ z => z.2) ?F ?S (fun _ _ _ _ _ z => z) w s₀ s₁ mg mb G ⟨rfl, hK⟩
  case F =>
    intro w' mg' fa h hY KX G' hmg
    have T : Facts K0 mg' := ⟨hc, h, KX, G'⟩
    rw [name_is, T.m_answers] at hmg
    cases hmg
    obtain ⟨fd, h2, h3, F⟩ := T.raw_answers.ex
    exact ⟨fd, fun s us hu => F.bindsA (ps := ["calls"]) (fun _ _ _ _ _ _ us hl => match us, hl with | [_], _ => rfl) s us hu, fun base _ _ => k_all T F⟩
  case S =>
    intro w' H xs a hO hwi hask hx
    cases hx with
    | cons h1 h2 =>
      cases h2
      cases h1 with
      | lst hs ha =>
        have e := L2.ints_dw a.1 _ ha
        subst e
        have q : ((Codec.inLen 0 5000 a.1 && a.1.all (Codec.inInt _ _)) && true) = true := hwi
        rw [Bool.and_eq_true, Bool.and_eq_true] at q
        have hn := (Codec.inNat_iff.mp q.1.1).2
        obtain ⟨cs, d1, d2, d3⟩ := due (l := a.1) hask
        refine ⟨_, cs, rfl, by rw [d1]; exact hs, by rw [d1]; omega, by omega, fun v H' e hv => ?_⟩
        obtain ⟨p, hv, hp⟩ := hv
        subst hv
        rw [d2] at hp
        exact .lst (L2.SqL.of hp) (L2.dw_ints _)
end Wr
theorem PySem.Challenge.cw_wreckraising_s01_answers_holds : PySem.Challenge.rw_wreckraising_s01_answers.Holds := by
  exact Wr.head Wr.called
#print axioms PySem.Challenge.cw_wreckraising_s01_answers_holds
