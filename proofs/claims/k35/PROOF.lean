import PyProof.Rows.All
import Wide.All
import OpenK.AllK
import Wide.FinOn
import KE.KStateDown
import HandS.ForMost
import HandS.Defaults
import HandS.MakeKwOnly
import HandS.Property
import HandS.Deep
import HandS.Codes
import HandS.Strs
import HandS.DictComp
import HandS.TupAny
import HandS.Style
import HandS.Sort
import HandS.SortOrd
import HandS.More
import HandS.Conv
import HandS.IsInst
import HandS.Head0
import HandS.Head1
import HandS.Head2
import HandS.HeadEnd
import HandS.HeadHook1
import HandS.HeadHook2
import HandS.EndBits
import KE.KDictCopyH
import PySem.Challenge.RW_heldlives_k35_whole_stands_of_containers
set_option Elab.async false
set_option linter.all false
set_option maxRecDepth 100000
set_option maxHeartbeats 4000000
/-! B1: the text by places, its facts, calls -/
namespace HL
open PySem L2
def top (i : Nat) : Stmt := PySem.Challenge.pw_heldlives_k35_whole_stands_of_containers.main.body.getD i (.Pass ⟨0, 0, 0, 0⟩)
abbrev s_is_one_of : Stmt := top 15
abbrev s_are_bars : Stmt := top 16
abbrev s_need_field : Stmt := top 17
abbrev s_need_book : Stmt := top 19
abbrev s_is_number : Stmt := top 22
abbrev s_bar_of : Stmt := top 23
abbrev s_need_depth : Stmt := top 29
abbrev s_need_fault : Stmt := top 30
abbrev s_is_form : Stmt := top 31
abbrev s_need_stand : Stmt := top 32
abbrev s_kept_in_common : Stmt := top 33
abbrev s_all_begun : Stmt := top 34
abbrev s_begun : Stmt := top 35
abbrev s_wants_of : Stmt := top 36
abbrev s_asked_from : Stmt := top 37
abbrev s_led_to : Stmt := top 38
abbrev s_followers : Stmt := top 39
abbrev s_follow : Stmt := top 40
abbrev s_lacked : Stmt := top 41
abbrev s_lacks : Stmt := top 42
abbrev s_is_far : Stmt := top 43
abbrev s_is_bad : Stmt := top 44
abbrev s_is_wrong : Stmt := top 45
abbrev s_law_begun : Stmt := top 47
abbrev s_law_mixed : Stmt := top 48
abbrev s_law_take : Stmt := top 49
abbrev s_law_pick : Stmt := top 50
abbrev s_law_shuffled : Stmt := top 51
abbrev s_law_drawn_fields : Stmt := top 52
abbrev s_law_book : Stmt := top 53
abbrev s_law_world : Stmt := top 54
abbrev s_law_up : Stmt := top 55
abbrev s_law_spot : Stmt := top 56
abbrev s_law_wanted : Stmt := top 57
abbrev s_law_is_use : Stmt := top 58
abbrev s_law_ended : Stmt := top 59
abbrev s_law_closed : Stmt := top 60
abbrev s_law_is_attached : Stmt := top 61
abbrev s_law_done : Stmt := top 62
abbrev s_law_opened : Stmt := top 63
abbrev s_law_open_ones : Stmt := top 64
abbrev s_law_requests : Stmt := top 65
abbrev s_law_ran : Stmt := top 66
abbrev s_law_begun_deeds : Stmt := top 67
abbrev s_law_there : Stmt := top 68
abbrev s_law_got : Stmt := top 69
abbrev s_law_answer : Stmt := top 70
abbrev s_law_small_parts : Stmt := top 71
abbrev s_law_free_deed : Stmt := top 72
abbrev s_law_new : Stmt := top 73
abbrev s_law_stand_of : Stmt := top 74
abbrev s_law_seen : Stmt := top 75
abbrev s_law_used : Stmt := top 76
abbrev s_law_lack_right : Stmt := top 77
abbrev s_law_led_right : Stmt := top 78
abbrev s_law : Stmt := top 79
abbrev s_Book_init : Stmt := inClass (top 18) 0
abbrev s_Book_held : Stmt := inClass (top 18) 1
abbrev s_Book_each : Stmt := inClass (top 18) 2
abbrev s_Book_lifted : Stmt := inClass (top 18) 3
abbrev s_Book_ends : Stmt := inClass (top 18) 4
abbrev s_Book_bars : Stmt := inClass (top 18) 6
end HL
namespace HL
open PySem PySem.Spec PyProof.Rows L2
abbrev N_is_one_of : List Str := ["thing", "words"]
abbrev P_is_one_of : List Str := ["thing", "words"]
theorem sc_is_one_of : FnScope N_is_one_of P_is_one_of (defScope s_is_one_of) := ⟨rfl, rfl, rfl, by decide +kernel, rfl, by decide +kernel, by decide +kernel⟩
abbrev N_are_bars : List Str := ["thing", "word"]
abbrev P_are_bars : List Str := ["thing"]
theorem sc_are_bars : FnScope N_are_bars P_are_bars (defScope s_are_bars) := ⟨rfl, rfl, rfl, by decide +kernel, rfl, by decide +kernel, by decide +kernel⟩
abbrev N_need_field : List Str := ["field", "thing", "words"]
abbrev P_need_field : List Str := ["field", "thing", "words"]
theorem sc_need_field : FnScope N_need_field P_need_field (defScope s_need_field) := ⟨rfl, rfl, rfl, by decide +kernel, rfl, by decide +kernel, by decide +kernel⟩
abbrev N_need_book : List Str := ["book"]
abbrev P_need_book : List Str := ["book"]
theorem sc_need_book : FnScope N_need_book P_need_book (defScope s_need_book) := ⟨rfl, rfl, rfl, by decide +kernel, rfl, by decide +kernel, by decide +kernel⟩
abbrev N_is_number : List Str := ["thing"]
abbrev P_is_number : List Str := ["thing"]
theorem sc_is_number : FnScope N_is_number P_is_number (defScope s_is_number) := ⟨rfl, rfl, rfl, by decide +kernel, rfl, by decide +kernel, by decide +kernel⟩
abbrev N_bar_of : List Str := ["life", "way", "wanted_life"]
abbrev P_bar_of : List Str := ["life", "way", "wanted_life"]
theorem sc_bar_of : FnScope N_bar_of P_bar_of (defScope s_bar_of) := ⟨rfl, rfl, rfl, by decide +kernel, rfl, by decide +kernel, by decide +kernel⟩
abbrev N_need_depth : List Str := ["depth"]
abbrev P_need_depth : List Str := ["depth"]
theorem sc_need_depth : FnScope N_need_depth P_need_depth (defScope s_need_depth) := ⟨rfl, rfl, rfl, by decide +kernel, rfl, by decide +kernel, by decide +kernel⟩
abbrev N_need_fault : List Str := ["fault"]
abbrev P_need_fault : List Str := ["fault"]
theorem sc_need_fault : FnScope N_need_fault P_need_fault (defScope s_need_fault) := ⟨rfl, rfl, rfl, by decide +kernel, rfl, by decide +kernel, by decide +kernel⟩
abbrev N_is_form : List Str := ["depth", "thing", "life", "level", "made", "common", "past", "rooted"]
abbrev P_is_form : List Str := ["depth", "thing"]
theorem sc_is_form : FnScope N_is_form P_is_form (defScope s_is_form) := ⟨rfl, rfl, rfl, by decide +kernel, rfl, by decide +kernel, by decide +kernel⟩
abbrev N_need_stand : List Str := ["depth", "stand"]
abbrev P_need_stand : List Str := ["depth", "stand"]
theorem sc_need_stand : FnScope N_need_stand P_need_stand (defScope s_need_stand) := ⟨rfl, rfl, rfl, by decide +kernel, rfl, by decide +kernel, by decide +kernel⟩
abbrev N_kept_in_common : List Str := ["life", "level", "depth", "found", "common", "past"]
abbrev P_kept_in_common : List Str := ["life", "level", "depth"]
theorem sc_kept_in_common : FnScope N_kept_in_common P_kept_in_common (defScope s_kept_in_common) := ⟨rfl, rfl, rfl, by decide +kernel, rfl, by decide +kernel, by decide +kernel⟩
abbrev N_all_begun : List Str := ["depth", "found", "life"]
abbrev P_all_begun : List Str := ["depth"]
theorem sc_all_begun : FnScope N_all_begun P_all_begun (defScope s_all_begun) := ⟨rfl, rfl, rfl, by decide +kernel, rfl, by decide +kernel, by decide +kernel⟩
abbrev N_begun : List Str := ["depth"]
abbrev P_begun : List Str := ["depth"]
theorem sc_begun : FnScope N_begun P_begun (defScope s_begun) := ⟨rfl, rfl, rfl, by decide +kernel, rfl, by decide +kernel, by decide +kernel⟩
abbrev N_wants_of : List Str := ["book", "depth", "life", "found", "way", "wanted"]
abbrev P_wants_of : List Str := ["book", "depth", "life"]
theorem sc_wants_of : FnScope N_wants_of P_wants_of (defScope s_wants_of) := ⟨rfl, rfl, rfl, by decide +kernel, rfl, by decide +kernel, by decide +kernel⟩
abbrev N_asked_from : List Str := ["book", "depth", "stand", "way"]
abbrev P_asked_from : List Str := ["book", "depth", "stand", "way"]
theorem sc_asked_from : FnScope N_asked_from P_asked_from (defScope s_asked_from) := ⟨rfl, rfl, rfl, by decide +kernel, rfl, by decide +kernel, by decide +kernel⟩
abbrev N_led_to : List Str := ["book", "depth", "stand", "want", "way", "wanted", "level", "made", "common", "past", "place"]
abbrev P_led_to : List Str := ["book", "depth", "stand", "want"]
theorem sc_led_to : FnScope N_led_to P_led_to (defScope s_led_to) := ⟨rfl, rfl, rfl, by decide +kernel, rfl, by decide +kernel, by decide +kernel⟩
abbrev N_followers : List Str := ["book", "depth", "stand", "found", "want", "one"]
abbrev P_followers : List Str := ["book", "depth", "stand"]
theorem sc_followers : FnScope N_followers P_followers (defScope s_followers) := ⟨rfl, rfl, rfl, by decide +kernel, rfl, by decide +kernel, by decide +kernel⟩
abbrev N_follow : List Str := ["book", "depth", "stand"]
abbrev P_follow : List Str := ["book", "depth", "stand"]
theorem sc_follow : FnScope N_follow P_follow (defScope s_follow) := ⟨rfl, rfl, rfl, by decide +kernel, rfl, by decide +kernel, by decide +kernel⟩
abbrev N_lacked : List Str := ["book", "depth", "stand", "found", "want"]
abbrev P_lacked : List Str := ["book", "depth", "stand"]
theorem sc_lacked : FnScope N_lacked P_lacked (defScope s_lacked) := ⟨rfl, rfl, rfl, by decide +kernel, rfl, by decide +kernel, by decide +kernel⟩
abbrev N_lacks : List Str := ["book", "depth", "stand"]
abbrev P_lacks : List Str := ["book", "depth", "stand"]
theorem sc_lacks : FnScope N_lacks P_lacks (defScope s_lacks) := ⟨rfl, rfl, rfl, by decide +kernel, rfl, by decide +kernel, by decide +kernel⟩
abbrev N_is_far : List Str := ["stand"]
abbrev P_is_far : List Str := ["stand"]
theorem sc_is_far : FnScope N_is_far P_is_far (defScope s_is_far) := ⟨rfl, rfl, rfl, by decide +kernel, rfl, by decide +kernel, by decide +kernel⟩
abbrev N_is_bad : List Str := ["book", "depth", "fault", "stand", "life", "level", "made", "common", "past", "rooted"]
abbrev P_is_bad : List Str := ["book", "depth", "fault", "stand"]
theorem sc_is_bad : FnScope N_is_bad P_is_bad (defScope s_is_bad) := ⟨rfl, rfl, rfl, by decide +kernel, rfl, by decide +kernel, by decide +kernel⟩
abbrev N_is_wrong : List Str := ["book", "depth", "fault", "stand"]
abbrev P_is_wrong : List Str := ["book", "depth", "fault", "stand"]
theorem sc_is_wrong : FnScope N_is_wrong P_is_wrong (defScope s_is_wrong) := ⟨rfl, rfl, rfl, by decide +kernel, rfl, by decide +kernel, by decide +kernel⟩
abbrev N_law_begun : List Str := ["_law_script", "_law_wide", "_law_cell"]
abbrev P_law_begun : List Str := ["_law_script"]
theorem sc_law_begun : FnScope N_law_begun P_law_begun (defScope s_law_begun) := ⟨rfl, rfl, rfl, by decide +kernel, rfl, by decide +kernel, by decide +kernel⟩
abbrev N_law_mixed : List Str := ["_law_draw", "_law_turn", "_law_found", "_law_prime", "_law_blend", "_law_cell"]
abbrev P_law_mixed : List Str := ["_law_draw"]
theorem sc_law_mixed : FnScope N_law_mixed P_law_mixed (defScope s_law_mixed) := ⟨rfl, rfl, rfl, by decide +kernel, rfl, by decide +kernel, by decide +kernel⟩
abbrev N_law_take : List Str := ["_law_draw", "_law_size", "_law_found"]
abbrev P_law_take : List Str := ["_law_draw", "_law_size"]
theorem sc_law_take : FnScope N_law_take P_law_take (defScope s_law_take) := ⟨rfl, rfl, rfl, by decide +kernel, rfl, by decide +kernel, by decide +kernel⟩
abbrev N_law_pick : List Str := ["_law_draw", "_law_some"]
abbrev P_law_pick : List Str := ["_law_draw", "_law_some"]
theorem sc_law_pick : FnScope N_law_pick P_law_pick (defScope s_law_pick) := ⟨rfl, rfl, rfl, by decide +kernel, rfl, by decide +kernel, by decide +kernel⟩
abbrev N_law_shuffled : List Str := ["_law_draw", "_law_some", "_law_left", "_law_found"]
abbrev P_law_shuffled : List Str := ["_law_draw", "_law_some"]
theorem sc_law_shuffled : FnScope N_law_shuffled P_law_shuffled (defScope s_law_shuffled) := ⟨rfl, rfl, rfl, by decide +kernel, rfl, by decide +kernel, by decide +kernel⟩
abbrev N_law_drawn_fields : List Str := ["_law_draw", "_law_found"]
abbrev P_law_drawn_fields : List Str := ["_law_draw"]
theorem sc_law_drawn_fields : FnScope N_law_drawn_fields P_law_drawn_fields (defScope s_law_drawn_fields) := ⟨rfl, rfl, rfl, by decide +kernel, rfl, by decide +kernel, by decide +kernel⟩
abbrev N_law_book : List Str := ["_law_fields", "_law_sets"]
abbrev P_law_book : List Str := ["_law_fields"]
theorem sc_law_book : FnScope N_law_book P_law_book (defScope s_law_book) := ⟨rfl, rfl, rfl, by decide +kernel, rfl, by decide +kernel, by decide +kernel⟩
abbrev N_law_world : List Str := ["_law_fields", "_law_depth", "_law_model"]
abbrev P_law_world : List Str := ["_law_fields", "_law_depth", "_law_model"]
theorem sc_law_world : FnScope N_law_world P_law_world (defScope s_law_world) := ⟨rfl, rfl, rfl, by decide +kernel, rfl, by decide +kernel, by decide +kernel⟩
abbrev N_law_up : List Str := ["_law_world_here", "_law_scope", "_law_level", "_law_found"]
abbrev P_law_up : List Str := ["_law_world_here", "_law_scope", "_law_level"]
theorem sc_law_up : FnScope N_law_up P_law_up (defScope s_law_up) := ⟨rfl, rfl, rfl, by decide +kernel, rfl, by decide +kernel, by decide +kernel⟩
abbrev N_law_spot : List Str := ["_law_world_here", "_law_name", "_law_scope", "_law_life", "_law_level"]
abbrev P_law_spot : List Str := ["_law_world_here", "_law_name", "_law_scope"]
theorem sc_law_spot : FnScope N_law_spot P_law_spot (defScope s_law_spot) := ⟨rfl, rfl, rfl, by decide +kernel, rfl, by decide +kernel, by decide +kernel⟩
abbrev N_law_wanted : List Str := ["_law_world_here", "_law_asker", "_law_wanted_here", "_law_scope", "_law_served", "_law_trail", "_law_found"]
abbrev P_law_wanted : List Str := ["_law_world_here", "_law_asker", "_law_wanted_here", "_law_scope", "_law_served", "_law_trail"]
theorem sc_law_wanted : FnScope N_law_wanted P_law_wanted (defScope s_law_wanted) := ⟨rfl, rfl, rfl, by decide +kernel, rfl, by decide +kernel, by decide +kernel⟩
abbrev N_law_is_use : List Str := ["_law_world_here", "_law_number"]
abbrev P_law_is_use : List Str := ["_law_world_here", "_law_number"]
theorem sc_law_is_use : FnScope N_law_is_use P_law_is_use (defScope s_law_is_use) := ⟨rfl, rfl, rfl, by decide +kernel, rfl, by decide +kernel, by decide +kernel⟩
abbrev N_law_ended : List Str := ["_law_world_here", "_law_number", "_law_got_here"]
abbrev P_law_ended : List Str := ["_law_world_here", "_law_number"]
theorem sc_law_ended : FnScope N_law_ended P_law_ended (defScope s_law_ended) := ⟨rfl, rfl, rfl, by decide +kernel, rfl, by decide +kernel, by decide +kernel⟩
abbrev N_law_closed : List Str := ["_law_world_here", "_law_scope", "_law_number"]
abbrev P_law_closed : List Str := ["_law_world_here", "_law_scope"]
theorem sc_law_closed : FnScope N_law_closed P_law_closed (defScope s_law_closed) := ⟨rfl, rfl, rfl, by decide +kernel, rfl, by decide +kernel, by decide +kernel⟩
abbrev N_law_is_attached : List Str := ["_law_world_here", "_law_number", "_law_holders", "_law_k"]
abbrev P_law_is_attached : List Str := ["_law_world_here", "_law_number"]
theorem sc_law_is_attached : FnScope N_law_is_attached P_law_is_attached (defScope s_law_is_attached) := ⟨rfl, rfl, rfl, by decide +kernel, rfl, by decide +kernel, by decide +kernel⟩
abbrev N_law_done : List Str := ["_law_world_here", "_law_number", "_law_is_left"]
abbrev P_law_done : List Str := ["_law_world_here"]
theorem sc_law_done : FnScope N_law_done P_law_done (defScope s_law_done) := ⟨rfl, rfl, rfl, by decide +kernel, rfl, by decide +kernel, by decide +kernel⟩
abbrev N_law_opened : List Str := ["_law_world_here", "_law_under", "_law_found"]
abbrev P_law_opened : List Str := ["_law_world_here", "_law_under"]
theorem sc_law_opened : FnScope N_law_opened P_law_opened (defScope s_law_opened) := ⟨rfl, rfl, rfl, by decide +kernel, rfl, by decide +kernel, by decide +kernel⟩
abbrev N_law_open_ones : List Str := ["_law_world_here", "_law_scope"]
abbrev P_law_open_ones : List Str := ["_law_world_here"]
theorem sc_law_open_ones : FnScope N_law_open_ones P_law_open_ones (defScope s_law_open_ones) := ⟨rfl, rfl, rfl, by decide +kernel, rfl, by decide +kernel, by decide +kernel⟩
abbrev N_law_requests : List Str := ["_law_world_here", "_law_scope"]
abbrev P_law_requests : List Str := ["_law_world_here"]
theorem sc_law_requests : FnScope N_law_requests P_law_requests (defScope s_law_requests) := ⟨rfl, rfl, rfl, by decide +kernel, rfl, by decide +kernel, by decide +kernel⟩
abbrev N_law_ran : List Str := ["_law_world_here", "_law_work", "_law_request", "_law_name", "_law_found", "_law_fresh", "_law_level", "_law_scope"]
abbrev P_law_ran : List Str := ["_law_world_here", "_law_work"]
theorem sc_law_ran : FnScope N_law_ran P_law_ran (defScope s_law_ran) := ⟨rfl, rfl, rfl, by decide +kernel, rfl, by decide +kernel, by decide +kernel⟩
abbrev N_law_begun_deeds : List Str := ["_law_draw", "_law_depth", "_law_found", "_law_ways", "_law_lap", "_law_way", "_law_number"]
abbrev P_law_begun_deeds : List Str := ["_law_draw", "_law_depth"]
theorem sc_law_begun_deeds : FnScope N_law_begun_deeds P_law_begun_deeds (defScope s_law_begun_deeds) := ⟨rfl, rfl, rfl, by decide +kernel, rfl, by decide +kernel, by decide +kernel⟩
abbrev N_law_there : List Str := ["_law_world_here", "_law_name", "_law_spot_here", "_law_every", "_law_some", "_law_k"]
abbrev P_law_there : List Str := ["_law_world_here", "_law_name", "_law_spot_here"]
theorem sc_law_there : FnScope N_law_there P_law_there (defScope s_law_there) := ⟨rfl, rfl, rfl, by decide +kernel, rfl, by decide +kernel, by decide +kernel⟩
abbrev N_law_got : List Str := ["_law_world_here", "_law_name", "_law_scope", "_law_served", "_law_trail", "_law_is_shut", "_law_spot_here", "_law_there_here"]
abbrev P_law_got : List Str := ["_law_world_here", "_law_name", "_law_scope", "_law_served", "_law_trail"]
theorem sc_law_got : FnScope N_law_got P_law_got (defScope s_law_got) := ⟨rfl, rfl, rfl, by decide +kernel, rfl, by decide +kernel, by decide +kernel⟩
abbrev N_law_answer : List Str := ["_law_world_here", "_law_deed", "_law_found", "_law_got_here"]
abbrev P_law_answer : List Str := ["_law_world_here", "_law_deed"]
theorem sc_law_answer : FnScope N_law_answer P_law_answer (defScope s_law_answer) := ⟨rfl, rfl, rfl, by decide +kernel, rfl, by decide +kernel, by decide +kernel⟩
abbrev N_law_small_parts : List Str := ["_law_draw", "_law_deep", "_law_many", "_law_found", "_law_names", "_law_k", "_law_others", "_law_wants", "_law_name"]
abbrev P_law_small_parts : List Str := ["_law_draw", "_law_deep", "_law_many"]
theorem sc_law_small_parts : FnScope N_law_small_parts P_law_small_parts (defScope s_law_small_parts) := ⟨rfl, rfl, rfl, by decide +kernel, rfl, by decide +kernel, by decide +kernel⟩
abbrev N_law_free_deed : List Str := ["_law_draw", "_law_world_here", "_law_mine", "_law_requests_here", "_law_way", "_law_above", "_law_busy", "_law_free", "_law_word", "_law_one", "_law_work"]
abbrev P_law_free_deed : List Str := ["_law_draw", "_law_world_here"]
theorem sc_law_free_deed : FnScope N_law_free_deed P_law_free_deed (defScope s_law_free_deed) := ⟨rfl, rfl, rfl, by decide +kernel, rfl, by decide +kernel, by decide +kernel⟩
abbrev N_law_new : List Str := ["_law_world_here", "_law_name", "_law_home", "_law_served", "_law_trail", "_law_number", "_law_own", "_law_start", "_law_got_here", "_law_way", "_law_wanted_here"]
abbrev P_law_new : List Str := ["_law_world_here", "_law_name", "_law_home", "_law_served", "_law_trail"]
theorem sc_law_new : FnScope N_law_new P_law_new (defScope s_law_new) := ⟨rfl, rfl, rfl, by decide +kernel, rfl, by decide +kernel, by decide +kernel⟩
abbrev N_law_stand_of : List Str := ["_law_world_here", "_law_number", "_law_served", "_law_own", "_law_life", "_law_level", "_law_rooted", "_law_near", "_law_rest", "_law_k"]
abbrev P_law_stand_of : List Str := ["_law_world_here", "_law_number", "_law_served"]
theorem sc_law_stand_of : FnScope N_law_stand_of P_law_stand_of (defScope s_law_stand_of) := ⟨rfl, rfl, rfl, by decide +kernel, rfl, by decide +kernel, by decide +kernel⟩
abbrev N_law_seen : List Str := ["_law_world_here", "_law_number", "_law_served", "_law_noted", "_law_stand_now", "_law_word", "_law_mine", "_law_deep", "_law_is_held_on"]
abbrev P_law_seen : List Str := ["_law_world_here", "_law_number", "_law_served", "_law_noted"]
theorem sc_law_seen : FnScope N_law_seen P_law_seen (defScope s_law_seen) := ⟨rfl, rfl, rfl, by decide +kernel, rfl, by decide +kernel, by decide +kernel⟩
abbrev N_law_used : List Str := ["_law_world_here", "_law_number", "_law_served", "_law_trail", "_law_own", "_law_life", "_law_wants", "_law_noted", "_law_here", "_law_at", "_law_way", "_law_wanted_here", "_law_got_here", "_law_start"]
abbrev P_law_used : List Str := ["_law_world_here", "_law_number", "_law_served", "_law_trail"]
theorem sc_law_used : FnScope N_law_used P_law_used (defScope s_law_used) := ⟨rfl, rfl, rfl, by decide +kernel, rfl, by decide +kernel, by decide +kernel⟩
abbrev N_law_lack_right : List Str := ["_law_world_here", "_law_here"]
abbrev P_law_lack_right : List Str := ["_law_world_here", "_law_here"]
theorem sc_law_lack_right : FnScope N_law_lack_right P_law_lack_right (defScope s_law_lack_right) := ⟨rfl, rfl, rfl, by decide +kernel, rfl, by decide +kernel, by decide +kernel⟩
abbrev N_law_led_right : List Str := ["_law_world_here", "_law_here", "_law_trail", "_law_ahead"]
abbrev P_law_led_right : List Str := ["_law_world_here", "_law_here", "_law_trail"]
theorem sc_law_led_right : FnScope N_law_led_right P_law_led_right (defScope s_law_led_right) := ⟨rfl, rfl, rfl, by decide +kernel, rfl, by decide +kernel, by decide +kernel⟩
abbrev N_law : List Str := ["_law_script", "_law_draw", "_law_turn", "_law_fields", "_law_deep", "_law_world_here", "_law_deeds", "_law_lap"]
abbrev P_law : List Str := ["_law_script"]
theorem sc_law : FnScope N_law P_law (defScope s_law) := ⟨rfl, rfl, rfl, by decide +kernel, rfl, by decide +kernel, by decide +kernel⟩
abbrev N_Book_init : List Str := ["self", "held", "each", "lifted", "ends", "works", "bars"]
abbrev P_Book_init : List Str := ["self", "held", "each", "lifted", "ends", "works", "bars"]
theorem sc_Book_init : FnScope N_Book_init P_Book_init (defScope s_Book_init) := ⟨rfl, rfl, rfl, by decide +kernel, rfl, by decide +kernel, by decide +kernel⟩
abbrev N_Book_held : List Str := ["self"]
abbrev P_Book_held : List Str := ["self"]
theorem sc_Book_held : FnScope N_Book_held P_Book_held (defScope s_Book_held) := ⟨rfl, rfl, rfl, by decide +kernel, rfl, by decide +kernel, by decide +kernel⟩
abbrev N_Book_each : List Str := ["self"]
abbrev P_Book_each : List Str := ["self"]
theorem sc_Book_each : FnScope N_Book_each P_Book_each (defScope s_Book_each) := ⟨rfl, rfl, rfl, by decide +kernel, rfl, by decide +kernel, by decide +kernel⟩
abbrev N_Book_lifted : List Str := ["self"]
abbrev P_Book_lifted : List Str := ["self"]
theorem sc_Book_lifted : FnScope N_Book_lifted P_Book_lifted (defScope s_Book_lifted) := ⟨rfl, rfl, rfl, by decide +kernel, rfl, by decide +kernel, by decide +kernel⟩
abbrev N_Book_ends : List Str := ["self"]
abbrev P_Book_ends : List Str := ["self"]
theorem sc_Book_ends : FnScope N_Book_ends P_Book_ends (defScope s_Book_ends) := ⟨rfl, rfl, rfl, by decide +kernel, rfl, by decide +kernel, by decide +kernel⟩
abbrev N_Book_bars : List Str := ["self"]
abbrev P_Book_bars : List Str := ["self"]
theorem sc_Book_bars : FnScope N_Book_bars P_Book_bars (defScope s_Book_bars) := ⟨rfl, rfl, rfl, by decide +kernel, rfl, by decide +kernel, by decide +kernel⟩

/-! ### facts of the top -/
structure Txt (K : PySem.W.Frag) (mg : Str → Option Value) : Prop where
  b_isinstance : mg "isinstance" = none
  b_all : mg "all" = none
  b_len : mg "len" = none
  b_set : mg "set" = none
  b_tuple : mg "tuple" = none
  b_sorted : mg "sorted" = none
  b_min : mg "min" = none
  b_max : mg "max" = none
  b_range : mg "range" = none
  b_abs : mg "abs" = none
  b_int : mg "int" = none
  b_list : mg "list" = none
  b_str : mg "str" = none
  b_bool : mg "bool" = none
  b_dict : mg "dict" = none
  cUSE : ∃ t, mg "USE" = some (.int (-1) t)
  cMOST : ∃ t, mg "MOST_DEPTH" = some (.int 3 t)
  cOWN : ∃ t, mg "OWN" = some (.str "own" t)
  cOTHER : ∃ t, mg "OTHER" = some (.str "other" t)
  cBARS : mg "BARS" = some (.ref (He.ga K "BARS"))
  tBARS : ∀ H, SqT K H (He.ga K "BARS") [.str "each-shorter", .str "each-use", .str "held-shorter", .str "held-use", .str "use-each", .str "use-held"]
  cFAULTS : mg "FAULTS" = some (.ref (He.ga K "FAULTS"))
  tFAULTS : ∀ H, SqT K H (He.ga K "FAULTS") [.str "ended", .str "left", .str "missing", .str "strayed"]
  cHELD : mg "HELD" = some (.ref (He.ga K "HELD"))
  tHELD : ∀ H, SqT K H (He.ga K "HELD") [.str "home", .str "now"]
  cEACH : mg "EACH" = some (.ref (He.ga K "EACH"))
  tEACH : ∀ H, SqT K H (He.ga K "EACH") [.str "now", .str "program"]
  cLIFTED : mg "LIFTED" = some (.ref (He.ga K "LIFTED"))
  tLIFTED : ∀ H, SqT K H (He.ga K "LIFTED") [.str "nothing", .str "kept"]
  cENDS : mg "ENDS" = some (.ref (He.ga K "ENDS"))
  tENDS : ∀ H, SqT K H (He.ga K "ENDS") [.str "holder", .str "never", .str "scope"]
  cWORKS : mg "WORKS" = some (.ref (He.ga K "WORKS"))
  tWORKS : ∀ H, SqT K H (He.ga K "WORKS") [.str "own", .str "same", .str "wait"]
  cWAYS : mg "WAYS" = some (.ref (He.ga K "WAYS"))
  tWAYS : ∀ H, SqT K H (He.ga K "WAYS") [.str "each", .str "held"]
  cBook : mg "Book" = some (.ref (He.ga K "Book"))
  ic : C8.InsC K (He.ga K "Book")
  cl : Cls K (He.ga K "Book")
  mkB : Mk K (He.ga K "Book") (He.ma K (He.ga K "Book") "__init__")
  na_held : NoAttr K (He.ga K "Book") "b_held"
  na_each : NoAttr K (He.ga K "Book") "b_each"
  na_lifted : NoAttr K (He.ga K "Book") "b_lifted"
  na_ends : NoAttr K (He.ga K "Book") "b_ends"
  na_works : NoAttr K (He.ga K "Book") "b_works"
  na_bars : NoAttr K (He.ga K "Book") "b_bars"
  pr_held : ∃ p g fd, PropOf K (He.ga K "Book") "held" p g ∧ FunD K "held" "Book.held" (defArgs s_Book_held) (defBody s_Book_held) (defScope s_Book_held) [] [] g fd
  pr_each : ∃ p g fd, PropOf K (He.ga K "Book") "each" p g ∧ FunD K "each" "Book.each" (defArgs s_Book_each) (defBody s_Book_each) (defScope s_Book_each) [] [] g fd
  pr_lifted : ∃ p g fd, PropOf K (He.ga K "Book") "lifted" p g ∧ FunD K "lifted" "Book.lifted" (defArgs s_Book_lifted) (defBody s_Book_lifted) (defScope s_Book_lifted) [] [] g fd
  pr_ends : ∃ p g fd, PropOf K (He.ga K "Book") "ends" p g ∧ FunD K "ends" "Book.ends" (defArgs s_Book_ends) (defBody s_Book_ends) (defScope s_Book_ends) [] [] g fd
  pr_bars : ∃ p g fd, PropOf K (He.ga K "Book") "bars" p g ∧ FunD K "bars" "Book.bars" (defArgs s_Book_bars) (defBody s_Book_bars) (defScope s_Book_bars) [] [] g fd
  fBook_init : ∃ fd, FunD K "__init__" "Book.__init__" (defArgs s_Book_init) (defBody s_Book_init) (defScope s_Book_init) [] [("held", .str "home")] (He.ma K (He.ga K "Book") "__init__") fd
  f_is_one_of : mg "is_one_of" = some (.ref (He.ga K "is_one_of")) ∧ ∃ fd, FunD K "is_one_of" "is_one_of" (defArgs s_is_one_of) (defBody s_is_one_of) (defScope s_is_one_of) [] [] (He.ga K "is_one_of") fd
  f_are_bars : mg "are_bars" = some (.ref (He.ga K "are_bars")) ∧ ∃ fd, FunD K "are_bars" "are_bars" (defArgs s_are_bars) (defBody s_are_bars) (defScope s_are_bars) [] [] (He.ga K "are_bars") fd
  f_need_field : mg "need_field" = some (.ref (He.ga K "need_field")) ∧ ∃ fd, FunD K "need_field" "need_field" (defArgs s_need_field) (defBody s_need_field) (defScope s_need_field) [] [] (He.ga K "need_field") fd
  f_need_book : mg "need_book" = some (.ref (He.ga K "need_book")) ∧ ∃ fd, FunD K "need_book" "need_book" (defArgs s_need_book) (defBody s_need_book) (defScope s_need_book) [] [] (He.ga K "need_book") fd
  f_is_number : mg "is_number" = some (.ref (He.ga K "is_number")) ∧ ∃ fd, FunD K "is_number" "is_number" (defArgs s_is_number) (defBody s_is_number) (defScope s_is_number) [] [] (He.ga K "is_number") fd
  f_bar_of : mg "bar_of" = some (.ref (He.ga K "bar_of")) ∧ ∃ fd, FunD K "bar_of" "bar_of" (defArgs s_bar_of) (defBody s_bar_of) (defScope s_bar_of) [] [] (He.ga K "bar_of") fd
  f_need_depth : mg "need_depth" = some (.ref (He.ga K "need_depth")) ∧ ∃ fd, FunD K "need_depth" "need_depth" (defArgs s_need_depth) (defBody s_need_depth) (defScope s_need_depth) [] [] (He.ga K "need_depth") fd
  f_need_fault : mg "need_fault" = some (.ref (He.ga K "need_fault")) ∧ ∃ fd, FunD K "need_fault" "need_fault" (defArgs s_need_fault) (defBody s_need_fault) (defScope s_need_fault) [] [] (He.ga K "need_fault") fd
  f_is_form : mg "is_form" = some (.ref (He.ga K "is_form")) ∧ ∃ fd, FunD K "is_form" "is_form" (defArgs s_is_form) (defBody s_is_form) (defScope s_is_form) [] [] (He.ga K "is_form") fd
  f_need_stand : mg "need_stand" = some (.ref (He.ga K "need_stand")) ∧ ∃ fd, FunD K "need_stand" "need_stand" (defArgs s_need_stand) (defBody s_need_stand) (defScope s_need_stand) [] [] (He.ga K "need_stand") fd
  f_kept_in_common : mg "kept_in_common" = some (.ref (He.ga K "kept_in_common")) ∧ ∃ fd, FunD K "kept_in_common" "kept_in_common" (defArgs s_kept_in_common) (defBody s_kept_in_common) (defScope s_kept_in_common) [] [] (He.ga K "kept_in_common") fd
  f_all_begun : mg "all_begun" = some (.ref (He.ga K "all_begun")) ∧ ∃ fd, FunD K "all_begun" "all_begun" (defArgs s_all_begun) (defBody s_all_begun) (defScope s_all_begun) [] [] (He.ga K "all_begun") fd
  f_begun : mg "begun" = some (.ref (He.ga K "begun")) ∧ ∃ fd, FunD K "begun" "begun" (defArgs s_begun) (defBody s_begun) (defScope s_begun) [] [] (He.ga K "begun") fd
  f_wants_of : mg "wants_of" = some (.ref (He.ga K "wants_of")) ∧ ∃ fd, FunD K "wants_of" "wants_of" (defArgs s_wants_of) (defBody s_wants_of) (defScope s_wants_of) [] [] (He.ga K "wants_of") fd
  f_asked_from : mg "asked_from" = some (.ref (He.ga K "asked_from")) ∧ ∃ fd, FunD K "asked_from" "asked_from" (defArgs s_asked_from) (defBody s_asked_from) (defScope s_asked_from) [] [] (He.ga K "asked_from") fd
  f_led_to : mg "led_to" = some (.ref (He.ga K "led_to")) ∧ ∃ fd, FunD K "led_to" "led_to" (defArgs s_led_to) (defBody s_led_to) (defScope s_led_to) [] [] (He.ga K "led_to") fd
  f_followers : mg "followers" = some (.ref (He.ga K "followers")) ∧ ∃ fd, FunD K "followers" "followers" (defArgs s_followers) (defBody s_followers) (defScope s_followers) [] [] (He.ga K "followers") fd
  f_follow : mg "follow" = some (.ref (He.ga K "follow")) ∧ ∃ fd, FunD K "follow" "follow" (defArgs s_follow) (defBody s_follow) (defScope s_follow) [] [] (He.ga K "follow") fd
  f_lacked : mg "lacked" = some (.ref (He.ga K "lacked")) ∧ ∃ fd, FunD K "lacked" "lacked" (defArgs s_lacked) (defBody s_lacked) (defScope s_lacked) [] [] (He.ga K "lacked") fd
  f_lacks : mg "lacks" = some (.ref (He.ga K "lacks")) ∧ ∃ fd, FunD K "lacks" "lacks" (defArgs s_lacks) (defBody s_lacks) (defScope s_lacks) [] [] (He.ga K "lacks") fd
  f_is_far : mg "is_far" = some (.ref (He.ga K "is_far")) ∧ ∃ fd, FunD K "is_far" "is_far" (defArgs s_is_far) (defBody s_is_far) (defScope s_is_far) [] [] (He.ga K "is_far") fd
  f_is_bad : mg "is_bad" = some (.ref (He.ga K "is_bad")) ∧ ∃ fd, FunD K "is_bad" "is_bad" (defArgs s_is_bad) (defBody s_is_bad) (defScope s_is_bad) [] [] (He.ga K "is_bad") fd
  f_is_wrong : mg "is_wrong" = some (.ref (He.ga K "is_wrong")) ∧ ∃ fd, FunD K "is_wrong" "is_wrong" (defArgs s_is_wrong) (defBody s_is_wrong) (defScope s_is_wrong) [] [] (He.ga K "is_wrong") fd
  f_law_begun : mg "_law_begun" = some (.ref (He.ga K "_law_begun")) ∧ ∃ fd, FunD K "_law_begun" "_law_begun" (defArgs s_law_begun) (defBody s_law_begun) (defScope s_law_begun) [] [] (He.ga K "_law_begun") fd
  f_law_mixed : mg "_law_mixed" = some (.ref (He.ga K "_law_mixed")) ∧ ∃ fd, FunD K "_law_mixed" "_law_mixed" (defArgs s_law_mixed) (defBody s_law_mixed) (defScope s_law_mixed) [] [] (He.ga K "_law_mixed") fd
  f_law_take : mg "_law_take" = some (.ref (He.ga K "_law_take")) ∧ ∃ fd, FunD K "_law_take" "_law_take" (defArgs s_law_take) (defBody s_law_take) (defScope s_law_take) [] [] (He.ga K "_law_take") fd
  f_law_pick : mg "_law_pick" = some (.ref (He.ga K "_law_pick")) ∧ ∃ fd, FunD K "_law_pick" "_law_pick" (defArgs s_law_pick) (defBody s_law_pick) (defScope s_law_pick) [] [] (He.ga K "_law_pick") fd
  f_law_shuffled : mg "_law_shuffled" = some (.ref (He.ga K "_law_shuffled")) ∧ ∃ fd, FunD K "_law_shuffled" "_law_shuffled" (defArgs s_law_shuffled) (defBody s_law_shuffled) (defScope s_law_shuffled) [] [] (He.ga K "_law_shuffled") fd
  f_law_drawn_fields : mg "_law_drawn_fields" = some (.ref (He.ga K "_law_drawn_fields")) ∧ ∃ fd, FunD K "_law_drawn_fields" "_law_drawn_fields" (defArgs s_law_drawn_fields) (defBody s_law_drawn_fields) (defScope s_law_drawn_fields) [] [] (He.ga K "_law_drawn_fields") fd
  f_law_book : mg "_law_book" = some (.ref (He.ga K "_law_book")) ∧ ∃ fd, FunD K "_law_book" "_law_book" (defArgs s_law_book) (defBody s_law_book) (defScope s_law_book) [] [] (He.ga K "_law_book") fd
  f_law_world : mg "_law_world" = some (.ref (He.ga K "_law_world")) ∧ ∃ fd, FunD K "_law_world" "_law_world" (defArgs s_law_world) (defBody s_law_world) (defScope s_law_world) [] [] (He.ga K "_law_world") fd
  f_law_up : mg "_law_up" = some (.ref (He.ga K "_law_up")) ∧ ∃ fd, FunD K "_law_up" "_law_up" (defArgs s_law_up) (defBody s_law_up) (defScope s_law_up) [] [] (He.ga K "_law_up") fd
  f_law_spot : mg "_law_spot" = some (.ref (He.ga K "_law_spot")) ∧ ∃ fd, FunD K "_law_spot" "_law_spot" (defArgs s_law_spot) (defBody s_law_spot) (defScope s_law_spot) [] [] (He.ga K "_law_spot") fd
  f_law_wanted : mg "_law_wanted" = some (.ref (He.ga K "_law_wanted")) ∧ ∃ fd, FunD K "_law_wanted" "_law_wanted" (defArgs s_law_wanted) (defBody s_law_wanted) (defScope s_law_wanted) [] [] (He.ga K "_law_wanted") fd
  f_law_is_use : mg "_law_is_use" = some (.ref (He.ga K "_law_is_use")) ∧ ∃ fd, FunD K "_law_is_use" "_law_is_use" (defArgs s_law_is_use) (defBody s_law_is_use) (defScope s_law_is_use) [] [] (He.ga K "_law_is_use") fd
  f_law_ended : mg "_law_ended" = some (.ref (He.ga K "_law_ended")) ∧ ∃ fd, FunD K "_law_ended" "_law_ended" (defArgs s_law_ended) (defBody s_law_ended) (defScope s_law_ended) [] [] (He.ga K "_law_ended") fd
  f_law_closed : mg "_law_closed" = some (.ref (He.ga K "_law_closed")) ∧ ∃ fd, FunD K "_law_closed" "_law_closed" (defArgs s_law_closed) (defBody s_law_closed) (defScope s_law_closed) [] [] (He.ga K "_law_closed") fd
  f_law_is_attached : mg "_law_is_attached" = some (.ref (He.ga K "_law_is_attached")) ∧ ∃ fd, FunD K "_law_is_attached" "_law_is_attached" (defArgs s_law_is_attached) (defBody s_law_is_attached) (defScope s_law_is_attached) [] [] (He.ga K "_law_is_attached") fd
  f_law_done : mg "_law_done" = some (.ref (He.ga K "_law_done")) ∧ ∃ fd, FunD K "_law_done" "_law_done" (defArgs s_law_done) (defBody s_law_done) (defScope s_law_done) [] [] (He.ga K "_law_done") fd
  f_law_opened : mg "_law_opened" = some (.ref (He.ga K "_law_opened")) ∧ ∃ fd, FunD K "_law_opened" "_law_opened" (defArgs s_law_opened) (defBody s_law_opened) (defScope s_law_opened) [] [] (He.ga K "_law_opened") fd
  f_law_open_ones : mg "_law_open_ones" = some (.ref (He.ga K "_law_open_ones")) ∧ ∃ fd, FunD K "_law_open_ones" "_law_open_ones" (defArgs s_law_open_ones) (defBody s_law_open_ones) (defScope s_law_open_ones) [] [] (He.ga K "_law_open_ones") fd
  f_law_requests : mg "_law_requests" = some (.ref (He.ga K "_law_requests")) ∧ ∃ fd, FunD K "_law_requests" "_law_requests" (defArgs s_law_requests) (defBody s_law_requests) (defScope s_law_requests) [] [] (He.ga K "_law_requests") fd
  f_law_ran : mg "_law_ran" = some (.ref (He.ga K "_law_ran")) ∧ ∃ fd, FunD K "_law_ran" "_law_ran" (defArgs s_law_ran) (defBody s_law_ran) (defScope s_law_ran) [] [] (He.ga K "_law_ran") fd
  f_law_begun_deeds : mg "_law_begun_deeds" = some (.ref (He.ga K "_law_begun_deeds")) ∧ ∃ fd, FunD K "_law_begun_deeds" "_law_begun_deeds" (defArgs s_law_begun_deeds) (defBody s_law_begun_deeds) (defScope s_law_begun_deeds) [] [] (He.ga K "_law_begun_deeds") fd
  f_law_there : mg "_law_there" = some (.ref (He.ga K "_law_there")) ∧ ∃ fd, FunD K "_law_there" "_law_there" (defArgs s_law_there) (defBody s_law_there) (defScope s_law_there) [] [] (He.ga K "_law_there") fd
  f_law_got : mg "_law_got" = some (.ref (He.ga K "_law_got")) ∧ ∃ fd, FunD K "_law_got" "_law_got" (defArgs s_law_got) (defBody s_law_got) (defScope s_law_got) [] [] (He.ga K "_law_got") fd
  f_law_answer : mg "_law_answer" = some (.ref (He.ga K "_law_answer")) ∧ ∃ fd, FunD K "_law_answer" "_law_answer" (defArgs s_law_answer) (defBody s_law_answer) (defScope s_law_answer) [] [] (He.ga K "_law_answer") fd
  f_law_small_parts : mg "_law_small_parts" = some (.ref (He.ga K "_law_small_parts")) ∧ ∃ fd, FunD K "_law_small_parts" "_law_small_parts" (defArgs s_law_small_parts) (defBody s_law_small_parts) (defScope s_law_small_parts) [] [] (He.ga K "_law_small_parts") fd
  f_law_free_deed : mg "_law_free_deed" = some (.ref (He.ga K "_law_free_deed")) ∧ ∃ fd, FunD K "_law_free_deed" "_law_free_deed" (defArgs s_law_free_deed) (defBody s_law_free_deed) (defScope s_law_free_deed) [] [] (He.ga K "_law_free_deed") fd
  f_law_new : mg "_law_new" = some (.ref (He.ga K "_law_new")) ∧ ∃ fd, FunD K "_law_new" "_law_new" (defArgs s_law_new) (defBody s_law_new) (defScope s_law_new) [] [] (He.ga K "_law_new") fd
  f_law_stand_of : mg "_law_stand_of" = some (.ref (He.ga K "_law_stand_of")) ∧ ∃ fd, FunD K "_law_stand_of" "_law_stand_of" (defArgs s_law_stand_of) (defBody s_law_stand_of) (defScope s_law_stand_of) [] [] (He.ga K "_law_stand_of") fd
  f_law_seen : mg "_law_seen" = some (.ref (He.ga K "_law_seen")) ∧ ∃ fd, FunD K "_law_seen" "_law_seen" (defArgs s_law_seen) (defBody s_law_seen) (defScope s_law_seen) [] [] (He.ga K "_law_seen") fd
  f_law_used : mg "_law_used" = some (.ref (He.ga K "_law_used")) ∧ ∃ fd, FunD K "_law_used" "_law_used" (defArgs s_law_used) (defBody s_law_used) (defScope s_law_used) [] [] (He.ga K "_law_used") fd
  f_law_lack_right : mg "_law_lack_right" = some (.ref (He.ga K "_law_lack_right")) ∧ ∃ fd, FunD K "_law_lack_right" "_law_lack_right" (defArgs s_law_lack_right) (defBody s_law_lack_right) (defScope s_law_lack_right) [] [] (He.ga K "_law_lack_right") fd
  f_law_led_right : mg "_law_led_right" = some (.ref (He.ga K "_law_led_right")) ∧ ∃ fd, FunD K "_law_led_right" "_law_led_right" (defArgs s_law_led_right) (defBody s_law_led_right) (defScope s_law_led_right) [] [] (He.ga K "_law_led_right") fd
  f_law : mg "law" = some (.ref (He.ga K "law")) ∧ ∃ fd, FunD K "law" "law" (defArgs s_law) (defBody s_law) (defScope s_law) [] [] (He.ga K "law") fd

/-! ### a def by its promise -/
structure OKF (P : Program) (w : World) (K : PySem.W.Frag) (mg : Str → Option Value) (base : Heap) (k : Nat) (x : Str) (ps : List Str) (sp : Sp) : Prop where
  ex : ∃ fd, FnOk P w K mg base CX0 k (He.ga K x) fd ps sp ∧ Binds K fd ps []
  kp : PySem.W.keepIn K (.ref (He.ga K x)) = true
  gl : mg x = some (.ref (He.ga K x))
section
variable {X : Cx} {k : Nat} {x : Str} {ps : List Str} {sp : Sp} {e : Expr} {es : List Expr} {t : TA} {p pos : Pos}
theorem pe_callO (G : OKF X.prog X.w X.K X.mg X.base k x ps sp) (hr : Room k X.A) (hg : Gl X x) (ha : PA X (e :: es) t) (hdb : (x == ("__debug__" : Str)) = false := by decide)
    (he : starEach (e :: es) X.env = (false, eval e X.env) :: starEach es X.env := by rfl) (hpl : (backTo pos (starEach es X.env)).any (·.1) = false := by rfl) : PE X (.Call (.Name x p) (e :: es) [] pos) (tCall sp [] E0 t) := by
  obtain ⟨fd, F, b⟩ := G.ex
  exact pe_call F hr hg G.gl G.kp b .nil pass0 ha hdb he hpl
end
section
variable {P : Program} {w : World} {K : PySem.W.Frag} {mg : Str → Option Value} {base : Heap}
/-- a def's promise by its body -/
theorem okf {x : Str} {st : Stmt} {N ps : List Str} {k : Nat} {sp : Sp} (h : mg x = some (.ref (He.ga K x)) ∧ ∃ fd, FunD K x x (defArgs st) (defBody st) (defScope st) [] [] (He.ga K x) fd) (S : FnScope N ps (defScope st))
    (hb : ∀ (kV doc pm : Value) (an : Option Addr) (cdv ct : Value) (us : List Value), us.length = ps.length → bindArgs (PySem.W.fnOf x x (defArgs st) (defBody st) (defScope st) .none kV doc pm an cdv ct) ⟨us, []⟩ = pure (ps.zip us))
    (len : ∀ vs H Q E, sp vs H Q E → vs.length = ps.length)
    (hbody : ∀ (cdv : Value) (A : Around) (outer : List Env) (s : Shared) (H : Hp) (vs : List V) (Q : VK) (E : XK), Room k (A.deeper (envOfC x (defScope st) s.heap.objs.size (He.ga K x) cdv)) → sp vs H Q E →
      ∃ t, PSs (cxOf CX0 P w K mg base N x (defScope st) (He.ga K x) cdv A outer s H E).nox (defBody st) t ∧ t { nx := fun _ H' => Q .non H', rt := Q } (start N vs) H) : OKF P w K mg base (k + 1) x ps sp := by
  obtain ⟨g, fd, F⟩ := h
  exact ⟨⟨fd, F.ok S len fun cdv A outer s H vs Q E hr hs => let ⟨t, q, r⟩ := hbody cdv A outer s H vs Q E hr hs; ⟨t, q.nox, r⟩, F.bindsN hb⟩, F.kp, g⟩
theorem OKF.mono {j k : Nat} {x : Str} {ps : List Str} {sp : Sp} (G : OKF P w K mg base j x ps sp) (h : j ≤ k) : OKF P w K mg base k x ps sp := by
  obtain ⟨⟨fd, F, b⟩, kp, g⟩ := G
  exact ⟨⟨fd, F.mono h, b⟩, kp, g⟩
theorem OKF.imp {k : Nat} {x : Str} {ps : List Str} {sp sp' : Sp} (G : OKF P w K mg base k x ps sp) (h : ∀ vs H Q E, sp' vs H Q E → sp vs H Q E) : OKF P w K mg base k x ps sp' := by
  obtain ⟨⟨fd, F, b⟩, kp, g⟩ := G
  exact ⟨⟨fd, F.imp h, b⟩, kp, g⟩
end
/-! ### constants of the module -/
section
variable {X : Cx} {x : Str} {pos : Pos}
theorem pe_gInt {i : Int} (hg : Gl X x) (h : ∃ t, X.mg x = some (.int i t)) (hd : (x == ("__debug__" : Str)) = false := by decide) : PE X (.Name x pos) (tC (.int i)) := by
  obtain ⟨t, h⟩ := h
  exact pe_glob hg h ⟨t, rfl⟩ hd
theorem pe_gStr {z : Str} (hg : Gl X x) (h : ∃ t, X.mg x = some (.str z t)) (hd : (x == ("__debug__" : Str)) = false := by decide) : PE X (.Name x pos) (tC (.str z)) := by
  obtain ⟨t, h⟩ := h
  exact pe_glob hg h ⟨t, rfl⟩ hd
theorem pe_gRef {a : Addr} (hg : Gl X x) (h : X.mg x = some (.ref a)) (hd : (x == ("__debug__" : Str)) = false := by decide) : PE X (.Name x pos) (tC (.ref a)) := pe_glob hg h rfl hd
end
theorem hu65 {A : Around} {k : Nat} (hr : Room (k + 1) A) : A.units + 65 < cLine := by
  have := hr.un
  omega
end HL

set_option Elab.async false
set_option linter.all false
set_option maxRecDepth 100000
set_option maxHeartbeats 4000000
/-! R1: stands as tuples; lists and dicts of them sorted -/
namespace HL
open PySem PySem.Spec PyProof.Rows L2
structure Stand where
  life : Int
  level : Int
  own : Bool
  common : Int
  past : Bool
  rooted : Bool
deriving DecidableEq
def madeS (b : Bool) : Str := if b then "own" else "other"
def stV (S : Stand) : List V := [.int S.life, .int S.level, .str (madeS S.own), .int S.common, .bl S.past, .bl S.rooted]
theorem madeS_inj {a b : Bool} (h : madeS a = madeS b) : a = b := by
  have k : ¬ madeS true = madeS false := by decide +kernel
  cases a <;> cases b <;> first | rfl | exact absurd h k | exact absurd h.symm k
theorem stV_inj {S T : Stand} (h : stV S = stV T) : S = T := by
  obtain ⟨a, b, c, d, e, f⟩ := S
  obtain ⟨a', b', c', d', e', f'⟩ := T
  simp only [stV, List.cons.injEq, V.int.injEq, V.str.injEq, V.bl.injEq] at h
  obtain ⟨h1, h2, h3, h4, h5, h6, _⟩ := h
  have := madeS_inj h3
  subst h1 h2 h4 h5 h6 this
  rfl
/-- the value is a tuple of a stand -/
def IsSt (h : Heap) (v : Value) (S : Stand) : Prop := ∃ a o x1 x2 x3 x4 n t1 t2 t3 t4, v = .ref a ∧ h.get? a = some o ∧ o.cls = .type "tuple" ∧ o.data = .seq #[x1, x2, x3, x4, .bool S.past, .bool S.rooted] n ∧
  x1 = .int S.life t1 ∧ x2 = .int S.level t2 ∧ x3 = .str (madeS S.own) t3 ∧ x4 = .int S.common t4
theorem IsSt.keeps {h h' : Heap} {v : Value} {S : Stand} (x : IsSt h v S) (k : ∀ b o, h.get? b = some o → o.cls = .type "tuple" → h'.get? b = some o) : IsSt h' v S := by
  obtain ⟨a, o, x1, x2, x3, x4, n, t1, t2, t3, t4, e, ho, hc, r⟩ := x
  exact ⟨a, o, x1, x2, x3, x4, n, t1, t2, t3, t4, e, k _ _ ho hc, hc, r⟩
theorem IsSt.inj {h : Heap} {v : Value} {S T : Stand} (x : IsSt h v S) (y : IsSt h v T) : S = T := by
  obtain ⟨a, o, x1, x2, x3, x4, n, t1, t2, t3, t4, e, ho, hc, hd, e1, e2, e3, e4⟩ := x
  obtain ⟨a', o', y1, y2, y3, y4, n', u1, u2, u3, u4, e', ho', hc', hd', f1, f2, f3, f4⟩ := y
  rw [e] at e'
  cases e'
  rw [ho] at ho'
  cases ho'
  rw [hd] at hd'
  injection hd' with q _
  have q2 := congrArg Array.toList q
  simp only [List.cons.injEq, e1, e2, e3, e4, f1, f2, f3, f4, Value.int.injEq, Value.str.injEq, Value.bool.injEq] at q2
  obtain ⟨⟨h1, _⟩, ⟨h2, _⟩, ⟨h3, _⟩, ⟨h4, _⟩, h5, h6, _⟩ := q2
  exact stV_inj (by simp [stV, h1, h2, h3, h4, h5, h6])
theorem isSt_of {P : Program} {w : World} {H : Hp} {h : Heap} {a : Addr} {S : Stand} (ok : HOk P w H h) (e : H a = some (.tup (stV S))) : IsSt h (.ref a) S := by
  obtain ⟨_, its, rv, o, ho, hc, n, hd⟩ := ok a _ e
  cases rv with
  | cons r1 rv => cases rv with
    | cons r2 rv => cases rv with
      | cons r3 rv => cases rv with
        | cons r4 rv => cases rv with
          | cons r5 rv => cases rv with
            | cons r6 rv =>
              cases rv
              obtain ⟨t1, rfl⟩ := r1
              obtain ⟨t2, rfl⟩ := r2
              obtain ⟨t3, rfl⟩ := r3
              obtain ⟨t4, rfl⟩ := r4
              cases r5
              cases r6
              exact ⟨a, o, _, _, _, _, n, t1, t2, t3, t4, rfl, ho, hc, hd, rfl, rfl, rfl, rfl⟩
/-! ### the order -/
def ltI (a b : Int) (r : Bool) : Bool := if a = b then r else decide (a < b)
def ltS (S T : Stand) : Bool := ltI S.life T.life (ltI S.level T.level (ltI (b2i S.own) (b2i T.own) (ltI S.common T.common (ltI (b2i S.past) (b2i T.past) (ltI (b2i S.rooted) (b2i T.rooted) false)))))
theorem ltI_iff {a b : Int} {r : Bool} : ltI a b r = true ↔ a < b ∨ (a = b ∧ r = true) := by
  unfold ltI
  by_cases e : a = b
  · rw [if_pos e]
    constructor
    · exact fun h => .inr ⟨e, h⟩
    · rintro (h | h)
      · omega
      · exact h.2
  · rw [if_neg e, decide_eq_true_eq]
    constructor
    · exact fun h => .inl h
    · rintro (h | h)
      · exact h
      · exact absurd h.1 e
theorem ltI_no {a b : Int} {r : Bool} : ltI a b r = false ↔ b < a ∨ (a = b ∧ r = false) := by
  unfold ltI
  by_cases e : a = b
  · rw [if_pos e]
    constructor
    · exact fun h => .inr ⟨e, h⟩
    · rintro (h | h)
      · omega
      · exact h.2
  · rw [if_neg e, decide_eq_false_iff_not]
    constructor
    · exact fun h => .inl (by omega)
    · rintro (h | h)
      · omega
      · exact absurd h.1 e
theorem ltS_asym {S T : Stand} (h : ltS S T = true) : ltS T S = false := by
  unfold ltS at *
  simp only [ltI_iff, ltI_no, Bool.false_eq_true, and_false, or_false, and_true] at *
  omega
theorem ltS_tr {S T U : Stand} (h1 : ltS T S = false) (h2 : ltS U T = false) : ltS U S = false := by
  unfold ltS at *
  simp only [ltI_no, and_true] at *
  omega
/-- the order of two values of a heap, by the stands they are -/
noncomputable def ltV (h : Heap) (v u : Value) : Bool := by
  classical
  exact if q : (∃ S, IsSt h v S) ∧ ∃ T, IsSt h u T then ltS (Classical.choose q.1) (Classical.choose q.2) else false
theorem ltV_of {h : Heap} {v u : Value} {S T : Stand} (a : IsSt h v S) (b : IsSt h u T) : ltV h v u = ltS S T := by
  unfold ltV
  have q : (∃ S, IsSt h v S) ∧ ∃ T, IsSt h u T := ⟨⟨S, a⟩, ⟨T, b⟩⟩
  rw [dif_pos q, (Classical.choose_spec q.1).inj a, (Classical.choose_spec q.2).inj b]
theorem ltV_no {h : Heap} {v u : Value} (n : ¬ ((∃ S, IsSt h v S) ∧ ∃ T, IsSt h u T)) : ltV h v u = false := by
  unfold ltV
  rw [dif_neg n]
noncomputable def clsV (h : Heap) (v : Value) : Option Stand := by
  classical
  exact if q : ∃ S, IsSt h v S then some (Classical.choose q) else none
noncomputable def ltW (h : Heap) (v u : Value) : Bool := match clsV h v, clsV h u with
  | some S, some T => ltS S T
  | some _, none => true
  | _, _ => false
theorem clsV_of {h : Heap} {v : Value} {S : Stand} (a : IsSt h v S) : clsV h v = some S := by
  unfold clsV
  have q : ∃ S, IsSt h v S := ⟨S, a⟩
  rw [dif_pos q, (Classical.choose_spec q).inj a]
theorem ltW_of {h : Heap} {v u : Value} {S T : Stand} (a : IsSt h v S) (b : IsSt h u T) : ltW h v u = ltS S T := by
  unfold ltW
  rw [clsV_of a, clsV_of b]
theorem swoW (h : Heap) : SrtO.Swo (ltW h) := by
  refine ⟨fun x y => ?_, fun x y z => ?_⟩
  · unfold ltW
    cases clsV h x <;> cases clsV h y <;> first | (intro q; exact ltS_asym q) | simp
  · unfold ltW
    cases clsV h x <;> cases clsV h y <;> cases clsV h z <;> first | (intro q1 q2; exact ltS_tr q1 q2) | simp
section
variable {prog : Program} {w : World} {A : Around} {E : Value → Shared → Prop} {s : Shared} {Q : Bool → Shared → Prop}
theorem lex_int {a b : Int} {t u : Tok} {r : List (Value × Value)} {i : Nat} {k : Bool} (h : a = b → PySem.W.KatLex prog w A true false Q r (i + 1) s) (h2 : a ≠ b → Q (decide (a < b)) s) :
    PySem.W.KatLex prog w A true false Q ((.int a t, .int b u) :: r) i s := by
  refine PySem.W.kat_cons (SeqAt.EqAt.int_int a t b u prog w _ _ ?_)
  refine PySem.W.kat_go (fun e => ?_) (fun e => ?_)
  · exact PySem.W.kat_yes (h (by simpa using e))
  · exact PySem.W.kat_no (TS.oneLt_ints _ (h2 (by simpa using e)))
theorem lex_made {a b : Bool} {t u : Tok} {r : List (Value × Value)} {i : Nat} (h : a = b → PySem.W.KatLex prog w A true false Q r (i + 1 + 1) s) (h2 : a ≠ b → Q (decide (b2i a < b2i b)) s) :
    PySem.W.KatLex prog w A true false Q ((.str (madeS a) t, .str (madeS b) u) :: r) (i + 1) s := by
  refine PySem.W.kat_cons (SeqAt.EqAt.str_str _ t _ u prog w _ _ ?_)
  refine PySem.W.kat_go (fun e => ?_) (fun e => ?_)
  · exact PySem.W.kat_yes (h (madeS_inj (by simpa using e)))
  · have hne : a ≠ b := fun z => by simp [z] at e
    refine PySem.W.kat_no ?_
    show wpAny (model prog w) A (oneLt' false (.str (madeS a) t) (.str (madeS b) u)) Q _ s
    refine PySem.W.kat_one _ _ (lt_str (Q := PySem.W.BoolBack Q) ?_)
    have ed : decide ((madeS a).cps.toList < (madeS b).cps.toList) = decide (b2i a < b2i b) := by
      cases a <;> cases b <;> decide +kernel
    rw [ed]
    exact h2 hne
theorem lex_bool {a b : Bool} {r : List (Value × Value)} {i : Nat} (h : a = b → PySem.W.KatLex prog w A true false Q r (i + 1 + 1) s) (h2 : a ≠ b → Q (decide (b2i a < b2i b)) s) :
    PySem.W.KatLex prog w A true false Q ((.bool a, .bool b) :: r) (i + 1) s := by
  refine PySem.W.kat_cons (SeqAt.EqAt.bool_bool a b prog w _ _ ?_)
  refine PySem.W.kat_go (fun e => ?_) (fun e => ?_)
  · exact PySem.W.kat_yes (h (by simpa using e))
  · have hne : a ≠ b := fun z => by simp [z] at e
    refine PySem.W.kat_no ?_
    show wpAny (model prog w) A (oneLt' false (.bool a) (.bool b)) Q _ s
    exact PySem.W.kat_one _ _ (lt_bool (Q := PySem.W.BoolBack Q) (h2 hne))
theorem ltI_eq {a b : Int} {r : Bool} (h : a = b) : ltI a b r = r := if_pos h
theorem ltI_ne {a b : Int} {r : Bool} (h : a ≠ b) : ltI a b r = decide (a < b) := if_neg h
theorem b2i_ne {a b : Bool} (h : a ≠ b) : b2i a ≠ b2i b := by cases a <;> cases b <;> simp [b2i] at h ⊢
theorem st_cmp {vs : List Value} {h0 : Heap} (hp : ∀ v ∈ vs, ∃ S, IsSt h0 v S ∧ IsSt s.heap v S) : SrtO.Cmp prog w A s (tuples' true) (fun p => p.1 ∈ vs) (SrtO.lt2 (ltW h0)) := by
  intro p q hm hm'
  obtain ⟨S, g1, h1⟩ := hp _ hm
  obtain ⟨T, g2, h2⟩ := hp _ hm'
  show wpAny (model prog w) A (keyLt' (tuples' true) p.1 q.1) (fun r s' => s' = s ∧ r = ltW h0 p.1 q.1) (fun _ _ => False) s
  rw [ltW_of g1 g2]
  obtain ⟨a, o, x1, x2, x3, x4, n, t1, t2, t3, t4, e, ho, hc, hd, rfl, rfl, rfl, rfl⟩ := h1
  obtain ⟨a', o', y1, y2, y3, y4, n', u1, u2, u3, u4, e', ho', hc', hd', rfl, rfl, rfl, rfl⟩ := h2
  rw [e, e']
  refine PySem.W.kat_lt ho hd ho' hd' ?_
  show PySem.W.KatLex prog w A true (decide (6 < 6)) _ [(.int S.life t1, .int T.life u1), (.int S.level t2, .int T.level u2), (.str (madeS S.own) t3, .str (madeS T.own) u3), (.int S.common t4, .int T.common u4), (.bool S.past, .bool T.past), (.bool S.rooted, .bool T.rooted)] 0 s
  unfold ltS
  refine lex_int (k := true) (fun e1 => ?_) (fun n1 => ⟨rfl, (ltI_ne n1).symm⟩)
  rw [ltI_eq e1]
  refine lex_int (k := true) (fun e2 => ?_) (fun n2 => ⟨rfl, (ltI_ne n2).symm⟩)
  rw [ltI_eq e2]
  refine lex_made (fun e3 => ?_) (fun n3 => ⟨rfl, (ltI_ne (b2i_ne n3)).symm⟩)
  rw [ltI_eq (congrArg b2i e3)]
  refine lex_int (k := true) (fun e4 => ?_) (fun n4 => ⟨rfl, (ltI_ne n4).symm⟩)
  rw [ltI_eq e4]
  refine lex_bool (fun e5 => ?_) (fun n5 => ⟨rfl, (ltI_ne (b2i_ne n5)).symm⟩)
  rw [ltI_eq (congrArg b2i e5)]
  refine lex_bool (fun e6 => ?_) (fun n6 => ⟨rfl, (ltI_ne (b2i_ne n6)).symm⟩)
  rw [ltI_eq (congrArg b2i e6)]
  exact PySem.W.kat_nil ⟨rfl, rfl⟩
theorem st_firsts {h : Heap} : ∀ {vs : List Value}, (∀ v ∈ vs, ∃ S, IsSt h v S) → ∃ fs, PySem.W.KatTups h vs fs ∧ fs.length = vs.length ∧ ∀ f ∈ fs, ∃ n t, f = Value.int n t
  | [], _ => ⟨[], PySem.W.KatTups.nil, rfl, fun f hf => by cases hf⟩
  | v :: vs, x => by
    obtain ⟨fs, k, hl, hi⟩ := st_firsts (vs := vs) fun u hu => x u (List.mem_cons_of_mem _ hu)
    obtain ⟨S, a, o, x1, x2, x3, x4, n, t1, t2, t3, t4, rfl, ho, hc, hd, e1, e2, e3, e4⟩ := x v (List.mem_cons_self ..)
    refine ⟨x1 :: fs, PySem.W.KatTups.cons ho hc hd rfl k, by simp [hl], fun f hf => ?_⟩
    rcases List.mem_cons.mp hf with rfl | hf
    · exact ⟨_, _, e1⟩
    · exact hi f hf
theorem st_sortable {a : Addr} {vs : List Value} {h0 : Heap} (hp : ∀ v ∈ vs, ∃ S, IsSt h0 v S ∧ IsSt s.heap v S) (h1 : 0 < vs.length) (ha : ∀ o, s.heap.get? a = some o → o.cls ≠ .type "tuple") : SrtO.SortableO prog w A s a vs (ltW h0) := by
  intro h' keep
  have hp' : ∀ v ∈ vs, ∃ S, IsSt h0 v S ∧ IsSt h' v S := fun v hm => by
    obtain ⟨S, g1, g2⟩ := hp v hm
    exact ⟨S, g1, g2.keeps fun b o e c => keep b o (fun z => by subst z; exact ha o e c) e⟩
  obtain ⟨fs, g1, g2, g3⟩ := st_firsts (h := h') fun v hm => let ⟨S, _, z⟩ := hp' v hm; ⟨S, z⟩
  refine ⟨tuples' true, fun Q E hq => ?_, st_cmp hp'⟩
  refine PySem.W.kat_kind (T := .type "int") g1 (by omega) (fun f hm => ?_) (by rfl) ?_
  · obtain ⟨x, t, rfl⟩ := g3 f hm
    exact PySem.W.Looks.now
  · have e : (Value.type "int" != Value.type "tuple") = true := by decide +kernel
    rw [e]
    exact hq
theorem seqlist_cls {h : Heap} {a : Addr} {xs : Array Value} {n : Nat} (e : h.get? a = some (seqObj "list" xs n)) : ∀ o, h.get? a = some o → o.cls ≠ .type "tuple" := fun o q => by
  rw [e] at q
  cases q
  intro c
  exact absurd (Value.type.inj c) (by decide)
/-- sorted(l) of stands -/
theorem sorted_st {l : Addr} {vs : List Value} {Q : Value → Shared → Prop} (hl : s.heap.IsList l vs.toArray) (hz : vs.length ≤ sizeLine) (hp : ∀ v ∈ vs, ∃ S, IsSt s.heap v S)
    (h : ∀ (h' : Heap) (d : Addr) (out : List Value), out.Perm vs → (∀ b o, s.heap.get? b = some o → h'.get? b = some o) → s.heap.objs.size ≤ d → (∃ n, h'.get? d = some (seqObj "list" out.toArray n)) → Q (.ref d) { s with heap := h' }) :
    wpAny (model prog w) A (call (.builtin "sorted") [.ref l]) Q E s := by
  refine SrtO.sorted_ord (swoW s.heap) hl hz (fun h2 h₁ a ha kk => ?_) fun out hs hb => ?_
  · refine st_sortable (s := { s with heap := h₁ }) (fun v hm => ?_) (by omega) (seqlist_cls ha)
    obtain ⟨S, g⟩ := hp v hm
    exact ⟨S, g, g.keeps fun b o e _ => (kk b o e).2⟩
  · exact h _ _ out hb.perm (fun b o e => sortedAll_old e) (Nat.le_succ _) (sortedAll_at s.heap vs out.toArray)
end
/-- sorted(xs), xs a list of stands: some arrangement -/
def rSortedSt (K : PySem.W.Frag) : List V → Hp → VK → Prop := fun vs H Q => ∃ (a : Addr) (as : List Addr), vs = [V.ref a] ∧ SqL K H a (as.map V.ref) ∧ (∀ b ∈ as, ∃ S, H b = some (.tup (stV S))) ∧
  ∀ (bs : List Addr) (p : Addr), bs.Perm as → H p = none → Q (.ref p) (upd H p (.lst (bs.map V.ref)))
def backA : Value → Addr
  | .ref a => a
  | _ => 0
theorem back_refs {as : List Addr} {out : List Value} (hp : out.Perm (as.map Value.ref)) : ∃ bs : List Addr, bs.Perm as ∧ out = bs.map Value.ref := by
  have e : ∀ l : List Addr, (l.map Value.ref).map backA = l := fun l => by rw [List.map_map]; exact List.map_id l
  refine ⟨out.map backA, ?_, ?_⟩
  · have q := hp.map backA
    rw [e] at q
    exact q
  · rw [List.map_map]
    have q : ∀ v ∈ out, (Value.ref ∘ backA) v = v := fun v hv => by
      obtain ⟨a, _, ea⟩ := List.mem_map.mp (hp.mem_iff.mp hv)
      rw [← ea]
      rfl
    rw [List.map_congr_left q, List.map_id']
theorem refs_eq : ∀ {as : List Addr} {us : List Value}, Vals (as.map V.ref) us → us = as.map Value.ref
  | [], _, .nil => rfl
  | a :: as, _, .cons r t => by
    cases r
    rw [List.map_cons, ← refs_eq t]
section
variable {X : Cx}
theorem cr_sortedSt : CallR X (.builtin "sorted") (rSortedSt X.K) := by
  intro pins s σ H vs us Q I r h
  obtain ⟨a, as, rfl, hs, hx, q⟩ := h
  obtain ⟨its, rv, hl, hz⟩ := I.list hs
  obtain ⟨u, rfl, ru⟩ := vals1 r
  obtain rfl : u = Value.ref a := ru
  have e := refs_eq rv
  subst e
  have hlen : (as.map Value.ref).length ≤ sizeLine := by rw [List.length_map, ← List.length_map (f := V.ref)]; exact hz
  refine sorted_st hl.isList hlen (fun v hv => ?_) fun h' d out hp k hd hn => ?_
  · obtain ⟨b, hb, rfl⟩ := List.mem_map.mp hv
    obtain ⟨S, hS⟩ := hx b hb
    exact ⟨S, isSt_of I.hok hS⟩
  · obtain ⟨bs, h1, h2⟩ := back_refs hp
    obtain ⟨n, hn⟩ := hn
    subst h2
    refine ⟨.ref d, upd H d (.lst (bs.map V.ref)), I.laid (t' := s.toks) k hd ⟨?_, bs.map Value.ref, n, vals_refs _, hn⟩, rfl, q bs d h1 (I.hok.fresh hd)⟩
    rw [List.length_map, h1.length_eq, ← List.length_map (f := V.ref)]
    exact hz
end
end HL

set_option Elab.async false
set_option linter.all false
set_option maxRecDepth 100000
set_option maxHeartbeats 4000000
/-! R2: a dict whose keys are stands, all its values True -/
namespace HL
open PySem PySem.Spec PyProof.Rows L2
abbrev stK (P : Program) (w : World) : PySem.HeapKind P w (List PySem.Leaf) := tupleKind (leafKind P w)
def lfS (S : Stand) : List PySem.Leaf := [.num S.life, .num S.level, .text (madeS S.own), .num S.common, .num (if S.past = true then 1 else 0), .num (if S.rooted = true then 1 else 0)]
theorem b01_inj {a b : Bool} (h : (if a = true then (1 : Int) else 0) = if b = true then 1 else 0) : a = b := by
  cases a <;> cases b <;> simp at h ⊢
theorem lfS_inj {S T : Stand} (h : lfS S = lfS T) : S = T := by
  simp only [lfS, List.cons.injEq, PySem.Leaf.num.injEq, PySem.Leaf.text.injEq] at h
  obtain ⟨h1, h2, h3, h4, h5, h6, _⟩ := h
  exact stV_inj (by simp [stV, h1, h2, h3, h4, b01_inj h5, b01_inj h6])
theorem isSt_key {P : Program} {w : World} {h : Heap} {a : Addr} {S : Stand} (x : IsSt h (.ref a) S) : (stK P w).is h (lfS S) a := by
  obtain ⟨a', o, x1, x2, x3, x4, n, t1, t2, t3, t4, e, ho, hc, hd, rfl, rfl, rfl, rfl⟩ := x
  cases e
  refine ⟨o, _, n, ho, hc, hd, ?_⟩
  refine .cons ?_ (.cons ?_ (.cons ?_ (.cons ?_ (.cons ?_ (.cons ?_ .nil)))))
  · exact decide_eq_true rfl
  · exact decide_eq_true rfl
  · simp [leafKind, PySem.Leaf.isOf, Value.isStrOf]
  · exact decide_eq_true rfl
  · exact decide_eq_true rfl
  · exact decide_eq_true rfl
def enS (p : Stand × Addr) : List PySem.Leaf × Addr × Value := (lfS p.1, p.2, .bool true)
/-- what is true of the one object: a dict of these keys -/
def SDh (P : Program) (w : World) (d : Addr) (xs : List (Stand × Addr)) : Heap → Prop := fun h => (d == sysModules) = false ∧ xs.length ≤ sizeLine ∧
  ∃ o es ep, h.get? d = some o ∧ o.ExactDict ∧ o.data = .dict es ep ∧ es.toList = (xs.map enS).map (entryOfKey (stK P w)) ∧ (xs.map (·.1)).Nodup
def SD (P : Program) (w : World) (d : Addr) (xs : List (Stand × Addr)) : HO := .ext (SDh P w d xs)
/-- the keys are the stands' tuples -/
def KeysSt (H : Hp) (xs : List (Stand × Addr)) : Prop := ∀ p ∈ xs, H p.2 = some (.tup (stV p.1))
def putS (xs : List (Stand × Addr)) (S : Stand) (a : Addr) : List (Stand × Addr) := if S ∈ xs.map (·.1) then xs else xs ++ [(S, a)]
def putAllS (xs ys : List (Stand × Addr)) : List (Stand × Addr) := ys.foldl (fun acc p => putS acc p.1 p.2) xs
theorem nodup_lf {xs : List (Stand × Addr)} (h : (xs.map (·.1)).Nodup) : ((xs.map enS).map (·.1)).Nodup := by
  have e : (xs.map enS).map (·.1) = (xs.map (·.1)).map lfS := by rw [List.map_map, List.map_map]; rfl
  rw [e]
  exact List.Pairwise.map lfS (fun a b z q => z (lfS_inj q)) h
theorem nodup_unlf {xs : List (Stand × Addr)} (h : ((xs.map enS).map (·.1)).Nodup) : (xs.map (·.1)).Nodup := by
  have e : (xs.map enS).map (·.1) = (xs.map (·.1)).map lfS := by rw [List.map_map, List.map_map]; rfl
  rw [e] at h
  exact List.Pairwise.of_map lfS (fun a b q z => q (by rw [z])) h
theorem atKey_enS {S : Stand} : ∀ {xs : List (Stand × Addr)}, (atKey (xs.map enS) (lfS S)).isSome = decide (S ∈ xs.map (·.1))
  | [] => rfl
  | p :: xs => by
    have ih := atKey_enS (S := S) (xs := xs)
    unfold atKey at ih ⊢
    rw [List.map_cons, List.find?_cons]
    by_cases e : p.1 = S
    · have e1 : decide ((enS p).1 = lfS S) = true := decide_eq_true (by rw [← e]; rfl)
      rw [e1]
      simp [e]
    · have e1 : decide ((enS p).1 = lfS S) = false := decide_eq_false (fun q => e (lfS_inj q))
      rw [e1, List.map_cons]
      rw [ih]
      exact decide_eq_decide.mpr ⟨fun q => List.mem_cons_of_mem _ q, fun q => (List.mem_cons.mp q).resolve_left fun z => e z.symm⟩
theorem storedH_enS (xs : List (Stand × Addr)) (S : Stand) (a : Addr) : storedH (xs.map enS) (lfS S) a (.bool true) = (putS xs S a).map enS := by
  unfold storedH putS
  rw [atKey_enS]
  by_cases h : S ∈ xs.map (·.1)
  · rw [decide_eq_true h, if_pos rfl, if_pos h]
    have q : ∀ x ∈ xs.map enS, putAt (lfS S) (.bool true) x = x := fun x hx => by
      obtain ⟨p, _, rfl⟩ := List.mem_map.mp hx
      unfold putAt
      split <;> rfl
    rw [List.map_congr_left q, List.map_id']
  · rw [decide_eq_false h, if_neg (by simp), if_neg h]
    simp [enS]
theorem storedAllH_enS : ∀ (ys xs : List (Stand × Addr)), storedAllH (xs.map enS) (ys.map enS) = (putAllS xs ys).map enS
  | [], xs => rfl
  | y :: ys, xs => by
    unfold storedAllH putAllS
    rw [List.map_cons, List.foldl_cons, List.foldl_cons]
    have e : storedH (xs.map enS) (enS y).1 (enS y).2.1 (enS y).2.2 = (putS xs y.1 y.2).map enS := storedH_enS xs y.1 y.2
    rw [e]
    exact storedAllH_enS ys (putS xs y.1 y.2)
theorem putS_len (xs : List (Stand × Addr)) (S : Stand) (a : Addr) : (putS xs S a).length ≤ xs.length + 1 := by
  unfold putS
  split
  · omega
  · simp
theorem putAllS_len : ∀ (ys xs : List (Stand × Addr)), (putAllS xs ys).length ≤ xs.length + ys.length
  | [], xs => by simp [putAllS]
  | y :: ys, xs => by
    have q := putAllS_len ys (putS xs y.1 y.2)
    have l := putS_len xs y.1 y.2
    unfold putAllS at q ⊢
    rw [List.foldl_cons, List.length_cons]
    omega
theorem putS_mem {xs : List (Stand × Addr)} {S : Stand} {a : Addr} {p : Stand × Addr} (h : p ∈ putS xs S a) : p ∈ xs ∨ p = (S, a) := by
  unfold putS at h
  split at h
  · exact .inl h
  · rcases List.mem_append.mp h with q | q
    · exact .inl q
    · exact .inr (by simpa using q)
theorem putAllS_mem : ∀ {ys xs : List (Stand × Addr)} {p : Stand × Addr}, p ∈ putAllS xs ys → p ∈ xs ∨ p ∈ ys
  | [], xs, p, h => .inl h
  | y :: ys, xs, p, h => by
    rcases putAllS_mem (ys := ys) (xs := putS xs y.1 y.2) h with q | q
    · rcases putS_mem q with q | q
      · exact .inl q
      · exact .inr (by rw [q]; exact List.mem_cons_self ..)
    · exact .inr (List.mem_cons_of_mem _ q)
theorem putS_keys {xs : List (Stand × Addr)} {S : Stand} {a : Addr} {T : Stand} : T ∈ (putS xs S a).map (·.1) ↔ T ∈ xs.map (·.1) ∨ T = S := by
  unfold putS
  by_cases h : S ∈ xs.map (·.1)
  · rw [if_pos h]
    exact ⟨.inl, fun q => q.elim id fun e => by rw [e]; exact h⟩
  · rw [if_neg h, List.map_append, List.mem_append]
    simp
theorem putAllS_keys : ∀ {ys xs : List (Stand × Addr)} {T : Stand}, T ∈ (putAllS xs ys).map (·.1) ↔ T ∈ xs.map (·.1) ∨ T ∈ ys.map (·.1)
  | [], xs, T => by simp [putAllS]
  | y :: ys, xs, T => by
    have q := putAllS_keys (ys := ys) (xs := putS xs y.1 y.2) (T := T)
    unfold putAllS at q ⊢
    rw [List.foldl_cons, q, putS_keys, List.map_cons, List.mem_cons]
    constructor
    · rintro ((h | h) | h)
      · exact .inl h
      · exact .inr (.inl h)
      · exact .inr (.inr h)
    · rintro (h | h | h)
      · exact .inl (.inl h)
      · exact .inl (.inr h)
      · exact .inr h
theorem putAllS_ne {ys xs : List (Stand × Addr)} (h : xs ≠ [] ∨ ys ≠ []) : putAllS xs ys ≠ [] := fun e => by
  rcases h with h | h
  · cases xs with
    | nil => exact h rfl
    | cons x xs =>
      have q := (putAllS_keys (ys := ys) (xs := x :: xs) (T := x.1)).mpr (.inl (by simp))
      rw [e] at q
      cases q
  · cases ys with
    | nil => exact h rfl
    | cons y ys =>
      have q := (putAllS_keys (ys := y :: ys) (xs := xs) (T := y.1)).mpr (.inr (by simp))
      rw [e] at q
      cases q
section
variable {X : Cx} {pins : List (Addr × Obj)} {σ : L2.St} {H : Hp} {s : Shared} {d : Addr} {xs ys : List (Stand × Addr)}
theorem sd_of {P : Program} {w : World} {h : Heap} (ok : HOk P w H h) (e : H d = some (SD P w d xs)) (k : KeysSt H xs) : (d == sysModules) = false ∧ xs.length ≤ sizeLine ∧ h.DictOfH (stK P w) d (xs.map enS) := by
  obtain ⟨⟨h1, h2, o, es, ep, h3, h4, h5, h6, h7⟩, _, _⟩ := (show ObjOk P w H h d (SD P w d xs) from ok d _ e)
  refine ⟨h1, h2, o, es, ep, h3, h4, h5, h6, fun x hx => ?_, nodup_lf h7⟩
  obtain ⟨p, hp, rfl⟩ := List.mem_map.mp hx
  exact isSt_key (isSt_of ok (k p hp))
theorem sd_new {P : Program} {w : World} {H' : Hp} {h' : Heap} (h1 : (d == sysModules) = false) (h2 : xs.length ≤ sizeLine) (dd : h'.DictOfH (stK P w) d (xs.map enS)) : ObjOk P w H' h' d (SD P w d xs) := by
  obtain ⟨o, es, ep, h3, h4, h5, h6, _, h7⟩ := dd
  refine ⟨⟨h1, h2, o, es, ep, h3, h4, h5, h6, nodup_unlf h7⟩, ⟨o, h3⟩, fun g1 g2 q k => ?_⟩
  obtain ⟨h1, h2, o, es, ep, h3, r⟩ := q
  exact ⟨h1, h2, o, es, ep, k o h3, r⟩
theorem sd_empty {P : Program} {w : World} {H : Hp} (h : Heap) (hb : sysModules < h.objs.size) : ObjOk P w H (h.push { cls := .type "dict", data := .dict #[] }) h.objs.size (SD P w h.objs.size []) := by
  refine ⟨⟨beq_eq_false_iff_ne.mpr (Ne.symm (Nat.ne_of_lt hb)), Nat.zero_le _, _, #[], 0, Heap.get?_push_size _ rfl, ⟨rfl, rfl, rfl⟩, rfl, rfl, List.nodup_nil⟩, ⟨_, Heap.get?_push_size _ rfl⟩, fun g1 g2 q k => ?_⟩
  obtain ⟨h1, h2, o, es, ep, h3, r⟩ := q
  exact ⟨h1, h2, o, es, ep, k o h3, r⟩
def tDNewS (P : Program) (w : World) : TE := fun _ H Q => ∀ p, H p = none → Q (.ref p) (upd H p (SD P w p []))
theorem pe_dnewS {pos : Pos} : PE X (.Dict [] [] pos) (tDNewS X.prog X.w) := ⟨fun pins s σ H Q I h =>
  wpAny_Dict_empty ⟨.ref s.heap.objs.size, _, I.laid (a := s.heap.objs.size) (o := SD X.prog X.w s.heap.objs.size []) (t' := s.toks) (fun _ _ q => Heap.get?_push_of_some _ q) (Nat.le_refl _) (sd_empty s.heap I.big), rfl, h _ (I.hok.fresh (Nat.le_refl _))⟩⟩
/-- d[k] = True by a comprehension -/
theorem d_dictSetS {E : Value → Shared → Prop} {D a : Addr} {S : Stand} {Q : Unit → Shared → Prop} (hu : X.A.units < cLine) (I : Inv X pins σ H s) (hD : H D = some (SD X.prog X.w D xs)) (hk : KeysSt H xs) (ha : H a = some (.tup (stV S))) (hz : xs.length < sizeLine)
    (h : ∀ s', Inv X pins σ (upd H D (SD X.prog X.w D (putS xs S a))) s' → Q () s') : wpAny (model X.prog X.w) X.A (dictSet D (.ref a) (.bool true)) Q E s := by
  obtain ⟨h1, h2, dd⟩ := sd_of I.hok hD hk
  refine wpAny_dictSet_heap (hsz := by rw [List.length_map]; exact h2) (knd := stK X.prog X.w) hu (isSt_key (isSt_of I.hok ha)) dd fun h' dd' hs => h _ ?_
  rw [storedH_enS] at dd'
  have he : ∃ q, h'.get? D = some q := let ⟨q, _, _, hq, _⟩ := dd'; ⟨q, hq⟩
  exact d_write I (by rw [hD]; exact True.intro) hs he (sd_new h1 (by have := putS_len xs S a; omega) dd')
/-- d.update(o) -/
theorem d_updS {E : Value → Shared → Prop} {o : Addr} {Q : Value → Shared → Prop} (hu : X.A.units + 1 < cLine) (I : Inv X pins σ H s) (hd : H d = some (SD X.prog X.w d xs)) (ho : H o = some (SD X.prog X.w o ys)) (hdo : d ≠ o) (kd : KeysSt H xs) (ko : KeysSt H ys)
    (hap : xs ≠ [] ∨ ys.length ≤ 1) (hz : xs.length + ys.length ≤ sizeLine)
    (h : ∀ s', Inv X pins σ (upd H d (SD X.prog X.w d (putAllS xs ys))) s' → Q .none s') : wpAny (model X.prog X.w) X.A (call (.builtin "dict.update") [.ref d, .ref o]) Q E s := by
  obtain ⟨h1, h2, dd⟩ := sd_of I.hok hd kd
  obtain ⟨g1, g2, od⟩ := sd_of I.hok ho ko
  refine call_update_dictH (knd := stK X.prog X.w) (tupleKind_room_in1 hu) hdo g1 dd od ?_ (by rw [List.length_map, List.length_map]; exact hz) fun h' d' o' hs => h _ ?_
  · rcases hap with q | q
    · exact .inl (fun e => q (List.map_eq_nil_iff.mp e))
    · right
      refine ⟨fun x hx => ?_, ?_⟩
      · obtain ⟨p, hp, rfl⟩ := List.mem_map.mp hx
        obtain ⟨_, o1, _, _, _, _, _, _, _, _, _, e, ho1, hc, _⟩ := isSt_of I.hok (ko p hp)
        cases e
        exact ⟨o1, ho1, hc⟩
      · match ys, q with
        | [], _ => exact List.nodup_nil
        | [y], _ => exact List.pairwise_singleton _ _
        | _ :: _ :: _, q => exact absurd q (by simp)
  · rw [storedAllH_enS] at d'
    have he : ∃ q, h'.get? d = some q := let ⟨q, _, _, hq, _⟩ := d'; ⟨q, hq⟩
    exact d_write (t' := s.toks) I (by rw [hd]; exact True.intro) hs he (sd_new h1 (by have := putAllS_len ys xs; omega) d')
def tDUpdS (P : Program) (w : World) (td te : TE) : TE := fun σ H Q => td σ H fun x H1 => ∃ d xs0, x = .ref d ∧ H1 d = some (SD P w d xs0) ∧ te σ H1 fun y H2 => ∃ o xs ys, y = .ref o ∧ H2 d = some (SD P w d xs) ∧ H2 o = some (SD P w o ys) ∧ d ≠ o ∧ KeysSt H2 xs ∧ KeysSt H2 ys ∧
  (xs ≠ [] ∨ ys.length ≤ 1) ∧ xs.length + ys.length ≤ sizeLine ∧ Q .non (upd H2 d (SD P w d (putAllS xs ys)))
theorem sd_type {P : Program} {w : World} {h : Heap} (ok : HOk P w H h) (e : H d = some (SD P w d xs)) : ∃ o, h.get? d = some o ∧ o.cls = .type "dict" ∧ o.dict = none := by
  obtain ⟨⟨h1, h2, o, es, ep, h3, h4, h5, h6, h7⟩, _, _⟩ := (show ObjOk P w H h d (SD P w d xs) from ok d _ e)
  exact ⟨o, h3, h4.1, h4.2.1⟩
theorem pe_dupdS {o e : Expr} {apos cpos : Pos} {td te : TE} (hu : X.A.units + 1 < cLine) (ho : PE X o td) (he : PE X e te) (m : M1 X o "update" apos e cpos) : PE X (.Call (.Attribute o "update" apos) [e] [] cpos) (tDUpdS X.prog X.w td te) := by
  refine ⟨fun pins s σ H Q I h => ?_⟩
  refine wpAny_Call_method m.base m.few m.line PySem.F.plainAttrs_dict PySem.F.slot_dict_update PySem.F.type_dict_update (thn (ho.run pins s σ H _ I h) fun u s1 ⟨x, H1, I1, rx, a, xs0, ex, d, q1⟩ => ?_)
  subst ex
  obtain rfl : u = Value.ref a := rx
  obtain ⟨ob, t1, t2, t3⟩ := sd_type I1.hok d
  refine ⟨⟨ob, t1, t2⟩, fun b q => by cases q; exact ⟨ob, t1, t3⟩, ?_⟩
  rw [m.trees]
  refine Calls.callWith_builtin rfl (Calls.evalArgs_plain (Calls.spliced_cons (thn (he.run pins s1 σ H1 _ I1 q1) fun iv s2 ⟨y, H2, I2, ry, ov, xs, ys, ey, e1, e2, e3, e4, e5, e6, e7, q2⟩ => Calls.spliced_nil ?_)))
  subst ey
  obtain rfl : iv = Value.ref ov := ry
  exact d_updS hu I2 e1 e2 e3 e4 e5 e6 e7 fun s3 I3 => ⟨.non, _, I3, rfl, q2⟩
/-- sorted(d): the stands, in some arrangement -/
def rSortedSD (P : Program) (w : World) : List V → Hp → VK → Prop := fun vs H Q => ∃ (a : Addr) (xs : List (Stand × Addr)), vs = [V.ref a] ∧ H a = some (SD P w a xs) ∧ KeysSt H xs ∧
  ∀ (bs : List Addr) (p : Addr), bs.Perm (xs.map (·.2)) → H p = none → Q (.ref p) (upd H p (.lst (bs.map V.ref)))
theorem cr_sortedSD (hcalm : X.calm = true) : CallR X (.builtin "sorted") (rSortedSD X.prog X.w) := by
  intro pins s σ H vs us Q I r h
  obtain ⟨a, xs, rfl, hd, hk, q⟩ := h
  obtain ⟨u, rfl, ru⟩ := vals1 r
  obtain rfl : u = Value.ref a := ru
  obtain ⟨h1, h2, o, es, ep, h3, h4, h5, h6, _, h7⟩ := sd_of I.hok hd hk
  have hsz : es.size = xs.length := by
    rw [← Array.length_toList, h6, List.length_map, List.length_map]
  refine Calls.call_function_entry PyProof.Rows.kind_sorted PyProof.Rows.plain_sorted PyProof.Rows.entry_sorted (PyProof.Rows.args_sorted1 _) ?_
  unfold Builtin.«sorted»
  refine wpAny_bind (m := checkCount "sorted" 1 1 _) (wpAny_pure ?_)
  refine wpAny_bind (PySem.W.kdu_collect (A := X.A.in1) (kdl_raw h1 h4 h5) (I.ok.hd hcalm) h3 (by rw [hsz]; exact h2) fun h' tk acc hk' hacc => ?_)
  have hal : acc.toList.length = xs.length := by rw [Array.length_toList, hacc.1, hsz]
  have hE : acc.toList = (xs.map (·.2)).map Value.ref := by
    refine List.ext_getElem? fun j => ?_
    by_cases hj : j < xs.length
    · obtain ⟨v, hv⟩ : ∃ v, acc.toList[j]? = some v := ⟨_, List.getElem?_eq_getElem (by rw [hal]; exact hj)⟩
      obtain ⟨en, he, ev⟩ := hacc.2 j v (by rw [← Array.getElem?_toList]; exact hv)
      rw [← Array.getElem?_toList, h6, List.getElem?_map, List.getElem?_map] at he
      obtain ⟨x, hx⟩ : ∃ x, xs[j]? = some x := ⟨_, List.getElem?_eq_getElem hj⟩
      rw [hx] at he
      have e2 : entryOfKey (stK X.prog X.w) (enS x) = en := Option.some.inj he
      rw [hv, ev, ← e2, List.getElem?_map, List.getElem?_map, hx]
      rfl
    · rw [List.getElem?_eq_none (by omega), List.getElem?_eq_none (by rw [List.length_map, List.length_map]; omega)]
  have I1 : Inv X pins σ H { s with heap := h', toks := tk } := I.kept hk'
  have hSt : ∀ v ∈ acc.toList, ∃ S, IsSt h' v S := fun v hv => by
    rw [hE, List.map_map] at hv
    obtain ⟨p, hp, rfl⟩ := List.mem_map.mp hv
    exact ⟨p.1, isSt_of I1.hok (hk p hp)⟩
  refine wpAny_bind (wpAny_newList ?_ (by rw [hal]; exact h2))
  have hoL : (h'.push (seqObj "list" acc.toList.toArray 0)).get? h'.objs.size = some (seqObj "list" acc.toList.toArray 0) := Heap.get?_push_size _ rfl
  show wpAny _ _ _ _ _ { s with heap := h'.push (seqObj "list" acc.toList.toArray 0), toks := tk }
  refine wpAny_bind (wpAny_holding (wpAny_call_entry PyProof.Rows.slot_list_sort ⟨_, hoL, rfl⟩ PyProof.Rows.entry_list_sort
    (SrtO.list_sort_ord (s := { s with heap := h'.push (seqObj "list" acc.toList.toArray 0), toks := tk }) (swoW h') hoL (by rw [hal]; exact h2) (fun h2' => ?_) fun out hs hb => ⟨_, rfl, ?_⟩) (PyProof.Rows.args_list_sort _)))
  · refine st_sortable (s := { s with heap := h'.push (seqObj "list" acc.toList.toArray 0), toks := tk }) (fun v hm => ?_) (by omega) (seqlist_cls hoL)
    obtain ⟨S, g⟩ := hSt v hm
    exact ⟨S, g, g.keeps fun b o e _ => Heap.get?_push_of_some _ e⟩
  · have hp : out.Perm ((xs.map (·.2)).map Value.ref) := by rw [← hE]; exact hb.perm
    obtain ⟨bs, g1, g2⟩ := back_refs hp
    subst g2
    obtain ⟨e', he'⟩ := PyProof.Rows.sortedHeap_at (vs := acc.toList) (out := (bs.map Value.ref).toArray) hoL
    have hlen : (bs.map V.ref).length ≤ sizeLine := by
      rw [List.length_map, g1.length_eq, List.length_map]
      exact h2
    refine wpAny_pure ⟨_, rfl, .ref h'.objs.size, upd H h'.objs.size (.lst (bs.map V.ref)), I1.laid (t' := tk) (fun b u e => ?_) (Nat.le_refl _)
      (show ObjOk X.prog X.w _ _ _ (.lst (bs.map V.ref)) from ⟨hlen, bs.map Value.ref, e', vals_refs _, he'⟩), rfl, q bs _ g1 (I1.hok.fresh (Nat.le_refl _))⟩
    have hb' : b < h'.objs.size := Heap.lt_size e
    rw [PyProof.Rows.sortedHeap_old (Nat.ne_of_lt hb') (by rw [size_push']; exact Nat.lt_succ_of_lt hb')]
    exact Heap.get?_push_of_some _ e
end
end HL

set_option Elab.async false
set_option linter.all false
set_option maxRecDepth 100000
set_option maxHeartbeats 4000000
/-! R3: {one: True for one in ..}, the keys stands -/
namespace HL
open PySem PySem.Spec PyProof.Rows L2
/-- the block's reading: D the new dict; each turn hands a stand's tuple and True -/
def tDcS (P : Program) (w : World) (wi : TI) (g : TG) (tt : TT) (tk tv : TE) (vs : List Nat) : TE := fun σ H Q => wi σ H fun J H1 => ∀ D, H1 D = none →
  ∃ W : Nat → Nat → Hp → Prop, (∃ m, W 0 m (upd H1 D (SD P w D []))) ∧ ∀ i m H, W i m H →
    (J.stop i H ∧ Q (.ref D) H) ∨ (J.go i H ∧ ∃ Nx : Hp → Prop, (∀ H', Nx H' → ∃ m', m' < m ∧ W (i + 1) m' H') ∧ ∀ x H', J.yld i H x H' → g x (wipe σ vs) H' fun σ2 H2 => wipe σ2 vs = wipe σ vs ∧ tt σ2 H2 fun b H3 =>
      if b = true then tk σ2 H3 fun y H4 => tv σ2 H4 fun z H5 => ∃ xs S a, y = .ref a ∧ z = .bl true ∧ H5 a = some (.tup (stV S)) ∧ H5 D = some (SD P w D xs) ∧ KeysSt H5 xs ∧ xs.length < sizeLine ∧ Nx (upd H5 D (SD P w D (putS xs S a))) else Nx H3)
section
variable {X : Cx}
abbrev blkE (X : Cx) (scope : Scope) (cl : List (Str × Addr)) (C : Addr) (s : Shared) (H : Hp) (fp : List Addr) : Cx := X.blk s H scope (compEnvC scope cl C X.env) fp
theorem dcS_core {pins : List (Addr × Obj)} {s : Shared} {σ : L2.St} {H : Hp} {Q : VK} {kx vx tg iter : Expr} {ifs : List Expr} {scope : Scope} {own : List (Str × Nat)} {pos pos' : Pos} {wi : TI} {g : TG} {tt : TT} {tk tv : TE} {Qf : Value → Shared → Prop}
    (hu : X.A.units < cLine) (cm : X.calm = true) (nd : X.N.Nodup) (I0 : Inv X pins σ H s) (hi : PI X tg iter wi) (bo : BlkOk X.N X.env.scope scope own)
    (hg : ∀ s H C cl fp, PG (blkE X scope cl C s H fp) tg g) (ht : ∀ s H C cl fp, PTs (blkE X scope cl C s H fp) ifs tt) (hk : ∀ s H C cl fp, PE (blkE X scope cl C s H fp) kx tk) (hv : ∀ s H C cl fp, PE (blkE X scope cl C s H fp) vx tv)
    (hs : ∀ x, foldedSetIterable iter X.env x = pure x) (h : tDcS X.prog X.w wi g tt tk tv (own.map (·.2)) σ H Q)
    (out : ∀ D C s' m H', Inv X pins σ H' s' → Q (.ref D) H' → s'.heap.Ns C m → FpOk X pins H' C → compPost (model X.prog X.w) X.A X.xe none Qf (.ref D) C (.ok .next) s') :
    wpAny (model X.prog X.w) X.A (comprehension (.DictComp kx vx [⟨tg, iter, ifs, 0⟩] scope pos) scope X.env pos' newDict false (eval iter X.env) none) Qf X.xe s := by
  have free : ∀ y ∈ scope.names, y.2 = .free → ∃ c, X.env.cells.lookup y.1 = some c := fun y hy e => (bo.free y hy e).elim (fun z => I0.ok.has _ (.inl z)) fun z => I0.ok.has _ (.inr z)
  refine wpAny_comprehension_free (use := none) rfl hs (closure_ok free) bo.kind (fun y hy e => by rw [bo.uniq y hy, e]) (thn (hi.run pins s σ H _ I0 h) fun _ s1 hx => thn hx fun _ s2 x2 => ?_)
  obtain ⟨it, fp, tn, J, H2, rfl, I2, T, st2, f2, q⟩ := x2
  refine wpAny_newObj_type (newEnv_comp ?_)
  generalize eD : s2.heap.objs.size = D
  have nD : H2 D = none := I2.hok.fresh (Nat.le_of_eq eD)
  obtain ⟨W, ⟨m0, w0⟩, turn⟩ := q D nD
  generalize e3 : ({ s2 with heap := s2.heap.push { cls := .type "dict", data := .dict #[] } } : Shared) = s3
  have I3 : Inv X pins σ (upd H2 D (SD X.prog X.w D [])) s3 := by
    subst e3
    refine I2.laid (t' := s2.toks) (fun b o e => Heap.get?_push_of_some _ e) (Nat.le_of_eq eD) ?_
    subst eD
    exact sd_empty s2.heap I2.big
  have h3 : s3.heap = s2.heap.push { cls := .type "dict", data := .dict #[] } := by subst e3; rfl
  have f3 : ∀ b ∈ fp, FpOk X pins (upd H2 D (SD X.prog X.w D [])) b ∧ b < s3.heap.objs.size := fun b hb => by
    obtain ⟨o, e, _⟩ := T.obj _ _ st2 b hb
    have lt := Heap.lt_size e
    refine ⟨⟨?_, (f2 b hb).2⟩, by rw [h3, Heap.size_push]; exact Nat.lt_succ_of_lt lt⟩
    rw [upd_ne (show b ≠ D by rw [← eD]; exact Nat.ne_of_lt lt)]
    exact (f2 b hb).1
  have st3 : tn 0 s3.heap := T.keep _ _ _ st2 fun b _ o e => by rw [h3]; exact Heap.get?_push_of_some _ e
  have I4 := block_start I3 bo nd f3
  have pg := hg s3 (upd H2 D (SD X.prog X.w D [])) s3.heap.objs.size (cellsFrom (s3.heap.objs.size + 1) scope.names (cloFrom X.env.cells scope.names [])) fp
  have pt := ht s3 (upd H2 D (SD X.prog X.w D [])) s3.heap.objs.size (cellsFrom (s3.heap.objs.size + 1) scope.names (cloFrom X.env.cells scope.names [])) fp
  have pk := hk s3 (upd H2 D (SD X.prog X.w D [])) s3.heap.objs.size (cellsFrom (s3.heap.objs.size + 1) scope.names (cloFrom X.env.cells scope.names [])) fp
  have pv' := hv s3 (upd H2 D (SD X.prog X.w D [])) s3.heap.objs.size (cellsFrom (s3.heap.objs.size + 1) scope.names (cloFrom X.env.cells scope.names [])) fp
  show codeAny _ _ (.compStart (.DictComp kx vx [⟨tg, iter, ifs, 0⟩] scope pos) 0 (.ref it) (.ref D) (compEnvC scope (cellsFrom (s3.heap.objs.size + 1) scope.names (cloFrom X.env.cells scope.names [])) s3.heap.objs.size X.env)) (compPost (model X.prog X.w) X.A X.xe none Qf (.ref D) s3.heap.objs.size) { s3 with heap := pushCells (s3.heap.push { cls := .type "dict", data := .dict #[] }) scope.names }
  have no3 : ∀ b ∈ fp, (upd H2 D (SD X.prog X.w D [])) b = none := fun b hb => (f3 b hb).1.1
  unfold blkE at pg pt pk pv'
  generalize ec : compEnvC scope (cellsFrom (s3.heap.objs.size + 1) scope.names (cloFrom X.env.cells scope.names [])) s3.heap.objs.size X.env = ce at I4 pg pt pk pv' ⊢
  have cL : ce.locals = s3.heap.objs.size := by subst ec; rfl
  generalize eH : upd H2 D (SD X.prog X.w D []) = H3 at I3 I4 pg pt pk pv' w0 no3 f3
  generalize e4 : ({ s3 with heap := pushCells (s3.heap.push { cls := .type "dict", data := .dict #[] }) scope.names } : Shared) = s4 at I4 ⊢
  have st4 : tn 0 s4.heap := T.keep _ _ _ st3 fun b _ o e => by subst e4; exact pushCells_keeps _ _ _ _ (Heap.get?_push_of_some _ e)
  have stay : ∀ {σ' : L2.St} {H' : Hp} {s' : Shared}, Inv (X.blk s3 H3 scope ce fp) [] σ' H' s' → (∀ b ∈ fp, H' b = none) → ∀ b ∈ fp, FpOk (X.blk s3 H3 scope ce fp) [] H' b := fun {σ' H' s'} J' hn b hb =>
    ⟨hn b hb, (J'.ok.exf b hb).1, J'.ok.exfs b hb, .inl hb, fun x c e => (J'.ok.exf b hb).2 x c e, fun p hp => nomatch hp⟩
  have loop : codeAny (model X.prog X.w) X.A (.compLoop (.DictComp kx vx [⟨tg, iter, ifs, 0⟩] scope pos) 0 (.ref it) (.ref D) ce) (compPost (model X.prog X.w) X.A X.xe none Qf (.ref D) s3.heap.objs.size) s4 := by
    refine compLoop_anyD (fun n s' => ∃ i H', Inv (X.blk s3 H3 scope ce fp) [] (wipe σ (own.map (·.2))) H' s' ∧ tn i s'.heap ∧ (∀ b ∈ fp, H' b = none) ∧ W i n H') ?_ m0 ⟨0, H3, I4, st4, no3, w0⟩
    rintro n s5 ⟨i, H5, I5, st5, n5, w5⟩
    rcases turn i n H5 w5 with ⟨stop, fin⟩ | ⟨go, Nx, hNx, stp⟩
    · refine thnF (T.done (X.blk s3 H3 scope ce fp) rfl rfl rfl cm i [] s5 _ H5 (fun _ _ => False) I5 (stay I5 n5) st5 stop) fun r s6 ⟨er, I6⟩ => ?_
      subst er
      have I7 : Inv X pins σ H5 s6 := I3.call' (ch := fp) I6.os I6.base I6.hok I6.bare fun b hb => ⟨(f3 b hb).1.2.2.2.1, (f3 b hb).1.2.1, (f3 b hb).1.2.2.2.2.1, (f3 b hb).1.2.2.2.2.2⟩
      have fr : H5 ce.locals = none := I6.free
      rw [cL] at fr
      obtain ⟨m, hm, _⟩ := I6.loc
      have hm : s6.heap.Ns ce.locals m := hm
      rw [cL] at hm
      exact out D s3.heap.objs.size s6 m H5 I7 fin hm (I3.fpOk (Nat.le_refl _) fr)
    · refine thnF (T.item (X.blk s3 H3 scope ce fp) rfl rfl rfl cm i [] s5 _ H5 (fun _ _ => False) I5 (stay I5 n5) st5 go) fun r s6 ⟨u, er, h6⟩ => ?_
      subst er
      refine thnF h6 fun _ s7 ⟨x, H7, I7, r7, y7, st7, n7⟩ => ?_
      have P7 := I7.pinned (stay I7 n7) (T.obj _ _ st7)
      refine thnF (pg.run _ s7 _ H7 x u _ P7 r7 (stp x H7 y7)) fun _ s8 ⟨σ8, H8, I8, hw8, q8⟩ => thnF (pt.run _ s8 σ8 H8 _ I8 q8) fun b s9 ⟨H9, I9, q9⟩ => ?_
      have fin : ∀ {s' : Shared} {H' : Hp}, Inv (X.blk s3 H3 scope ce fp) ([] ++ pinsAt fp s7.heap) σ8 H' s' → Nx H' → ∃ m, m < n ∧ ∃ i H', Inv (X.blk s3 H3 scope ce fp) [] (wipe σ (own.map (·.2))) H' s' ∧ tn i s'.heap ∧ (∀ b ∈ fp, H' b = none) ∧ W i m H' := fun {s' H'} J' nx => by
        obtain ⟨m', lt, w'⟩ := hNx H' nx
        have pin' : ∀ b ∈ fp, ∀ o, s7.heap.get? b = some o → s'.heap.get? b = some o ∧ H' b = none := fun b hb o e =>
          ⟨(J'.pin (b, o) (List.mem_append_right _ (List.mem_append_right _ (mem_pinsAt hb e)))).1, (J'.pin (b, o) (List.mem_append_right _ (List.mem_append_right _ (mem_pinsAt hb e)))).2.1⟩
        refine ⟨m', lt, i + 1, H', (J'.unpinned (pins := [])).weak (by rw [← hw8, wipe_length]) (fun j v e => by rw [← hw8] at e; exact (wipe_some e).1), T.keep _ _ _ st7 fun b hb o e => (pin' b hb o e).1, fun b hb => ?_, w'⟩
        obtain ⟨o, e, _⟩ := T.obj _ _ st7 b hb
        exact (pin' b hb o e).2
      cases b with
      | false => exact (show (if false = true then _ else _) from iteF (fin I9 (by simpa using q9)))
      | true =>
        simp only [if_true] at q9 ⊢
        refine thnF (pk.run _ s9 σ8 H9 _ I9 q9) fun z s10 ⟨yk, H10, I10, r10, q10⟩ => thnF (pv'.run _ s10 σ8 H10 _ I10 q10) fun z2 s11 ⟨yv, H11, I11, r11, xs, S, a, ek, ev, ea, hD11, kk, lz, nx⟩ => ?_
        subst ek ev
        obtain rfl : z = Value.ref a := r10
        obtain rfl : z2 = Value.bool true := r11
        exact d_dictSetS (X := X.blk s3 H3 scope ce fp) hu I11 hD11 kk ea lz fun s12 I12 => fin I12 nx
  exact codeAny_compStart_dict loop (T.self X.A 0 _ _ _ st4 loop)
theorem pe_dcS {kx vx tg iter : Expr} {ifs : List Expr} {scope : Scope} {own : List (Str × Nat)} {pos : Pos} {wi : TI} {g : TG} {tt : TT} {tk tv : TE} (hu : X.A.units < cLine) (cm : X.calm = true) (nd : X.N.Nodup) (hi : PI X tg iter wi) (bo : BlkOk X.N X.env.scope scope own)
    (hg : ∀ s H C cl fp, PG (blkE X scope cl C s H fp) tg g) (ht : ∀ s H C cl fp, PTs (blkE X scope cl C s H fp) ifs tt) (hk : ∀ s H C cl fp, PE (blkE X scope cl C s H fp) kx tk) (hv : ∀ s H C cl fp, PE (blkE X scope cl C s H fp) vx tv)
    (hs : ∀ x, foldedSetIterable iter X.env x = pure x := by intro _; rfl) : PE X (.DictComp kx vx [⟨tg, iter, ifs, 0⟩] scope pos) (tDcS X.prog X.w wi g tt tk tv (own.map (·.2))) := by
  refine ⟨fun pins s σ H Q I h => ?_⟩
  rw [arm_eval_DictComp]
  refine dcS_core hu cm nd I hi bo hg ht hk hv hs h fun D C s' m H' J q hn f => ⟨m, hn, fun h'' sb => ?_⟩
  obtain ⟨g0, g1, g2, g3, g4, g5⟩ := f
  exact ⟨.ref D, H', J.turned (t' := s'.toks) (fun b o hb e => (sb.2 b hb).trans e) g0 g1 g3 g4 g5, rfl, q⟩
end
end HL

set_option Elab.async false
set_option linter.all false
set_option maxRecDepth 100000
set_option maxHeartbeats 4000000
/-! R4: a dict against {}, a dict's place as a target, properties of the book -/
namespace HL
open PySem PySem.Spec PyProof.Rows L2
section
variable {X : Cx}
def rEqE0 : R2 := fun x y H Q => ∃ a b kvs, x = .ref a ∧ y = .ref b ∧ H a = some (.dK kvs) ∧ H b = some (.dK []) ∧ Q (.bl (decide (kvs = []))) H
def rNeE0 : R2 := fun x y H Q => ∃ a b kvs, x = .ref a ∧ y = .ref b ∧ H a = some (.dK kvs) ∧ H b = some (.dK []) ∧ Q (.bl (!decide (kvs = []))) H
theorem dec_nil {α : Type} (l : List α) [Decidable (l = [])] : decide (l = []) = (l.length == 0 && true) := by
  cases l <;> simp
theorem op_eqE0 (hu : X.A.units < cLine) : OpR X (compareOp .Eq) rEqE0 := by
  intro pins s σ H x y v u Q I rx ry h
  obtain ⟨a, b, ks, rfl, rfl, ea, eb, q⟩ := h
  obtain rfl : v = Value.ref a := rx
  obtain rfl : u = Value.ref b := ry
  obtain ⟨_, ya, va, ra, da⟩ := dk_of I.hok ea
  obtain ⟨_, yb, vb, rb, db⟩ := dk_of I.hok eb
  cases rb
  refine PySem.W.keq_eq (knd := mixKind X.prog X.w) (r := true) ya yb da db hu (fun hl => ?_) (fin_bl I q ?_)
  · cases va with
    | nil => exact .nil
    | cons _ _ => exact absurd hl (by simp)
  · rw [dec_nil, ra.length]
    rfl
theorem op_neE0 (hu : X.A.units < cLine) : OpR X (compareOp .NotEq) rNeE0 := by
  intro pins s σ H x y v u Q I rx ry h
  obtain ⟨a, b, ks, rfl, rfl, ea, eb, q⟩ := h
  obtain rfl : v = Value.ref a := rx
  obtain rfl : u = Value.ref b := ry
  obtain ⟨_, ya, va, ra, da⟩ := dk_of I.hok ea
  obtain ⟨_, yb, vb, rb, db⟩ := dk_of I.hok eb
  cases rb
  refine PySem.W.keq_ne (knd := mixKind X.prog X.w) (r := true) ya yb da db hu (fun hl => ?_) (fin_bl I q ?_)
  · cases va with
    | nil => exact .nil
    | cons _ _ => exact absurd hl (by simp)
  · rw [dec_nil, ra.length]
    rfl
/-- d[k] = v as a target -/
def rSetD : V → V → V → Hp → (Hp → Prop) → Prop := fun o i v H Q => ∃ a H', o = .ref a ∧ DPut H a i v H' ∧ Q H'
theorem set_dict (hu : X.A.units + 1 < cLine) : PSet X rSetD := by
  intro pins s σ H o i v ov iv u Q I ro ri rv h
  obtain ⟨a, H', rfl, d, q⟩ := h
  obtain rfl : ov = Value.ref a := ro
  exact d_setItem hu I d ri rv fun s' I' => ⟨H', I', q⟩
end
/-! ### the book's fields -/
/-- a getter's promise over every context -/
structure GetO (P : Program) (w : World) (K : PySem.W.Frag) (mg : Str → Option Value) (base : Heap) (f b : Str) : Prop where
  ex : ∃ p g fd, PropOf K (He.ga K "Book") f p g ∧ FnOk P w K mg base CX0 1 g fd ["self"] (getSp (He.ga K "Book") b) ∧ Binds K fd ["self"] []
  cl : Cls K (He.ga K "Book")
theorem pe_bk {X : Cx} {e : Expr} {pos : Pos} {ta : TE} {f b : Str} (G : GetO X.prog X.w X.K X.mg X.base f b) (hr : Room 2 X.A) (he : PE X e ta) (hab : attributeBase e f X.env (eval e X.env) = eval e X.env := by rfl) :
    PE X (.Attribute e f pos) (tProp (He.ga X.K "Book") (getSp (He.ga X.K "Book") b) [] E0 ta) := by
  obtain ⟨p, g, fd, h1, h2, h3⟩ := G.ex
  exact pe_prop he G.cl h1 h2 hr h3 .nil pass0 hab
theorem rdBk {σ : L2.St} {H : Hp} {Q : VK} {i : Nat} {C a dx : Addr} {fs : List (Str × V)} {b : Str} {v : V} (hs : σ[i]? = some (some (.ref a))) (h : H a = some (.ins C dx fs)) (l : fs.lookup b = some v) (q : Q v H) :
    tProp C (getSp C b) [] E0 (tVar i) σ H Q := ⟨_, hs, a, dx, fs, rfl, h, a, dx, fs, v, rfl, h, l, q⟩
section
variable {P : Program} {w : World} {K : PySem.W.Frag} {mg : Str → Option Value} {base : Heap}
theorem get_of {f b q : Str} {st : Stmt} {p1 p2 p3 : Pos} (h : ∃ p g fd, PropOf K (He.ga K "Book") f p g ∧ FunD K f q (defArgs st) (defBody st) (defScope st) [] [] g fd) (cl : Cls K (He.ga K "Book")) (n : NoAttr K (He.ga K "Book") b)
    (S : FnScope ["self"] ["self"] (defScope st)) (hb : defBody st = [.Return (some (.Attribute (.Name "self" p1) b p2)) p3])
    (hbd : ∀ (kV doc pm : Value) (an : Option Addr) (cdv ct : Value) (us : List Value), us.length = 1 → bindArgs (PySem.W.fnOf f q (defArgs st) (defBody st) (defScope st) .none kV doc pm an cdv ct) ⟨us, []⟩ = pure ((["self"] : List Str).zip us)) : GetO P w K mg base f b := by
  obtain ⟨p, g, fd, h1, h2⟩ := h
  have B := h2.bindsN (ps := ["self"]) hbd
  obtain ⟨oc, od, dV, kV, doc, pm, an, cdv, ct, osl, rfl, lk, hcd, _, _⟩ := h2.ex
  exact ⟨⟨p, g, _, h1, fn_getter (k := 0) lk hcd S rfl hb cl n, B⟩, cl⟩
theorem bk_held (T : Txt K mg) : GetO P w K mg base "held" "b_held" := get_of (st := s_Book_held) T.pr_held T.cl T.na_held sc_Book_held rfl fun _ _ _ _ _ _ us hl => match us, hl with | [_], _ => rfl
theorem bk_each (T : Txt K mg) : GetO P w K mg base "each" "b_each" := get_of (st := s_Book_each) T.pr_each T.cl T.na_each sc_Book_each rfl fun _ _ _ _ _ _ us hl => match us, hl with | [_], _ => rfl
theorem bk_lifted (T : Txt K mg) : GetO P w K mg base "lifted" "b_lifted" := get_of (st := s_Book_lifted) T.pr_lifted T.cl T.na_lifted sc_Book_lifted rfl fun _ _ _ _ _ _ us hl => match us, hl with | [_], _ => rfl
theorem bk_ends (T : Txt K mg) : GetO P w K mg base "ends" "b_ends" := get_of (st := s_Book_ends) T.pr_ends T.cl T.na_ends sc_Book_ends rfl fun _ _ _ _ _ _ us hl => match us, hl with | [_], _ => rfl
theorem bk_bars (T : Txt K mg) : GetO P w K mg base "bars" "b_bars" := get_of (st := s_Book_bars) T.pr_bars T.cl T.na_bars sc_Book_bars rfl fun _ _ _ _ _ _ us hl => match us, hl with | [_], _ => rfl
/-- Book(held = .., .., bars = ..): how its arguments come to the parameters -/
theorem book_binds (T : Txt K mg) : ∃ fd, FunD K "__init__" "Book.__init__" (defArgs s_Book_init) (defBody s_Book_init) (defScope s_Book_init) [] [("held", .str "home")] (He.ma K (He.ga K "Book") "__init__") fd ∧
    ∃ mv : List Value, KBn K fd P_Book_init 1 ["held", "each", "lifted", "ends", "works", "bars"] (fun us ws => us ++ ws) (fun vs zs => vs ++ zs) := by
  obtain ⟨fd, F⟩ := T.fBook_init
  obtain ⟨mv, h⟩ := F.kbinds0 (ps := P_Book_init) 1 ["held", "each", "lifted", "ends", "works", "bars"] [] (fun us _ ws => us ++ ws) (fun z => nomatch z) (fun _ z => nomatch z) (fun r1 _ r3 => r1.append r3)
    (fun D doc pm an cdv ct us mv ws l1 l2 l3 => match us, l1, mv, l2, ws, l3 with | [_], _, [], _, [_, _, _, _, _, _], _ => rfl)
  exact ⟨fd, F, mv, h⟩
end
end HL

set_option Elab.async false
set_option linter.all false
set_option maxRecDepth 100000
set_option maxHeartbeats 4000000
/-! R5: rules whose reading names the written part, the written part said (for use within a comprehension's block) -/
namespace HL
open PySem PySem.Spec PyProof.Rows L2
section
variable {X : Cx} (K : PySem.W.Frag)
theorem ixL (e : X.K = K := by rfl) : IxR X (rIxL K) := e ▸ ix_list
theorem ixT (e : X.K = K := by rfl) : IxR X (rIxT K) := e ▸ ix_tup
theorem inS (e : X.K = K := by rfl) : OpR X (compareOp .In) (rIn K false) := e ▸ op_in_seq
theorem ninS (e : X.K = K := by rfl) : OpR X (compareOp .NotIn) (rIn K true) := e ▸ op_notIn_seq
theorem lenS (e : X.K = K := by rfl) : CallR X (.builtin "len") (fun xs H Q => ∃ p ys, xs = [.ref p] ∧ (SqL K H p ys ∨ SqT K H p ys) ∧ Q (.int ys.length) H) := e ▸ call_len_seq
theorem tupO (e : X.K = K := by rfl) : CallR X (.type "tuple") (fun xs H Q => ∃ p ys, xs = [.ref p] ∧ ((SqL K H p ys ∧ ∀ l, H l = none → Q (.ref l) (upd H l (.tup ys))) ∨ (SqT K H p ys ∧ Q (.ref p) H))) := e ▸ call_tuple_of
theorem lstO (e : X.K = K := by rfl) : CallR X (.type "list") (fun xs H Q => ∃ p ys, xs = [.ref p] ∧ (SqL K H p ys ∨ SqT K H p ys) ∧ ∀ l, H l = none → Q (.ref l) (upd H l (.lst ys))) := e ▸ call_list_of
theorem eqD (hu : X.A.units + 64 < cLine) (e : X.K = K := by rfl) : OpR X (compareOp .Eq) (rEqD K) := e ▸ op_eqD hu
theorem neD (hu : X.A.units + 64 < cLine) (e : X.K = K := by rfl) : OpR X (compareOp .NotEq) (rNeD K) := e ▸ op_neD hu
theorem inD (hu : X.A.units + 65 < cLine) (e : X.K = K := by rfl) : OpR X (compareOp .In) (rInD K) := e ▸ op_inD hu
theorem catT (e : X.K = K := by rfl) : OpR X (binaryOp .Add) (rCatT K) := e ▸ op_catT
theorem slL (e : X.K = K := by rfl) : SlR X (rSlL K) := e ▸ sl_list
theorem slT (e : X.K = K := by rfl) : SlR X (rSlA K) := e ▸ sl_tupA
theorem maxL (hc : X.calm = true) (e : X.K = K := by rfl) : CallR X (.builtin "max") (rMax K) := e ▸ cr_max hc
theorem minL (hc : X.calm = true) (e : X.K = K := by rfl) : CallR X (.builtin "min") (rMin K) := e ▸ cr_min hc
theorem allL (hc : X.calm = true) (e : X.K = K := by rfl) : CallR X (.builtin "all") (rAll K) := e ▸ cr_all hc
theorem sortedS (e : X.K = K := by rfl) : CallR X (.builtin "sorted") (rSortedS K) := e ▸ cr_sortedS
theorem sortedSt (e : X.K = K := by rfl) : CallR X (.builtin "sorted") (rSortedSt K) := e ▸ cr_sortedSt
theorem isi (e : X.K = K := by rfl) : CallR X (.builtin "isinstance") (rIsi K) := e ▸ call_isi
theorem isiT (e : X.K = K := by rfl) : CallR X (.builtin "isinstance") (rIsiT K) := e ▸ call_isiT
theorem pe_bkK {P : Program} {w : World} {mg : Str → Option Value} {base : Heap} {e : Expr} {pos : Pos} {ta : TE} {f b : Str} (G : GetO P w K mg base f b) (hr : Room 2 X.A) (he : PE X e ta) (e1 : X.prog = P := by rfl) (e2 : X.w = w := by rfl) (e3 : X.K = K := by rfl) (e4 : X.mg = mg := by rfl) (e5 : X.base = base := by rfl)
    (hab : attributeBase e f X.env (eval e X.env) = eval e X.env := by rfl) : PE X (.Attribute e f pos) (tProp (He.ga K "Book") (getSp (He.ga K "Book") b) [] E0 ta) := by
  subst e1 e2 e3 e4 e5
  exact pe_bk G hr he hab
theorem pe_callK {P : Program} {w : World} {mg : Str → Option Value} {base : Heap} {k : Nat} {x : Str} {ps : List Str} {sp : Sp} {e : Expr} {es : List Expr} {t : TA} {p pos : Pos} (G : OKF P w K mg base k x ps sp) (hr : Room k X.A) (hg : Gl X x) (ha : PA X (e :: es) t)
    (e1 : X.prog = P := by rfl) (e2 : X.w = w := by rfl) (e3 : X.K = K := by rfl) (e4 : X.mg = mg := by rfl) (e5 : X.base = base := by rfl) (hdb : (x == ("__debug__" : Str)) = false := by decide)
    (he : starEach (e :: es) X.env = (false, eval e X.env) :: starEach es X.env := by rfl) (hpl : (backTo pos (starEach es X.env)).any (·.1) = false := by rfl) : PE X (.Call (.Name x p) (e :: es) [] pos) (tCall sp [] E0 t) := by
  subst e1 e2 e3 e4 e5
  exact pe_callO G hr hg ha hdb he hpl
end
end HL

set_option Elab.async false
set_option linter.all false
set_option maxRecDepth 100000
set_option maxHeartbeats 4000000
/-! W1: the law's container as plain data, and where it lies in the heap -/
namespace HL
open PySem PySem.Spec PyProof.Rows L2
/-- the i-th part's name -/
def nm (i : Nat) : Str := ⟨#[97 + i]⟩
theorem nm_inj {i j : Nat} (h : nm i = nm j) : i = j := by
  have e := congrArg Str.cps h
  have e2 : (97 + i) = 97 + j := by simpa [nm] using e
  omega
def natV (k : Nat) : V := .int (k : Int)
def optV : Option Nat → V
  | none => .non
  | some k => .int (k : Int)
def wayS (b : Bool) : Str := if b then "held" else "each"
/-- what a world's book, depth and parts are, and where its fixed pieces lie -/
structure Cfg where
  held : Str
  each : Str
  lifted : Str
  ends : Str
  works : Str
  D : Nat
  n : Nat
  life : Nat → Int
  wants : Nat → List (Bool × Nat)
  w : Addr
  fl : Addr
  mo : Addr
  sc : Addr
  sh : Addr
  th : Addr
  wk : Addr
  to : Addr
  fa : Addr
  li : Addr
  bk : Addr
  ba : Addr
  bC : Addr
  bD : Addr
  bT : Addr
  pA : Nat → Addr
  wA : Nat → Addr
  qA : Nat → Nat → Addr
structure Scp where
  lev : Nat
  und : Option Nat
  ad : Addr
structure Thing where
  nm : Nat
  home : Nat
  by_ : Nat
  ended : Bool
  held : List (Option Nat)
  ad : Addr
  ha : Addr
structure Wrk where
  key : Nat
  req : Nat
  nm : Nat
  th : Option Nat
  ad : Addr
structure WS where
  c : Cfg
  scs : List Scp
  shut : List Nat
  ths : List Thing
  wks : List Wrk
  put : Nat
  lo : Addr
  loose : List Nat
  told : List Nat
  fau : List V
  deeds : Nat
  line : List V
/-! ### the tables -/
def wkv (W : WS) : List (Key × V) := [(.inr "fields", .ref W.c.fl), (.inr "depth", natV W.c.D), (.inr "model", .ref W.c.mo), (.inr "scopes", .ref W.c.sc), (.inr "shut", .ref W.c.sh), (.inr "things", .ref W.c.th),
  (.inr "works", .ref W.c.wk), (.inr "put", natV W.put), (.inr "loose", .ref W.lo), (.inr "told", .ref W.c.to), (.inr "faults", .ref W.c.fa), (.inr "deeds", natV W.deeds), (.inr "book", .ref W.c.bk), (.inr "good", .bl true), (.inr "line", .ref W.c.li)]
def flkv (c : Cfg) : List (Key × V) := [(.inr "held", .str c.held), (.inr "each", .str c.each), (.inr "lifted", .str c.lifted), (.inr "ends", .str c.ends), (.inr "works", .str c.works), (.inr "bars", .ref c.ba)]
def thkv (t : Thing) : List (Key × V) := [(.inr "name", .str (nm t.nm)), (.inr "home", natV t.home), (.inr "held", .ref t.ha), (.inr "ended", .bl t.ended), (.inr "by", natV t.by_)]
def mokv (c : Cfg) : List (Key × V) := (List.range c.n).map fun i => (.inr (nm i), .ref (c.pA i))
def sckv (l : List Scp) : List (Key × V) := l.zipIdx.map fun p => (.inl (p.2 : Int), .ref p.1.ad)
def wokv (l : List Wrk) : List (Key × V) := l.map fun x => (.inl (x.key : Int), .ref x.ad)
def bfs (c : Cfg) : List (Str × V) := [("b_held", .str c.held), ("b_each", .str c.each), ("b_lifted", .str c.lifted), ("b_ends", .str c.ends), ("b_works", .str c.works), ("b_bars", .ref c.bT)]
section
variable (W : WS)
theorem wk_fields : valV (wkv W) (.inr "fields") = some (.ref W.c.fl) := by kernel_rfl
theorem wk_depth : valV (wkv W) (.inr "depth") = some (natV W.c.D) := by kernel_rfl
theorem wk_model : valV (wkv W) (.inr "model") = some (.ref W.c.mo) := by kernel_rfl
theorem wk_scopes : valV (wkv W) (.inr "scopes") = some (.ref W.c.sc) := by kernel_rfl
theorem wk_shut : valV (wkv W) (.inr "shut") = some (.ref W.c.sh) := by kernel_rfl
theorem wk_things : valV (wkv W) (.inr "things") = some (.ref W.c.th) := by kernel_rfl
theorem wk_works : valV (wkv W) (.inr "works") = some (.ref W.c.wk) := by kernel_rfl
theorem wk_put : valV (wkv W) (.inr "put") = some (natV W.put) := by kernel_rfl
theorem wk_loose : valV (wkv W) (.inr "loose") = some (.ref W.lo) := by kernel_rfl
theorem wk_told : valV (wkv W) (.inr "told") = some (.ref W.c.to) := by kernel_rfl
theorem wk_faults : valV (wkv W) (.inr "faults") = some (.ref W.c.fa) := by kernel_rfl
theorem wk_deeds : valV (wkv W) (.inr "deeds") = some (natV W.deeds) := by kernel_rfl
theorem wk_book : valV (wkv W) (.inr "book") = some (.ref W.c.bk) := by kernel_rfl
theorem wk_good : valV (wkv W) (.inr "good") = some (.bl true) := by kernel_rfl
theorem wk_line : valV (wkv W) (.inr "line") = some (.ref W.c.li) := by kernel_rfl
theorem wkput_loose (a : Addr) : putK (wkv W) (.inr "loose") (.ref a) = wkv { W with lo := a } := by kernel_rfl
theorem wkput_put (k : Nat) : putK (wkv W) (.inr "put") (natV k) = wkv { W with put := k } := by kernel_rfl
theorem wkput_deeds (k : Nat) : putK (wkv W) (.inr "deeds") (natV k) = wkv { W with deeds := k } := by kernel_rfl
end
section
variable (c : Cfg)
theorem fl_held : valV (flkv c) (.inr "held") = some (.str c.held) := by kernel_rfl
theorem fl_each : valV (flkv c) (.inr "each") = some (.str c.each) := by kernel_rfl
theorem fl_lifted : valV (flkv c) (.inr "lifted") = some (.str c.lifted) := by kernel_rfl
theorem fl_ends : valV (flkv c) (.inr "ends") = some (.str c.ends) := by kernel_rfl
theorem fl_works : valV (flkv c) (.inr "works") = some (.str c.works) := by kernel_rfl
theorem fl_bars : valV (flkv c) (.inr "bars") = some (.ref c.ba) := by kernel_rfl
end
section
variable (t : Thing)
theorem tk_name : valV (thkv t) (.inr "name") = some (.str (nm t.nm)) := by kernel_rfl
theorem tk_home : valV (thkv t) (.inr "home") = some (natV t.home) := by kernel_rfl
theorem tk_held : valV (thkv t) (.inr "held") = some (.ref t.ha) := by kernel_rfl
theorem tk_ended : valV (thkv t) (.inr "ended") = some (.bl t.ended) := by kernel_rfl
theorem tk_by : valV (thkv t) (.inr "by") = some (natV t.by_) := by kernel_rfl
theorem tkput_ended (b : Bool) : putK (thkv t) (.inr "ended") (.bl b) = thkv { t with ended := b } := by kernel_rfl
theorem tkput_held (l : List (Option Nat)) (a : Addr) : putK (thkv t) (.inr "held") (.ref a) = thkv { t with held := l, ha := a } := by kernel_rfl
end
theorem valV_map_at {α : Type} (f : α → Key) (g : α → V) (hf : ∀ x y, f x = f y → x = y) : ∀ (l : List α) (x : α), x ∈ l → valV (l.map fun x => (f x, g x)) (f x) = some (g x)
  | [], x, h => by cases h
  | y :: l, x, h => by
    rw [List.map_cons]
    by_cases e : f y = f x
    · rw [valV_pos (p := (f y, g y)) e, hf _ _ e]
    · rw [valV_neg (p := (f y, g y)) e]
      rcases List.mem_cons.mp h with q | q
      · exact absurd (by rw [q]) e
      · exact valV_map_at f g hf l x q
theorem mo_at (c : Cfg) {i : Nat} (h : i < c.n) : valV (mokv c) (.inr (nm i)) = some (.ref (c.pA i)) :=
  valV_map_at (fun i => (.inr (nm i) : Key)) (fun i => .ref (c.pA i)) (fun x y e => nm_inj (Sum.inr.inj e)) _ i (List.mem_range.mpr h)
theorem sc_at_aux : ∀ (l : List Scp) (j k : Nat) (s : Scp), l[k]? = some s → valV ((l.zipIdx j).map fun p => ((.inl (p.2 : Int) : Key), V.ref p.1.ad)) (.inl ((j + k : Nat) : Int)) = some (.ref s.ad)
  | [], j, k, s, h => by cases h
  | x :: l, j, 0, s, h => by
    have e : x = s := by simpa using h
    rw [List.zipIdx_cons, List.map_cons, valV_pos (by simp), e]
  | x :: l, j, k + 1, s, h => by
    rw [List.zipIdx_cons, List.map_cons, valV_neg (by simp; omega)]
    have q := sc_at_aux l (j + 1) k s (by simpa using h)
    have e : j + 1 + k = j + (k + 1) := by omega
    rw [e] at q
    exact q
theorem sc_at {l : List Scp} {k : Nat} {s : Scp} (h : l[k]? = some s) : valV (sckv l) (.inl (k : Int)) = some (.ref s.ad) := by
  have q := sc_at_aux l 0 k s h
  rw [Nat.zero_add] at q
  exact q
theorem sc_none_aux : ∀ (l : List Scp) (j m : Nat), m < j ∨ j + l.length ≤ m → valV ((l.zipIdx j).map fun p => ((.inl (p.2 : Int) : Key), V.ref p.1.ad)) (.inl ((m : Nat) : Int)) = none
  | [], j, m, h => rfl
  | x :: l, j, m, h => by
    rw [List.zipIdx_cons, List.map_cons, valV_neg (by simp at h ⊢; omega)]
    exact sc_none_aux l (j + 1) m (by simp at h; omega)
theorem sc_new (l : List Scp) (s : Scp) : putK (sckv l) (.inl ((l.length : Nat) : Int)) (.ref s.ad) = sckv (l ++ [s]) := by
  rw [putK_new (kvs := sckv l) _ (sc_none_aux l 0 l.length (.inr (by omega)))]
  simp [sckv, List.zipIdx_append]
theorem wo_at {l : List Wrk} {x : Wrk} (hx : x ∈ l) (nd : (l.map (·.key)).Nodup) : valV (wokv l) (.inl (x.key : Int)) = some (.ref x.ad) := by
  induction l with
  | nil => cases hx
  | cons y l ih =>
    rw [List.map_cons, List.nodup_cons] at nd
    unfold wokv
    rw [List.map_cons]
    rcases List.mem_cons.mp hx with e | q
    · rw [valV_pos (by rw [e]), e]
    · rw [valV_neg]
      · exact ih q nd.2
      · intro e
        have e2 : y.key = x.key := by have := Sum.inl.inj e; exact Int.ofNat.inj this
        exact nd.1 (by rw [e2]; exact List.mem_map.mpr ⟨x, q, rfl⟩)
theorem wo_none : ∀ {l : List Wrk} {k : Nat}, (∀ x ∈ l, x.key ≠ k) → valV (wokv l) (.inl (k : Int)) = none
  | [], k, h => rfl
  | y :: l, k, h => by
    unfold wokv
    rw [List.map_cons, valV_neg]
    · exact wo_none fun x hx => h x (List.mem_cons_of_mem _ hx)
    · intro e
      have e2 : y.key = k := by have := Sum.inl.inj e; exact Int.ofNat.inj this
      exact h y (List.mem_cons_self ..) e2
theorem wo_new {l : List Wrk} (x : Wrk) (h : ∀ y ∈ l, y.key ≠ x.key) : putK (wokv l) (.inl (x.key : Int)) (.ref x.ad) = wokv (l ++ [x]) := by
  rw [putK_new _ (wo_none h)]
  simp [wokv]
theorem wo_drop (l : List Wrk) (k : Nat) : dropK (wokv l) (.inl (k : Int)) = wokv (l.filter fun x => decide (x.key ≠ k)) := by
  induction l with
  | nil => rfl
  | cons y l ih =>
    unfold wokv dropK at ih ⊢
    rw [List.map_cons, List.filter_cons, List.filter_cons]
    by_cases e : y.key = k
    · rw [if_neg (by simp [e]), if_neg (by simp [e])]
      exact ih
    · have e2 : ¬ ((Sum.inl (y.key : Int) : Key) = Sum.inl (k : Int)) := fun q => e (by have := Sum.inl.inj q; exact Int.ofNat.inj this)
      rw [if_pos (by simp [e2]), if_pos (by simp [e]), List.map_cons, ih]
/-! ### where it lies -/
def thC (ths : List Thing) : List (Addr × HO) := ths.map fun t => (t.ad, .dK (thkv t))
/-- what changes -/
def cells (W : WS) : List (Addr × HO) := (W.c.w, .dK (wkv W)) :: (W.c.sc, .dK (sckv W.scs)) :: (W.c.sh, .lst (W.shut.map natV)) :: (W.c.th, .lst (W.ths.map fun t => .ref t.ad)) :: (W.c.wk, .dK (wokv W.wks)) ::
  (W.lo, .lst (W.loose.map natV)) :: (W.c.to, .lst (W.told.map natV)) :: (W.c.fa, .lst W.fau) :: (W.c.li, .lst W.line) :: thC W.ths
def muts (W : WS) : List Addr := (cells W).map (·.1)
/-- what stays -/
inductive Stt (W : WS) : Addr → HO → Prop
  | fl : Stt W W.c.fl (.dK (flkv W.c))
  | mo : Stt W W.c.mo (.dK (mokv W.c))
  | part (i : Nat) (h : i < W.c.n) : Stt W (W.c.pA i) (.tup [.int (W.c.life i), .ref (W.c.wA i)])
  | wts (i : Nat) (h : i < W.c.n) : Stt W (W.c.wA i) (.tup ((List.range (W.c.wants i).length).map fun j => .ref (W.c.qA i j)))
  | want (i : Nat) (h : i < W.c.n) (j : Nat) (q : Bool × Nat) (e : (W.c.wants i)[j]? = some q) : Stt W (W.c.qA i j) (.tup [.str (wayS q.1), .str (nm q.2)])
  | scp (s : Scp) (h : s ∈ W.scs) : Stt W s.ad (.tup [natV s.lev, optV s.und])
  | hld (t : Thing) (h : t ∈ W.ths) : Stt W t.ha (.tup (t.held.map optV))
  | wrk (x : Wrk) (h : x ∈ W.wks) : Stt W x.ad (.tup [natV x.req, .str (nm x.nm), optV x.th])
  | bk : Stt W W.c.bk (.ins W.c.bC W.c.bD (bfs W.c))
  | bT : Stt W W.c.bT (.tup [])
structure WAt (H : Hp) (W : WS) : Prop where
  cel : ∀ p ∈ cells W, H p.1 = some p.2
  nd : (muts W).Nodup
  st : ∀ a o, Stt W a o → H a = some o
  sep : ∀ a o, Stt W a o → a ∉ muts W
section
variable {H H' : Hp} {W : WS}
theorem WAt.hw (h : WAt H W) : H W.c.w = some (.dK (wkv W)) := h.cel (W.c.w, _) (by simp [cells])
theorem WAt.hsc (h : WAt H W) : H W.c.sc = some (.dK (sckv W.scs)) := h.cel (W.c.sc, _) (by simp [cells])
theorem WAt.hsh (h : WAt H W) : H W.c.sh = some (.lst (W.shut.map natV)) := h.cel (W.c.sh, _) (by simp [cells])
theorem WAt.hth (h : WAt H W) : H W.c.th = some (.lst (W.ths.map fun t => .ref t.ad)) := h.cel (W.c.th, _) (by simp [cells])
theorem WAt.hwk (h : WAt H W) : H W.c.wk = some (.dK (wokv W.wks)) := h.cel (W.c.wk, _) (by simp [cells])
theorem WAt.hlo (h : WAt H W) : H W.lo = some (.lst (W.loose.map natV)) := h.cel (W.lo, _) (by simp [cells])
theorem WAt.hto (h : WAt H W) : H W.c.to = some (.lst (W.told.map natV)) := h.cel (W.c.to, _) (by simp [cells])
theorem WAt.hfa (h : WAt H W) : H W.c.fa = some (.lst W.fau) := h.cel (W.c.fa, _) (by simp [cells])
theorem WAt.hli (h : WAt H W) : H W.c.li = some (.lst W.line) := h.cel (W.c.li, _) (by simp [cells])
theorem WAt.htt (h : WAt H W) {t : Thing} (ht : t ∈ W.ths) : H t.ad = some (.dK (thkv t)) := h.cel (t.ad, _) (by
  simp only [cells, List.mem_cons]
  exact .inr (.inr (.inr (.inr (.inr (.inr (.inr (.inr (.inr (List.mem_map.mpr ⟨t, ht, rfl⟩))))))))))
theorem WAt.mem (h : WAt H W) {a : Addr} (ha : a ∈ muts W) : ∃ o, (a, o) ∈ cells W ∧ H a = some o := by
  obtain ⟨p, hp, e⟩ := List.mem_map.mp ha
  obtain ⟨b, o⟩ := p
  cases e
  exact ⟨o, hp, h.cel _ hp⟩
theorem cells_kind {p : Addr × HO} (h : p ∈ cells W) : (∃ kvs, p.2 = .dK kvs) ∨ ∃ xs, p.2 = .lst xs := by
  simp only [cells, List.mem_cons] at h
  rcases h with e | e | e | e | e | e | e | e | e | e
  all_goals first
    | (rw [e]; first | exact .inl ⟨_, rfl⟩ | exact .inr ⟨_, rfl⟩)
    | (obtain ⟨t, _, e⟩ := List.mem_map.mp e; rw [← e]; exact .inl ⟨_, rfl⟩)
/-- a tuple, an instance: nothing of a world's changes it -/
theorem WAt.nmut (h : WAt H W) {a : Addr} {o : HO} (e : H a = some o) (h1 : ∀ kvs, o ≠ .dK kvs) (h2 : ∀ xs, o ≠ .lst xs) : a ∉ muts W := fun ha => by
  obtain ⟨u, hu, e2⟩ := h.mem ha
  rw [e] at e2
  cases e2
  rcases cells_kind hu with ⟨k, q⟩ | ⟨x, q⟩
  · exact h1 k q
  · exact h2 x q
theorem WAt.ntup (h : WAt H W) {a : Addr} {xs : List V} (e : H a = some (.tup xs)) : a ∉ muts W := h.nmut e (fun _ z => nomatch z) fun _ z => nomatch z
theorem WAt.nnew (h : WAt H W) {a : Addr} (e : H a = none) : a ∉ muts W := fun ha => by
  obtain ⟨u, _, e2⟩ := h.mem ha
  rw [e] at e2
  cases e2
/-- all but the world's own is kept -/
def Keep (M : List Addr) (H H' : Hp) : Prop := ∀ b o, b ∉ M → H b = some o → H' b = some o
theorem WAt.same (h : WAt H W) (s : Same H H') : WAt H' W := ⟨fun p hp => s _ _ (h.cel p hp), h.nd, fun a o e => s _ _ (h.st a o e), h.sep⟩
theorem same_new {a : Addr} {o : HO} (h : H a = none) : Same H (upd H a o) := fun b u e => by
  rw [upd_ne (ne_of_none e h)]
  exact e
theorem WAt.new (h : WAt H W) {a : Addr} {o : HO} (e : H a = none) : WAt (upd H a o) W := h.same (same_new e)
/-- one piece is changed -/
theorem WAt.mut (h : WAt H W) {W' : WS} {a : Addr} {o o' : HO} {L1 L2 : List (Addr × HO)} (e : cells W = L1 ++ (a, o) :: L2) (e' : cells W' = L1 ++ (a, o') :: L2) (hs : ∀ b u, Stt W' b u → Stt W b u) : WAt (upd H a o') W' := by
  have em : muts W' = muts W := by
    unfold muts
    rw [e, e']
    simp
  have nd := h.nd
  have hnd : ∀ p ∈ L1 ++ L2, p.1 ≠ a := by
    intro p hp q
    unfold muts at nd
    rw [e, List.map_append, List.map_cons, List.nodup_append] at nd
    obtain ⟨n1, n2, n3⟩ := nd
    rw [List.nodup_cons] at n2
    rcases List.mem_append.mp hp with z | z
    · exact n3 p.1 (List.mem_map.mpr ⟨p, z, rfl⟩) a (List.mem_cons_self ..) q
    · exact n2.1 (List.mem_map.mpr ⟨p, z, q⟩)
  refine ⟨fun p hp => ?_, by rw [em]; exact h.nd, fun b u q => ?_, fun b u q => by rw [em]; exact h.sep b u (hs b u q)⟩
  · rw [e'] at hp
    rcases List.mem_append.mp hp with z | z
    · rw [upd_ne (hnd p (List.mem_append_left _ z))]
      exact h.cel p (by rw [e]; exact List.mem_append_left _ z)
    · rcases List.mem_cons.mp z with z | z
      · rw [z]
        exact upd_same
      · rw [upd_ne (hnd p (List.mem_append_right _ z))]
        exact h.cel p (by rw [e]; exact List.mem_append_right _ (List.mem_cons_of_mem _ z))
  · have ha : a ∈ muts W := by
      unfold muts
      rw [e]
      simp
    rw [upd_ne (fun z => h.sep b u (hs b u q) (by rw [z]; exact ha))]
    exact h.st b u (hs b u q)
theorem mut_mem {L1 L2 : List (Addr × HO)} {a : Addr} {o : HO} (e : cells W = L1 ++ (a, o) :: L2) : a ∈ muts W := by
  unfold muts
  rw [e]
  simp
end
/-! ### from heap to heap -/
/-- what is no piece of the world is kept, and its new pieces are new -/
structure Ext (W : WS) (H : Hp) (W' : WS) (H' : Hp) : Prop where
  keep : Keep (muts W) H H'
  new : ∀ b ∈ muts W', b ∈ muts W ∨ H b = none
section
variable {H H1 H2 : Hp} {W W1 W2 : WS}
theorem Ext.refl : Ext W H W H := ⟨fun _ _ _ e => e, fun _ h => .inl h⟩
theorem Ext.trans (a : Ext W H W1 H1) (b : Ext W1 H1 W2 H2) : Ext W H W2 H2 where
  keep := fun c o hc e => by
    have hc1 : c ∉ muts W1 := fun z => by
      rcases a.new c z with q | q
      · exact hc q
      · rw [e] at q
        cases q
    exact b.keep c o hc1 (a.keep c o hc e)
  new := fun c hc => by
    rcases b.new c hc with q | q
    · exact a.new c q
    · by_cases z : c ∈ muts W
      · exact .inl z
      · right
        cases e : H c with
        | none => rfl
        | some o =>
          rw [a.keep c o z e] at q
          cases q
theorem Ext.of_same (s : Same H H1) : Ext W H W H1 := ⟨fun b o _ e => s b o e, fun _ h => .inl h⟩
theorem Ext.upd {a : Addr} {o : HO} (ha : a ∈ muts W) (hm : muts W1 = muts W) : Ext W H W1 (upd H a o) := ⟨fun b u hb e => by
  rw [upd_ne (fun z => hb (by rw [z]; exact ha))]
  exact e, fun b hb => .inl (by rw [← hm]; exact hb)⟩
theorem Ext.tup (x : Ext W H W1 H1) (h : WAt H W) {a : Addr} {xs : List V} (e : H a = some (.tup xs)) : H1 a = some (.tup xs) := x.keep a _ (h.ntup e) e
end
/-! ### readings -/
theorem dget_of {H : Hp} {a : Addr} {kvs : List (Key × V)} {k : Key} {v : V} (h : H a = some (.dK kvs)) (e : valV kvs k = some v) : DGet H a (kV k) (some v) := by
  have q := DGet.k (k := k) h
  rw [e] at q
  exact q
theorem rdW {σ : L2.St} {H : Hp} {Q : VK} {i : Nat} {x : Str} {v : V} {W : WS} (hs : σ[i]? = some (some (.ref W.c.w))) (h : WAt H W) (hv : valV (wkv W) (.inr x) = some v) (q : Q v H) : tDGet (tVar i) (tC (.str x)) σ H Q :=
  ⟨_, hs, _, _, rfl, dget_of (k := .inr x) h.hw hv, q⟩
theorem rdF {σ : L2.St} {H : Hp} {Q : VK} {i : Nat} {x : Str} {v : V} {W : WS} (hs : σ[i]? = some (some (.ref W.c.w))) (h : WAt H W) (hv : valV (flkv W.c) (.inr x) = some v) (q : Q v H) : tDGet (tDGet (tVar i) (tC (.str "fields"))) (tC (.str x)) σ H Q :=
  rdW hs h (wk_fields W) ⟨_, _, rfl, dget_of (k := .inr x) (h.st _ _ .fl) hv, q⟩
theorem rdT {σ : L2.St} {H : Hp} {Q : VK} {i : Nat} {x : Str} {v : V} {W : WS} {t : Thing} (hs : σ[i]? = some (some (.ref t.ad))) (h : WAt H W) (ht : t ∈ W.ths) (hv : valV (thkv t) (.inr x) = some v) (q : Q v H) : tDGet (tVar i) (tC (.str x)) σ H Q :=
  ⟨_, hs, _, _, rfl, dget_of (k := .inr x) (h.htt ht) hv, q⟩
end HL

set_option Elab.async false
set_option linter.all false
set_option maxRecDepth 100000
set_option maxHeartbeats 4000000
/-! S1: the book's checks, numbers, bars, depths, faults, forms -/
namespace HL
open PySem PySem.Spec PyProof.Rows L2
theorem flat_strs (ws : List Str) : (ws.map V.str).all flatV = true := by
  rw [List.all_eq_true]
  intro x hx
  obtain ⟨y, _, rfl⟩ := List.mem_map.mp hx
  rfl
theorem inV_strs {x : Str} {ws : List Str} : inV (.str x) (ws.map V.str) = decide (x ∈ ws) := by
  unfold inV
  rw [List.any_map]
  by_cases h : x ∈ ws
  · rw [decide_eq_true h, List.any_eq_true]
    exact ⟨x, h, by simp [eqV]⟩
  · rw [decide_eq_false h, List.any_eq_false]
    intro y hy e
    have e2 : (y == x) = true := e
    exact h (by rw [← eq_of_beq e2]; exact hy)
theorem iteNF {A B : Prop} (h : A) : if (!false) = true then A else B := h
theorem iteNT {A B : Prop} (h : B) : if (!true) = true then A else B := by
  rw [if_neg (by simp)]
  exact h
section
variable {P : Program} {w : World} {K : PySem.W.Frag} {mg : Str → Option Value} {base : Heap}
def spIsOneOf (K : PySem.W.Frag) : Sp := fun vs H Q _ => ∃ (x : Str) (a : Addr) (ws : List Str), vs = [.str x, .ref a] ∧ SqT K H a (ws.map V.str) ∧ x ∈ ws ∧ Q (.bl true) H
theorem ok_is_one_of (T : Txt K mg) : OKF P w K mg base 1 "is_one_of" P_is_one_of (spIsOneOf K) := by
  refine okf T.f_is_one_of sc_is_one_of (fun _ _ _ _ _ _ us hl => match us, hl with | [_, _], _ => rfl) (fun vs H Q E h => ?_) (fun cdv A outer s H vs Q E hr h => ⟨_, (pss_one (ps_ret (pe_and (pe_callB (isi K) (by rfl) T.b_isinstance (by decide +kernel) (pa_cons (pv 0) (pa_cons (pe_bltn (v := .ty "str") (by rfl) T.b_str (by decide +kernel) rfl) pa_nil))) (pe_one (pe_cmpR (inS K) (pv 0) (pv 1) (by rfl)))))), ?_⟩)
  · obtain ⟨x, a, ws, rfl, _⟩ := h
    rfl
  · obtain ⟨x, a, ws, rfl, hs, hx, q⟩ := h
    refine ⟨_, rfl, _, _, _, _, true, rfl, .ty _, .base (.str x), kit_ty (by decide +kernel), true, rfl, ?_⟩
    refine ⟨_, rfl, _, rfl, a, _, rfl, .inr hs, rfl, flat_strs ws, ?_⟩
    rw [inV_strs, decide_eq_true hx]
    exact q
def spNeedField (K : PySem.W.Frag) : Sp := fun vs H Q _ => ∃ (f x : Str) (a : Addr) (ws : List Str), vs = [.str f, .str x, .ref a] ∧ SqT K H a (ws.map V.str) ∧ x ∈ ws ∧ Q .non H
theorem ok_need_field (T : Txt K mg) : OKF P w K mg base 2 "need_field" P_need_field (spNeedField K) := by
  have G_is_one_of := ok_is_one_of (P := P) (w := w) (base := base) T
  refine okf T.f_need_field sc_need_field (fun _ _ _ _ _ _ us hl => match us, hl with | [_, _, _], _ => rfl) (fun vs H Q E h => ?_) (fun cdv A outer s H vs Q E hr h => ⟨_, (pss_one (ps_if (pt_not (pt_val (pe_callK K G_is_one_of (hr.mono (by omega)) (by rfl) (pa_cons (pv 1) (pa_cons (pv 2) pa_nil))))) (pss_one ps_never) pss_nil)), ?_⟩)
  · obtain ⟨f, x, a, ws, rfl, _⟩ := h
    rfl
  · obtain ⟨f, x, a, ws, rfl, hs, hx, q⟩ := h
    refine ⟨_, rfl, _, rfl, x, a, ws, rfl, hs, hx, true, rfl, ?_⟩
    exact iteNT q
def spAreBars : Sp := fun vs H Q _ => ∃ (a : Addr), vs = [.ref a] ∧ H a = some (.lst []) ∧ ∀ H', Same H H' → Q (.bl true) H'
theorem ok_are_bars (T : Txt K mg) : OKF P w K mg base 2 "are_bars" P_are_bars spAreBars := by
  have G_is_one_of := ok_is_one_of (P := P) (w := w) (base := base) T
  refine okf T.f_are_bars sc_are_bars (fun _ _ _ _ _ _ us hl => match us, hl with | [_], _ => rfl) (fun vs H Q E h => ?_) (fun cdv A outer s H vs Q E hr h => ⟨_, (pss_cons (ps_if (PW.pt (pw_or (pt_not (pt_val (pe_callB (isiT K) (by rfl) T.b_isinstance (by decide +kernel) (pa_cons (pv 0) (pa_cons (pe_tup (pa_cons (pe_bltn (v := .ty "list") (by rfl) T.b_list (by decide +kernel) rfl) (pa_cons (pe_bltn (v := .ty "tuple") (by rfl) T.b_tuple (by decide +kernel) rfl) pa_nil))) pa_nil))))) (pw_or1 (pt_not (pt_val (pe_callB (allL K rfl) (by rfl) T.b_all (by decide +kernel) (pa_cons (pe_lc (own := [("word", 1)]) (g := (gName 1)) (tt := tYes) rfl sc_are_bars.nd (pi_list (pv 0)) (blkOk_by (own := [("word", 1)]) (N := N_are_bars) (sc := defScope s_are_bars) (by decide +kernel)) (fun _ _ _ _ _ => (pg_name (i := 1) sc_are_bars.nd rfl (by first | exact Or.inl rfl | exact Or.inr rfl) (by first | exact .inl rfl | exact .inr rfl))) (fun _ _ _ _ _ => pts_nil) (fun _ _ _ _ _ => (pe_callK K G_is_one_of (hr.mono (by omega)) (by rfl) (pa_cons (pv 1) (pa_cons (pe_gRef (by rfl) T.cBARS) pa_nil))))) pa_nil))))))) (pss_one (ps_ret pe_bl)) pss_nil)
    (pss_one (ps_ret (pe_cmpR op_eq (pe_lenSet rfl (by rfl) T.b_len (by rfl) T.b_set (pv 0)) (pe_callB (lenS K) (by rfl) T.b_len (by decide +kernel) (pa_cons (pv 0) pa_nil)) (nomark _))))), ?_⟩)
  · obtain ⟨a, rfl, _⟩ := h
    rfl
  · obtain ⟨a, rfl, ha, q⟩ := h
    refine ⟨_, rfl, by decide, fun t nt => ?_⟩
    have s1 := same_new (o := .tup [V.ty "list", V.ty "tuple"]) nt
    refine ⟨_, t, [V.ty "list", V.ty "tuple"], .type "list", [.type "list", .type "tuple"], true, rfl, upd_same, .cons (.ty _) (.cons (.ty _) .nil), .base (.lst (s1 _ _ ha)), kitAny_cons (b := true) (kit_ty (b := "list") (by decide +kernel)) (fun z => absurd z (by decide)) (fun _ => rfl), true, rfl, ?_⟩
    refine iteNT ?_
    refine ⟨_, rfl, a, rfl, ⟨_, SqL.of (s1 _ _ ha)⟩, fun D nD => ?_⟩
    have s2 : Same H (upd (upd H t (.tup [V.ty "list", V.ty "tuple"])) D (.lst [])) := s1.trans (same_new nD)
    refine lc_list (K := K) (a := a) (xs := []) (fun i H' => i = 0 ∧ Same H H' ∧ H' D = some (.lst [])) ⟨rfl, s2, upd_same⟩ (fun i H' _ p => SqL.of (p.2.1 _ _ ha)) (fun i x H' hi _ => by simp at hi) (fun H' p => ?_)
    refine ⟨D, [], rfl, SqL.of p.2.2, true, rfl, ?_⟩
    refine iteNT ?_
    refine ⟨_, rfl, a, [], rfl, .inl (SqL.of (p.2.1 _ _ ha)), by decide, ?_⟩
    refine ⟨_, rfl, a, [], rfl, .inl (SqL.of (p.2.1 _ _ ha)), ?_⟩
    exact ⟨rfl, q _ p.2.1⟩
def spNeedBook (K : PySem.W.Frag) : Sp := fun vs H Q _ => ∃ (a dx : Addr) (fs : List (Str × V)), vs = [.ref a] ∧ H a = some (.ins (He.ga K "Book") dx fs) ∧ Q .non H
theorem ok_need_book (T : Txt K mg) : OKF P w K mg base 1 "need_book" P_need_book (spNeedBook K) := by
  refine okf T.f_need_book sc_need_book (fun _ _ _ _ _ _ us hl => match us, hl with | [_], _ => rfl) (fun vs H Q E h => ?_) (fun cdv A outer s H vs Q E hr h => ⟨_, (pss_one (ps_if (pt_not (pt_val (pe_callB (C8.call_isC T.ic) (by rfl) T.b_isinstance (by decide +kernel) (pa_cons (pv 0) (pa_cons (pe_gRef (by rfl) T.cBook) pa_nil))))) (pss_one ps_never) pss_nil)), ?_⟩)
  · obtain ⟨a, dx, fs, rfl, _⟩ := h
    rfl
  · obtain ⟨a, dx, fs, rfl, ha, q⟩ := h
    exact ⟨_, rfl, a, dx, fs, rfl, ha, true, rfl, iteNT q⟩
def spIsNumber : Sp := fun vs H Q _ => ∃ (i : Int), vs = [.int i] ∧ Q (.bl true) H
theorem ok_is_number (T : Txt K mg) : OKF P w K mg base 1 "is_number" P_is_number spIsNumber := by
  refine okf T.f_is_number sc_is_number (fun _ _ _ _ _ _ us hl => match us, hl with | [_], _ => rfl) (fun vs H Q E h => ?_) (fun cdv A outer s H vs Q E hr h => ⟨_, (pss_one (ps_ret (pe_and (pe_callB (isi K) (by rfl) T.b_isinstance (by decide +kernel) (pa_cons (pv 0) (pa_cons (pe_bltn (v := .ty "int") (by rfl) T.b_int (by decide +kernel) rfl) pa_nil))) (pe_one (pe_not (pe_callB (isi K) (by rfl) T.b_isinstance (by decide +kernel) (pa_cons (pv 0) (pa_cons (pe_bltn (v := .ty "bool") (by rfl) T.b_bool (by decide +kernel) rfl) pa_nil)))))))), ?_⟩)
  · obtain ⟨i, rfl, _⟩ := h
    rfl
  · obtain ⟨i, rfl, q⟩ := h
    refine ⟨_, rfl, _, _, _, _, true, rfl, .ty _, .base (.int i), kit_ty (by decide +kernel), true, rfl, ?_⟩
    exact ⟨_, rfl, _, _, _, _, false, rfl, .ty _, .base (.int i), kit_ty (by decide +kernel), false, rfl, q⟩
def spBarOf : Sp := fun vs H Q _ => ∃ (l : Int) (b : Bool) (u : Int), vs = [.int l, .str (wayS b), .int u] ∧ ∀ v, flatV v = true → Q v H
theorem wayS_len (b : Bool) : (wayS b).length = 4 := by cases b <;> decide +kernel
theorem ok_bar_of (T : Txt K mg) : OKF P w K mg base 1 "bar_of" P_bar_of spBarOf := by
  refine okf T.f_bar_of sc_bar_of (fun _ _ _ _ _ _ us hl => match us, hl with | [_, _, _], _ => rfl) (fun vs H Q E h => ?_) (fun cdv A outer s H vs Q E hr h => ⟨_, (pss_cons (ps_if (pt_cmpR op_eq (pv 0) (pe_gInt (by rfl) T.cUSE) (nomark _)) (pss_one (ps_ret (pe_ifExp (pt_cmpR op_gt (pv 2) pe_int (nomark _)) (pe_op op_add_str pe_str (pv 1)) pe_non))) pss_nil)
    (pss_cons (ps_if (pt_cmpR op_eq (pv 2) (pe_gInt (by rfl) T.cUSE) (nomark _)) (pss_one (ps_ret (pe_op op_add_str (pv 1) pe_str))) pss_nil)
    (pss_one (ps_ret (pe_ifExp (pt_cmpR op_gt (pv 2) (pv 0) (nomark _)) (pe_op op_add_str (pv 1) pe_str) pe_non))))), ?_⟩)
  · obtain ⟨l, b, u, rfl, _⟩ := h
    rfl
  · obtain ⟨l, b, u, rfl, q⟩ := h
    refine ⟨_, rfl, rfl, _, rfl, ?_⟩
    refine ite2 (fun _ => ?_) (fun _ => ?_)
    · refine ⟨_, rfl, _, _, rfl, rfl, _, rfl, ?_⟩
      refine ite2 (fun _ => ?_) (fun _ => ?_)
      · exact ⟨_, rfl, _, _, rfl, rfl, by rw [wayS_len]; decide +kernel, q _ rfl⟩
      · exact q _ rfl
    · refine ⟨_, rfl, rfl, _, rfl, ?_⟩
      refine ite2 (fun _ => ?_) (fun _ => ?_)
      · exact ⟨_, rfl, _, _, rfl, rfl, by rw [wayS_len]; decide +kernel, q _ rfl⟩
      · refine ⟨_, rfl, _, rfl, _, _, rfl, rfl, _, rfl, ?_⟩
        refine ite2 (fun _ => ?_) (fun _ => ?_)
        · exact ⟨_, rfl, _, _, rfl, rfl, by rw [wayS_len]; decide +kernel, q _ rfl⟩
        · exact q _ rfl
def spNeedDepth : Sp := fun vs H Q _ => ∃ (D : Int), vs = [.int D] ∧ 1 ≤ D ∧ D ≤ 3 ∧ Q .non H
theorem ok_need_depth (T : Txt K mg) : OKF P w K mg base 2 "need_depth" P_need_depth spNeedDepth := by
  have G_is_number := ok_is_number (P := P) (w := w) (base := base) T
  refine okf T.f_need_depth sc_need_depth (fun _ _ _ _ _ _ us hl => match us, hl with | [_], _ => rfl) (fun vs H Q E h => ?_) (fun cdv A outer s H vs Q E hr h => ⟨_, (pss_one (ps_if (PW.pt (pw_or (pt_not (pt_val (pe_callK K G_is_number (hr.mono (by omega)) (by rfl) (pa_cons (pv 0) pa_nil)))) (pw_or1 (pt_not (pt_chain op_le op_le pe_int (pv 0) (pe_gInt (by rfl) T.cMOST)))))) (pss_one ps_never) pss_nil)), ?_⟩)
  · obtain ⟨D, rfl, _⟩ := h
    rfl
  · obtain ⟨D, rfl, h1, h2, q⟩ := h
    refine ⟨_, rfl, D, rfl, true, rfl, ?_⟩
    refine iteNT ?_
    refine ⟨_, rfl, _, _, rfl, rfl, _, rfl, ?_⟩
    rw [decide_eq_true h1]
    refine iteT ⟨_, _, rfl, rfl, _, rfl, ?_⟩
    rw [decide_eq_true h2]
    exact iteNT q
def spNeedFault : Sp := fun vs H Q _ => ∃ (f : Str), vs = [.str f] ∧ f ∈ (["ended", "left", "missing", "strayed"] : List Str) ∧ Q .non H
theorem ok_need_fault (T : Txt K mg) : OKF P w K mg base 1 "need_fault" P_need_fault spNeedFault := by
  refine okf T.f_need_fault sc_need_fault (fun _ _ _ _ _ _ us hl => match us, hl with | [_], _ => rfl) (fun vs H Q E h => ?_) (fun cdv A outer s H vs Q E hr h => ⟨_, (pss_one (ps_if (PW.pt (pw_or (pt_not (pt_val (pe_callB (isi K) (by rfl) T.b_isinstance (by decide +kernel) (pa_cons (pv 0) (pa_cons (pe_bltn (v := .ty "str") (by rfl) T.b_str (by decide +kernel) rfl) pa_nil))))) (pw_or1 (pt_cmpR (ninS K) (pv 0) (pe_gRef (by rfl) T.cFAULTS) (by rfl))))) (pss_one ps_never) pss_nil)), ?_⟩)
  · obtain ⟨D, rfl, _⟩ := h
    rfl
  · obtain ⟨f, rfl, h1, q⟩ := h
    refine ⟨_, rfl, _, _, _, _, true, rfl, .ty _, .base (.str f), kit_ty (by decide +kernel), true, rfl, ?_⟩
    refine iteNT ?_
    refine ⟨_, rfl, _, _, rfl, .inr (T.tFAULTS H), rfl, rfl, _, rfl, ?_⟩
    have e := inV_strs (x := f) (ws := (["ended", "left", "missing", "strayed"] : List Str))
    rw [decide_eq_true h1] at e
    show if (!inV (.str f) ((["ended", "left", "missing", "strayed"] : List Str).map V.str)) = true then _ else _
    rw [e]
    exact iteNT q
/-- the value is the tuple of a stand -/
def StAt (H : Hp) (a : Addr) (S : Stand) : Prop := H a = some (.tup (stV S))
def isForm (D : Int) (S : Stand) : Prop := (-1 ≤ S.life ∧ S.life ≤ D) ∧ (0 ≤ S.level ∧ S.level ≤ (if S.life = -1 then D else S.life)) ∧ (0 ≤ S.common ∧ S.common < D) ∧ (S.own = true → S.common = 0 ∧ S.past = false)
def spIsForm : Sp := fun vs H Q _ => ∃ (D : Int) (a : Addr) (S : Stand), vs = [.int D, .ref a] ∧ StAt H a S ∧ isForm D S ∧ ∀ H', Same H H' → Q (.bl true) H'
theorem decint {a b : Int} : decide (V.int a = V.int b) = decide (a = b) := decide_eq_decide.mpr ⟨fun e => V.int.inj e, fun e => by rw [e]⟩
theorem decstr {a b : Str} : decide (V.str a = V.str b) = decide (a = b) := decide_eq_decide.mpr ⟨fun e => V.str.inj e, fun e => by rw [e]⟩
theorem ok_is_form (T : Txt K mg) : OKF P w K mg base 2 "is_form" P_is_form spIsForm := by
  have G_is_number := ok_is_number (P := P) (w := w) (base := base) T
  refine okf T.f_is_form sc_is_form (fun _ _ _ _ _ _ us hl => match us, hl with | [_, _], _ => rfl) (fun vs H Q E h => ?_) (fun cdv A outer s H vs Q E hr h => ⟨_, (pss_cons (ps_if (PW.pt (pw_or (pt_not (pt_val (pe_callB (isi K) (by rfl) T.b_isinstance (by decide +kernel) (pa_cons (pv 1) (pa_cons (pe_bltn (v := .ty "tuple") (by rfl) T.b_tuple (by decide +kernel) rfl) pa_nil))))) (pw_or1 (pt_cmpR op_ne (pe_callB (lenS K) (by rfl) T.b_len (by decide +kernel) (pa_cons (pv 1) pa_nil)) pe_int (nomark _))))) (pss_one (ps_ret pe_bl)) pss_nil)
    (pss_cons (ps_asg (pv 1) (pg_tup rfl (pgs_cons (pg_name (i := 2) sc_is_form.nd rfl (Or.inl rfl)) (pgs_cons (pg_name (i := 3) sc_is_form.nd rfl (Or.inl rfl)) (pgs_cons (pg_name (i := 4) sc_is_form.nd rfl (Or.inl rfl)) (pgs_cons (pg_name (i := 5) sc_is_form.nd rfl (Or.inl rfl)) (pgs_cons (pg_name (i := 6) sc_is_form.nd rfl (Or.inl rfl)) (pgs_cons (pg_name (i := 7) sc_is_form.nd rfl (Or.inl rfl)) pgs_nil))))))))
    (pss_cons (ps_if (PW.pt (pw_or (pt_not (pt_val (pe_callK K G_is_number (hr.mono (by omega)) (by rfl) (pa_cons (pv 2) pa_nil)))) (pw_or (pt_not (pt_val (pe_callK K G_is_number (hr.mono (by omega)) (by rfl) (pa_cons (pv 3) pa_nil)))) (pw_or1 (pt_not (pt_val (pe_callK K G_is_number (hr.mono (by omega)) (by rfl) (pa_cons (pv 5) pa_nil)))))))) (pss_one (ps_ret pe_bl)) pss_nil)
    (pss_cons (ps_if (PW.pt (pw_or (pt_not (pt_val (pe_callB (isi K) (by rfl) T.b_isinstance (by decide +kernel) (pa_cons (pv 4) (pa_cons (pe_bltn (v := .ty "str") (by rfl) T.b_str (by decide +kernel) rfl) pa_nil))))) (pw_or1 (pt_cmpR (ninS K) (pv 4) (pe_tup (pa_cons (pe_gStr (by rfl) T.cOWN) (pa_cons (pe_gStr (by rfl) T.cOTHER) pa_nil))) (by rfl))))) (pss_one (ps_ret pe_bl)) pss_nil)
    (pss_cons (ps_if (PW.pt (pw_or (pt_not (pt_val (pe_callB (isi K) (by rfl) T.b_isinstance (by decide +kernel) (pa_cons (pv 6) (pa_cons (pe_bltn (v := .ty "bool") (by rfl) T.b_bool (by decide +kernel) rfl) pa_nil))))) (pw_or1 (pt_not (pt_val (pe_callB (isi K) (by rfl) T.b_isinstance (by decide +kernel) (pa_cons (pv 7) (pa_cons (pe_bltn (v := .ty "bool") (by rfl) T.b_bool (by decide +kernel) rfl) pa_nil)))))))) (pss_one (ps_ret pe_bl)) pss_nil)
    (pss_cons (ps_if (PW.pt (pw_or (pt_not (pt_chain op_le op_le (pe_gInt (by rfl) T.cUSE) (pv 2) (pv 0))) (pw_or (pt_not (pt_chain op_le op_le pe_int (pv 3) (pe_ifExp (pt_cmpR op_eq (pv 2) (pe_gInt (by rfl) T.cUSE) (nomark _)) (pv 0) (pv 2)))) (pw_or1 (pt_not (pt_chain op_le op_lt pe_int (pv 5) (pv 0))))))) (pss_one (ps_ret pe_bl)) pss_nil)
    (pss_one (ps_ret (pe_or (pe_cmpR op_eq (pv 4) (pe_gStr (by rfl) T.cOTHER) (nomark _)) (pe_one (pe_and (pe_cmpR op_eq (pv 5) pe_int (nomark _)) (pe_one (pe_not (pv 6)))))))))))))), ?_⟩)
  · obtain ⟨D, a, S, rfl, _⟩ := h
    rfl
  · obtain ⟨D, a, S, rfl, hS, ⟨⟨f1, f2⟩, ⟨f3, f4⟩, ⟨f5, f6⟩, f7⟩, q⟩ := h
    refine ⟨_, rfl, _, _, _, _, true, rfl, .ty _, .base (.tup hS), kit_ty (by decide +kernel), true, rfl, ?_⟩
    refine iteNT ?_
    refine ⟨_, rfl, a, _, rfl, .inr (SqT.of hS), ?_⟩
    refine ⟨rfl, _, rfl, ?_⟩
    refine iteF ?_
    refine ⟨_, rfl, a, _, rfl, SqT.of hS, rfl, ?_⟩
    refine ⟨_, _, rfl, _, _, rfl, _, _, rfl, _, _, rfl, _, _, rfl, _, _, rfl, rfl, ?_⟩
    refine ⟨_, rfl, _, rfl, true, rfl, ?_⟩
    refine iteNT ?_
    refine ⟨_, rfl, _, rfl, true, rfl, ?_⟩
    refine iteNT ?_
    refine ⟨_, rfl, _, rfl, true, rfl, ?_⟩
    refine iteNT ?_
    refine ⟨_, rfl, _, _, _, _, true, rfl, .ty _, .base (.str _), kit_ty (by decide +kernel), true, rfl, ?_⟩
    refine iteNT ?_
    refine ⟨_, rfl, by decide, fun t nt => ?_⟩
    have s1 := same_new (o := .tup [V.str "own", V.str "other"]) nt
    refine ⟨t, _, rfl, .inr (SqT.of upd_same), rfl, rfl, _, rfl, ?_⟩
    have e1 : inV (.str (madeS S.own)) [V.str "own", V.str "other"] = true := by
      cases S.own <;> decide +kernel
    show if (!inV (.str (madeS S.own)) [V.str "own", V.str "other"]) = true then _ else _
    rw [e1]
    refine iteNT ?_
    refine ⟨_, rfl, _, _, _, _, true, rfl, .ty _, .base (.bl _), kit_ty (by decide +kernel), true, rfl, ?_⟩
    refine iteNT ?_
    refine ⟨_, rfl, _, _, _, _, true, rfl, .ty _, .base (.bl _), kit_ty (by decide +kernel), true, rfl, ?_⟩
    refine iteNT ?_
    -- the bounds
    refine ⟨_, rfl, _, _, rfl, rfl, _, rfl, ?_⟩
    rw [decide_eq_true f1]
    refine iteT ⟨_, rfl, _, _, rfl, rfl, _, rfl, ?_⟩
    rw [decide_eq_true f2]
    refine iteNT ?_
    refine ⟨_, rfl, _, _, rfl, rfl, _, rfl, ?_⟩
    rw [decide_eq_true f3]
    refine iteT ?_
    refine ⟨_, rfl, rfl, _, rfl, ?_⟩
    rw [decint]
    refine ite2 (fun c => ?_) (fun c => ?_)
    · have c1 : S.life = -1 := of_decide_eq_true c
      rw [if_pos c1] at f4
      refine ⟨_, rfl, ?_⟩
      refine ⟨_, _, rfl, rfl, _, rfl, ?_⟩
      rw [decide_eq_true f4]
      refine iteNT ?_
      refine ⟨_, rfl, _, _, rfl, rfl, _, rfl, ?_⟩
      rw [decide_eq_true f5]
      refine iteT ⟨_, rfl, _, _, rfl, rfl, _, rfl, ?_⟩
      rw [decide_eq_true f6]
      refine iteNT ?_
      refine ⟨_, rfl, rfl, _, rfl, ?_⟩
      have e2 : decide (V.str (madeS S.own) = V.str "other") = !S.own := by cases S.own <;> decide +kernel
      rw [e2]
      cases ho : S.own with
      | false => exact iteT (q _ s1)
      | true =>
        obtain ⟨g1, g2⟩ := f7 ho
        refine iteF ⟨_, rfl, rfl, _, rfl, ?_⟩
        rw [g1]
        refine ⟨_, rfl, _, rfl, ?_⟩
        rw [g2]
        exact q _ s1
    · have c1 : ¬ S.life = -1 := fun z => c (decide_eq_true z)
      rw [if_neg c1] at f4
      refine ⟨_, rfl, ?_⟩
      refine ⟨_, _, rfl, rfl, _, rfl, ?_⟩
      rw [decide_eq_true f4]
      refine iteNT ?_
      refine ⟨_, rfl, _, _, rfl, rfl, _, rfl, ?_⟩
      rw [decide_eq_true f5]
      refine iteT ⟨_, rfl, _, _, rfl, rfl, _, rfl, ?_⟩
      rw [decide_eq_true f6]
      refine iteNT ?_
      refine ⟨_, rfl, rfl, _, rfl, ?_⟩
      have e2 : decide (V.str (madeS S.own) = V.str "other") = !S.own := by cases S.own <;> decide +kernel
      rw [e2]
      cases ho : S.own with
      | false => exact iteT (q _ s1)
      | true =>
        obtain ⟨g1, g2⟩ := f7 ho
        refine iteF ⟨_, rfl, rfl, _, rfl, ?_⟩
        rw [g1]
        refine ⟨_, rfl, _, rfl, ?_⟩
        rw [g2]
        exact q _ s1
def spNeedStand : Sp := fun vs H Q _ => ∃ (D : Int) (a : Addr) (S : Stand), vs = [.int D, .ref a] ∧ StAt H a S ∧ isForm D S ∧ ∀ H', Same H H' → Q .non H'
theorem ok_need_stand (T : Txt K mg) : OKF P w K mg base 3 "need_stand" P_need_stand spNeedStand := by
  have G_is_form := ok_is_form (P := P) (w := w) (base := base) T
  refine okf T.f_need_stand sc_need_stand (fun _ _ _ _ _ _ us hl => match us, hl with | [_, _], _ => rfl) (fun vs H Q E h => ?_) (fun cdv A outer s H vs Q E hr h => ⟨_, (pss_one (ps_if (pt_not (pt_val (pe_callK K G_is_form (hr.mono (by omega)) (by rfl) (pa_cons (pv 0) (pa_cons (pv 1) pa_nil))))) (pss_one ps_never) pss_nil)), ?_⟩)
  · obtain ⟨D, a, S, rfl, _⟩ := h
    rfl
  · obtain ⟨D, a, S, rfl, hS, hf, q⟩ := h
    exact ⟨_, rfl, _, rfl, D, a, S, rfl, hS, hf, fun H' s1 => ⟨true, rfl, iteNT (q H' s1)⟩⟩
/-! ### the book made -/
def bf5 (c1 c2 c3 c4 c5 : Str) : List (Str × V) := [("b_held", V.str c1), ("b_each", .str c2), ("b_lifted", .str c3), ("b_ends", .str c4), ("b_works", .str c5)]
def bf6 (c1 c2 c3 c4 c5 : Str) (t : Addr) : List (Str × V) := [("b_held", V.str c1), ("b_each", .str c2), ("b_lifted", .str c3), ("b_ends", .str c4), ("b_works", .str c5), ("b_bars", .ref t)]
/-- Book.__init__: a fresh instance gets its six fields -/
def spBookInit (K : PySem.W.Frag) : Sp := fun vs H Q _ => ∃ (x dx ba : Addr) (c1 c2 c3 c4 c5 : Str), vs = [.ref x, .str c1, .str c2, .str c3, .str c4, .str c5, .ref ba] ∧ H x = some (.ins (He.ga K "Book") dx []) ∧ H ba = some (.lst []) ∧
  c1 ∈ (["home", "now"] : List Str) ∧ c2 ∈ (["now", "program"] : List Str) ∧ c3 ∈ (["nothing", "kept"] : List Str) ∧ c4 ∈ (["holder", "never", "scope"] : List Str) ∧ c5 ∈ (["own", "same", "wait"] : List Str) ∧
  ∀ H' t, (∀ b o, b ≠ x → H b = some o → H' b = some o) → H' x = some (.ins (He.ga K "Book") dx (bf6 c1 c2 c3 c4 c5 t)) → H' t = some (.tup []) → Q .non H'
theorem ok_Book_init (T : Txt K mg) {fd : FuncData} (F : FunD K "__init__" "Book.__init__" (defArgs s_Book_init) (defBody s_Book_init) (defScope s_Book_init) [] [("held", .str "home")] (He.ma K (He.ga K "Book") "__init__") fd) :
    FnOk P w K mg base CX0 4 (He.ma K (He.ga K "Book") "__init__") fd P_Book_init (spBookInit K) := by
  have G_need_field := ok_need_field (P := P) (w := w) (base := base) T
  have G_are_bars := ok_are_bars (P := P) (w := w) (base := base) T
  refine F.ok sc_Book_init (fun vs H Q E h => ?_) (fun cdv A outer s H vs Q E hr h => ⟨_, PSs.nox (pss_cons (ps_expr (pe_callK K G_need_field (hr.mono (by omega)) (by rfl) (pa_cons pe_str (pa_cons (pv 1) (pa_cons (pe_gRef (by rfl) T.cHELD) pa_nil)))))
    (pss_cons (ps_expr (pe_callK K G_need_field (hr.mono (by omega)) (by rfl) (pa_cons pe_str (pa_cons (pv 2) (pa_cons (pe_gRef (by rfl) T.cEACH) pa_nil)))))
    (pss_cons (ps_expr (pe_callK K G_need_field (hr.mono (by omega)) (by rfl) (pa_cons pe_str (pa_cons (pv 3) (pa_cons (pe_gRef (by rfl) T.cLIFTED) pa_nil)))))
    (pss_cons (ps_expr (pe_callK K G_need_field (hr.mono (by omega)) (by rfl) (pa_cons pe_str (pa_cons (pv 4) (pa_cons (pe_gRef (by rfl) T.cENDS) pa_nil)))))
    (pss_cons (ps_expr (pe_callK K G_need_field (hr.mono (by omega)) (by rfl) (pa_cons pe_str (pa_cons (pv 5) (pa_cons (pe_gRef (by rfl) T.cWORKS) pa_nil)))))
    (pss_cons (ps_if (pt_not (pt_val (pe_callK K G_are_bars (hr.mono (by omega)) (by rfl) (pa_cons (pv 6) pa_nil)))) (pss_one ps_never) pss_nil)
    (pss_cons (ps_fld (pv 0) (pv 1) rfl)
    (pss_cons (ps_fld (pv 0) (pv 2) rfl)
    (pss_cons (ps_fld (pv 0) (pv 3) rfl)
    (pss_cons (ps_fld (pv 0) (pv 4) rfl)
    (pss_cons (ps_fld (pv 0) (pv 5) rfl)
    (pss_one (ps_fld (pv 0) (pe_callTy (tupO K) (by rfl) T.b_tuple (by decide +kernel) (pa_cons (pe_callB (sortedS K) (by rfl) T.b_sorted (by decide +kernel) (pa_cons (pv 6) pa_nil)) pa_nil)) rfl))))))))))))), ?_⟩)
  · obtain ⟨x, dx, ba, c1, c2, c3, c4, c5, rfl, _⟩ := h
    rfl
  · obtain ⟨x, dx, ba, c1, c2, c3, c4, c5, rfl, hx, hba, h1, h2, h3, h4, h5, q⟩ := h
    refine ⟨_, rfl, _, _, _, (["home", "now"] : List Str), rfl, T.tHELD H, h1, ?_⟩
    refine ⟨_, rfl, _, _, _, (["now", "program"] : List Str), rfl, T.tEACH H, h2, ?_⟩
    refine ⟨_, rfl, _, _, _, (["nothing", "kept"] : List Str), rfl, T.tLIFTED H, h3, ?_⟩
    refine ⟨_, rfl, _, _, _, (["holder", "never", "scope"] : List Str), rfl, T.tENDS H, h4, ?_⟩
    refine ⟨_, rfl, _, _, _, (["own", "same", "wait"] : List Str), rfl, T.tWORKS H, h5, ?_⟩
    refine ⟨_, rfl, ba, rfl, hba, fun H1 s1 => ⟨true, rfl, iteNT ?_⟩⟩
    have nbx : ba ≠ x := ne_of hba hx (fun z => nomatch z)
    refine ⟨_, rfl, _, rfl, x, _, dx, _, rfl, s1 _ _ hx, T.cl, T.na_held, by decide, ?_⟩
    refine ⟨_, rfl, _, rfl, x, _, dx, _, rfl, upd_same, T.cl, T.na_each, by show 1 < 1000; decide, ?_⟩
    refine ⟨_, rfl, _, rfl, x, _, dx, _, rfl, upd_same, T.cl, T.na_lifted, by show 2 < 1000; decide, ?_⟩
    refine ⟨_, rfl, _, rfl, x, _, dx, _, rfl, upd_same, T.cl, T.na_ends, by show 3 < 1000; decide, ?_⟩
    refine ⟨_, rfl, _, rfl, x, _, dx, _, rfl, upd_same, T.cl, T.na_works, by show 4 < 1000; decide, ?_⟩
    simp only [upd_upd]
    have e5 : putF "b_works" (.str c5) (putF "b_ends" (.str c4) (putF "b_lifted" (.str c3) (putF "b_each" (.str c2) (putF "b_held" (.str c1) [])))) = bf5 c1 c2 c3 c4 c5 := by kernel_rfl
    rw [e5]
    refine ⟨_, rfl, ba, [], rfl, SqL.of (by rw [upd_ne nbx]; exact s1 _ _ hba), by decide, fun ys p hp _ np => ?_⟩
    have ey : ys = [] := hp.eq_nil
    subst ey
    refine ⟨p, _, rfl, .inl ⟨SqL.of upd_same, fun t nt => ?_⟩⟩
    have npx : x ≠ p := fun z => by rw [← z, upd_same] at np; cases np
    have ntx : x ≠ t := fun z => by rw [← z, upd_ne npx, upd_same] at nt; cases nt
    have ntp : t ≠ x := fun z => ntx z.symm
    refine ⟨_, rfl, x, _, dx, _, rfl, by rw [upd_ne ntx, upd_ne npx, upd_same], T.cl, T.na_bars, by show 5 < 1000; decide, ?_⟩
    have e6 : putF "b_bars" (.ref t) (bf5 c1 c2 c3 c4 c5) = bf6 c1 c2 c3 c4 c5 t := by kernel_rfl
    rw [e6]
    refine q _ t (fun b o nb hb => ?_) upd_same (by rw [upd_ne ntp]; exact upd_same)
    rw [upd_ne nb]
    have hb1 := s1 _ _ hb
    have npb : b ≠ p := fun z => by
      rw [← z, upd_ne nb, hb1] at np
      cases np
    have ntb : b ≠ t := fun z => by
      rw [← z, upd_ne npb, upd_ne nb, hb1] at nt
      cases nt
    rw [upd_ne ntb, upd_ne npb, upd_ne nb]
    exact hb1
end
end HL

set_option Elab.async false
set_option linter.all false
set_option maxRecDepth 100000
set_option maxHeartbeats 4000000
/-! S2: the stands' defs -/
namespace HL
open PySem PySem.Spec PyProof.Rows L2
theorem szl {l : List V} (h : l.length ≤ 1000 := by first | (simp; done) | decide) : l.length ≤ sizeLine := Nat.le_trans h (by decide)
abbrev SA := Stand × Addr
def refsOf (xs : List SA) : List V := xs.map fun q => V.ref q.2
structure LstAt (H : Hp) (p : Addr) (xs : List SA) : Prop where
  at_ : H p = some (.lst (refsOf xs))
  keys : KeysSt H xs
/-- all but the one at D is kept -/
def KeepD (D : Addr) (H H' : Hp) : Prop := ∀ b o, b ≠ D → H b = some o → H' b = some o
theorem KeepD.refl {D : Addr} {H : Hp} : KeepD D H H := fun _ _ _ h => h
theorem KeepD.trans {D : Addr} {H H1 H2 : Hp} (a : KeepD D H H1) (b : KeepD D H1 H2) : KeepD D H H2 := fun c o hc e => b c o hc (a c o hc e)
theorem KeepD.of {D : Addr} {H H' : Hp} (s : Same H H') : KeepD D H H' := fun b o _ e => s b o e
theorem KeepD.upd {D : Addr} {H : Hp} {o : HO} : KeepD D H (upd H D o) := fun b u hb e => by
  rw [upd_ne hb]
  exact e
theorem KeepD.same {D : Addr} {H H' : Hp} (k : KeepD D H H') (n : H D = none) : Same H H' := fun b o e => k b o (ne_of_none e n) e
theorem KeysSt.same {H H' : Hp} {xs : List SA} (k : KeysSt H xs) (s : Same H H') : KeysSt H' xs := fun p hp => s _ _ (k p hp)
theorem KeysSt.upd {H : Hp} {xs : List SA} {D : Addr} {l : List V} {o : HO} (k : KeysSt H xs) (h : H D = some (.lst l)) : KeysSt (upd H D o) xs := fun p hp => by
  rw [upd_ne (ne_of (k p hp) h (fun z => nomatch z))]
  exact k p hp
theorem KeysSt.app {H : Hp} {xs ys : List SA} (a : KeysSt H xs) (b : KeysSt H ys) : KeysSt H (xs ++ ys) := fun p hp => (List.mem_append.mp hp).elim (a p) (b p)
theorem LstAt.same {H H' : Hp} {p : Addr} {xs : List SA} (k : LstAt H p xs) (s : Same H H') : LstAt H' p xs := ⟨s _ _ k.at_, k.keys.same s⟩
theorem refsOf_len (xs : List SA) : (refsOf xs).length = xs.length := List.length_map ..
theorem refsOf_app (xs ys : List SA) : refsOf (xs ++ ys) = refsOf xs ++ refsOf ys := List.map_append ..
def kOne (life level c : Int) (past : Bool) : Stand := ⟨life, level, false, c, past, decide (level = 0)⟩
def keptM (life level : Int) : Nat → List Stand
  | 0 => [⟨life, level, true, 0, false, decide (level = 0)⟩]
  | n + 1 => keptM life level n ++ [kOne life level (level + n) false, kOne life level (level + n) true]
def keptL (life level depth : Int) : List Stand := keptM life level (depth - level).toNat
theorem mem_keptM {life level : Int} {S : Stand} : ∀ {n : Nat}, S ∈ keptM life level n ↔ S = ⟨life, level, true, 0, false, decide (level = 0)⟩ ∨ ∃ i past, i < n ∧ S = kOne life level (level + (i : Nat)) past
  | 0 => by simp [keptM]
  | n + 1 => by
    unfold keptM
    rw [List.mem_append, mem_keptM (n := n)]
    constructor
    · rintro ((h | ⟨i, p, h1, h2⟩) | h)
      · exact .inl h
      · exact .inr ⟨i, p, by omega, h2⟩
      · rcases List.mem_cons.mp h with h | h
        · exact .inr ⟨n, false, by omega, h⟩
        · exact .inr ⟨n, true, by omega, by simpa using h⟩
    · rintro (h | ⟨i, p, h1, h2⟩)
      · exact .inl (.inl h)
      · by_cases e : i = n
        · subst e
          right
          cases p <;> simp [h2]
        · exact .inl (.inr ⟨i, p, by omega, h2⟩)
theorem keptM_len {life level : Int} : ∀ n, (keptM life level n).length = 1 + 2 * n
  | 0 => rfl
  | n + 1 => by
    unfold keptM
    rw [List.length_append, keptM_len n]
    simp
    omega
theorem mem_keptL {life level depth : Int} {S : Stand} : S ∈ keptL life level depth ↔ S = ⟨life, level, true, 0, false, decide (level = 0)⟩ ∨ ∃ c past, level ≤ c ∧ c < depth ∧ S = kOne life level c past := by
  unfold keptL
  rw [mem_keptM]
  constructor
  · rintro (h | ⟨i, p, h1, h2⟩)
    · exact .inl h
    · exact .inr ⟨level + (i : Nat), p, by omega, by omega, h2⟩
  · rintro (h | ⟨c, p, h1, h2, h3⟩)
    · exact .inl h
    · exact .inr ⟨(c - level).toNat, p, by omega, by rw [h3]; congr 1; omega⟩
section
variable {P : Program} {w : World} {K : PySem.W.Frag} {mg : Str → Option Value} {base : Heap}
/-- hands back a new list of these stands -/
def Gives (H : Hp) (L : List Stand) (Q : VK) : Prop := ∀ (H' : Hp) (p : Addr) (xs : List SA), Same H H' → H p = none → LstAt H' p xs → xs.map (·.1) = L → Q (.ref p) H'
def spKept : Sp := fun vs H Q _ => ∃ (life level depth : Int), vs = [.int life, .int level, .int depth] ∧ 0 ≤ level ∧ level ≤ 3 ∧ depth ≤ 3 ∧ 0 ≤ depth ∧ Gives H (keptL life level depth) Q
theorem stk_own (life level : Int) : [V.int life, .int level, .str "own", .int 0, .bl false, .bl (decide (V.int level = V.int 0))] = stV ⟨life, level, true, 0, false, decide (level = 0)⟩ := by
  rw [decint]
  rfl
theorem stk_one (life level c : Int) (p : Bool) : [V.int life, .int level, .str "other", .int c, .bl p, .bl (decide (V.int level = V.int 0))] = stV (kOne life level c p) := by
  rw [decint]
  rfl
theorem ok_kept_in_common (T : Txt K mg) : OKF P w K mg base 1 "kept_in_common" P_kept_in_common spKept := by
  refine okf T.f_kept_in_common sc_kept_in_common (fun _ _ _ _ _ _ us hl => match us, hl with | [_, _, _], _ => rfl) (fun vs H Q E h => ?_) (fun cdv A outer s H vs Q E hr h => ⟨_, (pss_cons (ps_set (i := 3) sc_kept_in_common.nd rfl (Or.inl rfl) (pe_lst (pa_cons (pe_tup (pa_cons (pv 0) (pa_cons (pv 1) (pa_cons (pe_gStr (by rfl) T.cOWN) (pa_cons pe_int (pa_cons pe_bl (pa_cons (pe_cmpR op_eq (pv 1) pe_int (nomark _)) pa_nil))))))) pa_nil)))
    (pss_cons (ps_for PassesOwn.never rfl (pi_range2 (by rfl) T.b_range (pa_cons (pv 1) (pa_cons (pv 2) pa_nil))) (pg_name (i := 4) sc_kept_in_common.nd rfl (Or.inr rfl)) (pss_one (ps_set (i := 3) sc_kept_in_common.nd rfl (Or.inl rfl) (pe_op op_cat (pv 3) (pe_lc (own := [("past", 5)]) (g := (gName 5)) (tt := tYes) rfl sc_kept_in_common.nd (pi_tup (pe_tup (pa_cons pe_bl (pa_cons pe_bl pa_nil)))) (blkOk_by (own := [("past", 5)]) (N := N_kept_in_common) (sc := defScope s_kept_in_common) (by decide +kernel)) (fun _ _ _ _ _ => (pg_name (i := 5) sc_kept_in_common.nd rfl (by first | exact Or.inl rfl | exact Or.inr rfl) (by first | exact .inl rfl | exact .inr rfl))) (fun _ _ _ _ _ => pts_nil) (fun _ _ _ _ _ => (pe_tup (pa_cons (pv 0) (pa_cons (pv 1) (pa_cons (pe_gStr (by rfl) T.cOTHER) (pa_cons (pv 4) (pa_cons (pv 5) (pa_cons (pe_cmpR op_eq (pv 1) pe_int (nomark _)) pa_nil)))))))))))))
    (pss_one (ps_ret (pv 3))))), ?_⟩)
  · obtain ⟨life, level, depth, rfl, _⟩ := h
    rfl
  · obtain ⟨life, level, depth, rfl, h1, h2, h3, h4, q⟩ := h
    refine ⟨_, rfl, _, rfl, _, rfl, rfl, szl, fun t nt => ?_⟩
    rw [stk_own]
    refine ⟨szl, fun l nl => ?_⟩
    have nlt : t ≠ l := fun z => by rw [← z, upd_same] at nl; cases nl
    have nl0 : H l = none := by rw [upd_ne (Ne.symm nlt)] at nl; exact nl
    have s1 : Same H (upd (upd H t (.tup (stV ⟨life, level, true, 0, false, decide (level = 0)⟩))) l (.lst [V.ref t])) := (same_new nt).trans (same_new nl)
    refine ⟨_, rfl, _, rfl, level, depth, rfl, ⟨by omega, by omega, by omega, by omega⟩, ?_⟩
    refine for_range (lo := level) (n := (depth - level).toNat) (fun i σ H' => ∃ (p : Addr) (xs : List SA) (x5 x6 : Option V), σ = [some (.int life), some (.int level), some (.int depth), some (.ref p), x5, x6] ∧ Same H H' ∧ H p = none ∧ LstAt H' p xs ∧ xs.map (·.1) = keptM life level i)
      ⟨l, [(⟨life, level, true, 0, false, decide (level = 0)⟩, t)], none, none, rfl, s1, nl0, ⟨upd_same, fun p hp => ?_⟩, rfl⟩ ?_ ?_
    · have e : p = (⟨life, level, true, 0, false, decide (level = 0)⟩, t) := by simpa using hp
      rw [e]
      show upd _ l _ t = _
      rw [upd_ne nlt]
      exact upd_same
    · rintro i σ H1 hi ⟨p, xs, x5, x6, rfl, sH, np, hl, hm⟩
      refine ⟨_, rfl, by decide, fun u nu => ?_⟩
      refine ⟨_, rfl, ⟨_, SqT.of upd_same⟩, fun D nD => ?_⟩
      have nDu : u ≠ D := fun z => by rw [← z, upd_same] at nD; cases nD
      have nD1 : H1 D = none := by rw [upd_ne (Ne.symm nDu)] at nD; exact nD
      have sA : Same H1 (upd (upd H1 u (.tup [V.bl false, V.bl true])) D (.lst [])) := (same_new nu).trans (same_new nD)
      refine lc_tup (K := K) (a := u) (xs := [V.bl false, V.bl true]) (fun j H2 => ∃ ys : List SA, H2 D = some (.lst (refsOf ys)) ∧ KeysSt H2 ys ∧ KeepD D H1 H2 ∧ H2 u = some (.tup [V.bl false, V.bl true]) ∧ ys.map (·.1) = [kOne life level (level + (i : Nat)) false, kOne life level (level + (i : Nat)) true].take j ∧ j ≤ 2)
        ⟨[], upd_same, (fun _ z => nomatch z), .of sA, by rw [upd_ne nDu]; exact upd_same, rfl, by omega⟩ (fun j H2 _ ⟨ys, _, _, _, e, _⟩ => SqT.of e) ?_ ?_
      · rintro j x H2 hx ⟨ys, e1, e2, e3, e4, e5, e6⟩
        refine ⟨rfl, ?_⟩
        obtain ⟨b, rfl, hb⟩ : ∃ b, x = V.bl b ∧ [kOne life level (level + (i : Nat)) false, kOne life level (level + (i : Nat)) true].take (j + 1) = [kOne life level (level + (i : Nat)) false, kOne life level (level + (i : Nat)) true].take j ++ [kOne life level (level + (i : Nat)) b] := by
          match j, hx with
          | 0, hx => exact ⟨false, (by simpa using hx.symm), rfl⟩
          | 1, hx => exact ⟨true, (by simpa using hx.symm), rfl⟩
          | j + 2, hx => simp at hx
        have hj : j < 2 := by
          rcases Nat.lt_or_ge j 2 with z | z
          · exact z
          · rw [List.getElem?_eq_none (by simpa using z)] at hx
            cases hx
        refine ⟨_, rfl, _, rfl, _, rfl, _, rfl, _, rfl, rfl, szl, fun v nv => ?_⟩
        rw [stk_one]
        have nDv : D ≠ v := ne_of_none e1 nv
        refine ⟨refsOf ys, by rw [upd_ne nDv]; exact e1, ?_, ys ++ [(kOne life level (level + (i : Nat)) b, v)], ?_, ?_, ?_, ?_, ?_, by omega⟩
        · have := congrArg List.length e5
          rw [List.length_map] at this
          rw [refsOf_len, this, List.length_take]
          exact Nat.lt_of_le_of_lt (Nat.min_le_right _ _) (show 2 < sizeLine by decide)
        · rw [upd_same, refsOf_app]
          rfl
        · refine KeysSt.upd (l := refsOf ys) (KeysSt.app (e2.same (same_new nv)) fun p hp => ?_) (by rw [upd_ne nDv]; exact e1)
          have e : p = (kOne life level (level + (i : Nat)) b, v) := by simpa using hp
          rw [e]
          exact upd_same
        · exact e3.trans ((KeepD.of (same_new nv)).trans KeepD.upd)
        · rw [upd_ne nDu, upd_ne (ne_of_none e4 nv)]
          exact e4
        · rw [List.map_append, e5, hb]
          rfl
      · rintro H2 ⟨ys, e1, e2, e3, e4, e5, e6⟩
        have sB : Same H1 H2 := e3.same nD1
        refine ⟨p, D, _, _, rfl, rfl, sB _ _ hl.at_, e1, ?_, fun r nr => ?_⟩
        · have z1 := congrArg List.length hm
          have z2 := congrArg List.length e5
          rw [List.length_map] at z1 z2
          rw [refsOf_len, refsOf_len, z1, z2, keptM_len, List.length_take]
          have : sizeLine = 16777216 := sizeLine_eq
          omega
        · have sC : Same H1 (upd H2 r (.lst (refsOf xs ++ refsOf ys))) := sB.trans (same_new nr)
          refine ⟨r, xs ++ ys, _, _, rfl, sH.trans sC, ?_, ⟨by rw [upd_same, refsOf_app], KeysSt.app (hl.keys.same sC) (e2.same (same_new nr))⟩, ?_⟩
          · cases z : H r with
            | none => rfl
            | some o =>
              rw [sB _ _ (sH _ _ z)] at nr
              cases nr
          · rw [List.map_append, hm, e5]
            rfl
    · rintro σ H1 ⟨p, xs, x5, x6, rfl, sH, np, hl, hm⟩
      exact ⟨_, rfl, q H1 p xs sH np hl hm⟩

/-- the begun stands -/
def begunM (D : Int) : Nat → List Stand
  | 0 => [⟨-1, D, true, 0, false, false⟩]
  | n + 1 => begunM D n ++ keptL n n D
def begunL (D : Int) : List Stand := begunM D (D + 1).toNat
theorem mem_begunM {D : Int} {S : Stand} : ∀ {n : Nat}, S ∈ begunM D n ↔ S = ⟨-1, D, true, 0, false, false⟩ ∨ ∃ i : Nat, i < n ∧ S ∈ keptL i i D
  | 0 => by simp [begunM]
  | n + 1 => by
    unfold begunM
    rw [List.mem_append, mem_begunM (n := n)]
    constructor
    · rintro ((h | ⟨i, h1, h2⟩) | h)
      · exact .inl h
      · exact .inr ⟨i, by omega, h2⟩
      · exact .inr ⟨n, by omega, h⟩
    · rintro (h | ⟨i, h1, h2⟩)
      · exact .inl (.inl h)
      · by_cases e : i = n
        · subst e
          exact .inr h2
        · exact .inl (.inr ⟨i, by omega, h2⟩)
theorem begunM_len {D : Int} (h0 : 0 ≤ D) (h3 : D ≤ 3) : ∀ n, (begunM D n).length ≤ 1 + 7 * n
  | 0 => Nat.le_refl _
  | n + 1 => by
    have := begunM_len h0 h3 n
    unfold begunM keptL
    rw [List.length_append, keptM_len]
    omega
theorem perm_unmap {α β : Type} {f : α → β} {bs cs : List β} (h : bs.Perm cs) : ∀ l : List α, cs = l.map f → ∃ l' : List α, l'.Perm l ∧ l'.map f = bs := by
  induction h with
  | nil =>
    intro l e
    exact ⟨[], by rw [List.map_eq_nil_iff.mp e.symm], rfl⟩
  | cons x _ ih =>
    intro l e
    cases l with
    | nil => cases e
    | cons y l =>
      rw [List.map_cons] at e
      injection e with e1 e2
      obtain ⟨l', p, q⟩ := ih l e2
      exact ⟨y :: l', p.cons y, by rw [List.map_cons, q, e1]⟩
  | swap x y r =>
    intro l e
    match l, e with
    | [], e => cases e
    | [_], e => simp at e
    | a :: b :: l, e =>
      simp only [List.map_cons, List.cons.injEq] at e
      obtain ⟨e1, e2, e3⟩ := e
      exact ⟨b :: a :: l, List.Perm.swap a b l, by simp [e1, e2, e3]⟩
  | trans _ _ ih1 ih2 =>
    intro l e
    obtain ⟨l1, p1, q1⟩ := ih2 l e
    obtain ⟨l2, p2, q2⟩ := ih1 l1 q1.symm
    exact ⟨l2, p2.trans p1, q2⟩
/-- hands back a new list of stands, just those of which R is true -/
def GivesM (H : Hp) (R : Stand → Prop) (Q : VK) : Prop := ∀ (H' : Hp) (p : Addr) (xs : List SA), Same H H' → H p = none → LstAt H' p xs → (∀ S, S ∈ xs.map (·.1) ↔ R S) → Q (.ref p) H'
/-- behind a sort of stands -/
theorem sorted_give {H : Hp} {xs : List SA} {bs : List Addr} {p : Addr} (hk : KeysSt H xs) (hp : bs.Perm (xs.map (·.2))) (np : H p = none) : ∃ ys : List SA, LstAt (upd H p (.lst (bs.map V.ref))) p ys ∧ ys.Perm xs := by
  obtain ⟨ys, h1, h2⟩ := perm_unmap hp xs rfl
  refine ⟨ys, ⟨?_, fun q hq => same_new np _ _ (hk q (h1.mem_iff.mp hq))⟩, h1⟩
  rw [upd_same, ← h2, List.map_map]
  rfl
def spBegun : Sp := fun vs H Q _ => ∃ (D : Int), vs = [.int D] ∧ 1 ≤ D ∧ D ≤ 3 ∧ GivesM H (fun S => S ∈ begunL D) Q
theorem ok_all_begun (T : Txt K mg) : OKF P w K mg base 2 "all_begun" P_all_begun spBegun := by
  have G_kept_in_common := ok_kept_in_common (P := P) (w := w) (base := base) T
  refine okf T.f_all_begun sc_all_begun (fun _ _ _ _ _ _ us hl => match us, hl with | [_], _ => rfl) (fun vs H Q E h => ?_) (fun cdv A outer s H vs Q E hr h => ⟨_, (pss_cons (ps_set (i := 1) sc_all_begun.nd rfl (Or.inl rfl) (pe_lst (pa_cons (pe_tup (pa_cons (pe_gInt (by rfl) T.cUSE) (pa_cons (pv 0) (pa_cons (pe_gStr (by rfl) T.cOWN) (pa_cons pe_int (pa_cons pe_bl (pa_cons pe_bl pa_nil))))))) pa_nil)))
    (pss_cons (ps_for PassesOwn.never rfl (pi_range1 (by rfl) T.b_range (pa_cons (pe_op op_add (pv 0) pe_int) pa_nil)) (pg_name (i := 2) sc_all_begun.nd rfl (Or.inl rfl)) (pss_one (ps_set (i := 1) sc_all_begun.nd rfl (Or.inl rfl) (pe_op op_cat (pv 1) (pe_callK K G_kept_in_common (hr.mono (by omega)) (by rfl) (pa_cons (pv 2) (pa_cons (pv 2) (pa_cons (pv 0) pa_nil))))))))
    (pss_one (ps_ret (pe_callB (sortedSt K) (by rfl) T.b_sorted (by decide +kernel) (pa_cons (pv 1) pa_nil)))))), ?_⟩)
  · obtain ⟨D, rfl, _⟩ := h
    rfl
  · obtain ⟨D, rfl, h1, h2, q⟩ := h
    refine ⟨_, rfl, szl, fun t nt => ⟨szl, fun l nl => ?_⟩⟩
    have nlt : t ≠ l := fun z => by rw [← z, upd_same] at nl; cases nl
    have nl0 : H l = none := by rw [upd_ne (Ne.symm nlt)] at nl; exact nl
    have s1 := (same_new (o := .tup [V.int (-1), .int D, .str "own", .int 0, .bl false, .bl false]) nt).trans (same_new (o := .lst [V.ref t]) nl)
    refine ⟨_, rfl, _, _, rfl, rfl, D + 1, rfl, by omega, by omega, ?_⟩
    refine for_range (lo := 0) (n := (D + 1).toNat) (fun i σ H' => ∃ (p : Addr) (xs : List SA) (x3 : Option V), σ = [some (.int D), some (.ref p), x3] ∧ Same H H' ∧ LstAt H' p xs ∧ xs.map (·.1) = begunM D i)
      ⟨l, [(⟨-1, D, true, 0, false, false⟩, t)], none, rfl, s1, ⟨upd_same, fun p hp => ?_⟩, rfl⟩ ?_ ?_
    · have e : p = (⟨-1, D, true, 0, false, false⟩, t) := by simpa using hp
      rw [e]
      show upd _ l _ t = _
      rw [upd_ne nlt]
      exact upd_same
    · rintro i σ H1 hi ⟨p, xs, x3, rfl, sH, hl, hm⟩
      refine ⟨_, rfl, _, rfl, _, rfl, _, rfl, _, _, _, rfl, by omega, by omega, by omega, by omega, fun H2 u ys s2 nu hl2 hm2 => ?_⟩
      refine ⟨p, u, _, _, rfl, rfl, s2 _ _ hl.at_, hl2.at_, ?_, fun r nr => ?_⟩
      · have z1 := congrArg List.length hm
        have z2 := congrArg List.length hm2
        rw [List.length_map] at z1 z2
        have z3 := begunM_len (D := D) (by omega) h2 i
        unfold keptL at z2
        rw [keptM_len] at z2
        rw [refsOf_len, refsOf_len, z1, z2]
        have : sizeLine = 16777216 := sizeLine_eq
        omega
      · have sC := s2.trans (same_new (o := .lst (refsOf xs ++ refsOf ys)) nr)
        refine ⟨r, xs ++ ys, _, rfl, sH.trans sC, ⟨by rw [upd_same, refsOf_app], (hl.keys.same sC).app (hl2.keys.same (same_new nr))⟩, ?_⟩
        rw [List.map_append, hm, hm2]
        show begunM D i ++ keptL (0 + (i : Nat)) (0 + (i : Nat)) D = _
        rw [Int.zero_add]
        rfl
    · rintro σ H1 ⟨p, xs, x3, rfl, sH, hl, hm⟩
      refine ⟨_, rfl, p, xs.map (·.2), rfl, SqL.of (by rw [hl.at_, List.map_map]; rfl), fun b hb => ?_, fun bs r hp nr => ?_⟩
      · obtain ⟨y, hy, rfl⟩ := List.mem_map.mp hb
        exact ⟨y.1, hl.keys y hy⟩
      · obtain ⟨ys, g1, g2⟩ := sorted_give hl.keys hp nr
        refine q _ r ys (sH.trans (same_new nr)) ?_ g1 fun S => ?_
        · cases z : H r with
          | none => rfl
          | some o =>
            rw [sH _ _ z] at nr
            cases nr
        · rw [(g2.map (·.1)).mem_iff, hm]
          rfl
theorem ok_begun (T : Txt K mg) : OKF P w K mg base 3 "begun" P_begun spBegun := by
  have G_all_begun := ok_all_begun (P := P) (w := w) (base := base) T
  have G_need_depth := ok_need_depth (P := P) (w := w) (base := base) T
  refine okf T.f_begun sc_begun (fun _ _ _ _ _ _ us hl => match us, hl with | [_], _ => rfl) (fun vs H Q E h => ?_) (fun cdv A outer s H vs Q E hr h => ⟨_, (pss_cons (ps_expr (pe_callK K G_need_depth (hr.mono (by omega)) (by rfl) (pa_cons (pv 0) pa_nil)))
    (pss_one (ps_ret (pe_callK K G_all_begun (hr.mono (by omega)) (by rfl) (pa_cons (pv 0) pa_nil))))), ?_⟩)
  · obtain ⟨D, rfl, _⟩ := h
    rfl
  · obtain ⟨D, rfl, h1, h2, q⟩ := h
    exact ⟨_, rfl, D, rfl, h1, h2, _, rfl, D, rfl, h1, h2, q⟩
end
end HL

set_option Elab.async false
set_option linter.all false
set_option maxRecDepth 100000
set_option maxHeartbeats 4000000
/-! D1: values as data, for == and in -/
namespace HL
open PySem PySem.Spec PyProof.Rows L2
/-- data that may stand in a list -/
def Flat1 (d : PyData) : Prop := d.canLay0 = true ∧ d.depth ≤ 60
theorem lay_all : ∀ {ds : List PyData}, (∀ d ∈ ds, Flat1 d) → PyData.canLayAll0 ds = true ∧ PyData.depthAll ds ≤ 60
  | [], _ => ⟨rfl, Nat.zero_le _⟩
  | d :: ds, h => by
    obtain ⟨h1, h2⟩ := h d (List.mem_cons_self ..)
    obtain ⟨h3, h4⟩ := lay_all (ds := ds) fun e he => h e (List.mem_cons_of_mem _ he)
    refine ⟨?_, ?_⟩
    · unfold PyData.canLayAll0
      rw [h1, h3]
      rfl
    · unfold PyData.depthAll
      exact Nat.max_le.mpr ⟨h2, h4⟩
theorem shaped_list {ds : List PyData} (h : ∀ d ∈ ds, Flat1 d) : SeqAt.shaped (.list ds) = true := by
  obtain ⟨h1, h2⟩ := lay_all h
  unfold SeqAt.shaped
  have e1 : (PyData.list ds).canLay0 = PyData.canLayAll0 ds := by unfold PyData.canLay0; rfl
  have e2 : (PyData.list ds).depth = PyData.depthAll ds + 1 := by unfold PyData.depth; rfl
  rw [e1, e2, h1, decide_eq_true (by omega)]
  rfl
theorem shaped_tuple {ds : List PyData} (h : ∀ d ∈ ds, Flat1 d) : SeqAt.shaped (.tuple ds) = true := by
  obtain ⟨h1, h2⟩ := lay_all h
  unfold SeqAt.shaped
  have e1 : (PyData.tuple ds).canLay0 = PyData.canLayAll0 ds := by unfold PyData.canLay0; rfl
  have e2 : (PyData.tuple ds).depth = PyData.depthAll ds + 1 := by unfold PyData.depth; rfl
  rw [e1, e2, h1, decide_eq_true (by omega)]
  rfl
theorem flat_int (i : Int) : Flat1 (.int i) := ⟨by unfold PyData.canLay0; rfl, by unfold PyData.depth; omega⟩
theorem flat_bool (b : Bool) : Flat1 (.bool b) := ⟨by unfold PyData.canLay0; rfl, by unfold PyData.depth; omega⟩
theorem flat_none : Flat1 .none := ⟨by unfold PyData.canLay0; rfl, by unfold PyData.depth; omega⟩
theorem flat_str {x : Str} (h : PyData.strOk x = true) : Flat1 (.str x) := ⟨by unfold PyData.canLay0; exact h, by unfold PyData.depth; omega⟩
theorem flat_tup {ds : List PyData} (h : ∀ d ∈ ds, d.canLay0 = true ∧ d.depth = 0) : Flat1 (.tuple ds) := by
  have q : ∀ ds : List PyData, (∀ d ∈ ds, d.canLay0 = true ∧ d.depth = 0) → PyData.canLayAll0 ds = true ∧ PyData.depthAll ds = 0 := by
    intro ds
    induction ds with
    | nil => intro _; exact ⟨rfl, rfl⟩
    | cons d ds ih =>
      intro h
      obtain ⟨h1, h2⟩ := h d (List.mem_cons_self ..)
      obtain ⟨h3, h4⟩ := ih fun e he => h e (List.mem_cons_of_mem _ he)
      refine ⟨?_, ?_⟩
      · unfold PyData.canLayAll0
        rw [h1, h3]
        rfl
      · unfold PyData.depthAll
        rw [h2, h4]
        rfl
  obtain ⟨h1, h2⟩ := q ds h
  refine ⟨?_, ?_⟩
  · unfold PyData.canLay0
    exact h1
  · unfold PyData.depth
    rw [h2]
    omega
theorem eqv_nil {xs : List PyData} : PyData.eqv (.list xs) (.list []) = xs.isEmpty := by
  unfold PyData.eqv
  cases xs <;> (unfold PyData.eqvAll; rfl)
theorem dpAll_map {K : PySem.W.Frag} {H : Hp} {α : Type} {f : α → V} {g : α → PyData} : ∀ {l : List α}, (∀ x ∈ l, Dp K H (f x) (g x)) → DpAll K H (l.map f) (l.map g)
  | [], _ => .nil
  | x :: l, h => .cons (h x (List.mem_cons_self ..)) (dpAll_map fun y hy => h y (List.mem_cons_of_mem _ hy))
/-- l != [] -/
theorem rd_ne0 {K : PySem.W.Frag} {H : Hp} {Q : VK} {a b : Addr} {α : Type} {f : α → V} (g : α → PyData) {l : List α} (ha : H a = some (.lst (l.map f))) (hb : H b = some (.lst [])) (hd : ∀ x ∈ l, Dp K H (f x) (g x)) (hg : ∀ x ∈ l, Flat1 (g x))
    (q : Q (.bl (!l.isEmpty)) H) : rNeD K (.ref a) (.ref b) H Q := by
  refine ⟨.list (l.map g), .list [], .lst (SqL.of ha) (dpAll_map hd), .lst (SqL.of hb) .nil, shaped_list (fun d h => ?_), shaped_list (fun d h => nomatch h), ?_⟩
  · obtain ⟨x, hx, rfl⟩ := List.mem_map.mp h
    exact hg x hx
  · rw [eqv_nil]
    have e : (l.map g).isEmpty = l.isEmpty := by cases l <;> rfl
    rw [e]
    exact q
theorem rd_eq0 {K : PySem.W.Frag} {H : Hp} {Q : VK} {a b : Addr} {α : Type} {f : α → V} (g : α → PyData) {l : List α} (ha : H a = some (.lst (l.map f))) (hb : H b = some (.lst [])) (hd : ∀ x ∈ l, Dp K H (f x) (g x)) (hg : ∀ x ∈ l, Flat1 (g x))
    (q : Q (.bl l.isEmpty) H) : rEqD K (.ref a) (.ref b) H Q := by
  refine ⟨.list (l.map g), .list [], .lst (SqL.of ha) (dpAll_map hd), .lst (SqL.of hb) .nil, shaped_list (fun d h => ?_), shaped_list (fun d h => nomatch h), ?_⟩
  · obtain ⟨x, hx, rfl⟩ := List.mem_map.mp h
    exact hg x hx
  · rw [eqv_nil]
    have e : (l.map g).isEmpty = l.isEmpty := by cases l <;> rfl
    rw [e]
    exact q
/-! ### stands -/
def stD (S : Stand) : PyData := .tuple [.int S.life, .int S.level, .str (madeS S.own), .int S.common, .bool S.past, .bool S.rooted]
theorem made_ok (b : Bool) : PyData.strOk (madeS b) = true := by cases b <;> decide +kernel
theorem flat_stD (S : Stand) : Flat1 (stD S) := by
  refine flat_tup fun d h => ?_
  simp only [List.mem_cons, List.not_mem_nil, or_false] at h
  rcases h with rfl | rfl | rfl | rfl | rfl | rfl
  all_goals first
    | exact ⟨by unfold PyData.canLay0; rfl, by unfold PyData.depth; rfl⟩
    | exact ⟨by unfold PyData.canLay0; exact made_ok _, by unfold PyData.depth; rfl⟩
theorem dp_stD {K : PySem.W.Frag} {H : Hp} {a : Addr} {S : Stand} (h : H a = some (.tup (stV S))) : Dp K H (.ref a) (stD S) :=
  .tup (SqT.of h) (.cons (.int _) (.cons (.int _) (.cons (.str _) (.cons (.int _) (.cons (.bl _) (.cons (.bl _) .nil))))))
theorem eqv_stD (S T : Stand) : PyData.eqv (stD S) (stD T) = decide (S = T) := by
  have e : PyData.eqv (stD S) (stD T) = ((S.life == T.life) && ((S.level == T.level) && ((madeS S.own == madeS T.own) && ((S.common == T.common) && ((S.past == T.past) && ((S.rooted == T.rooted) && true)))))) := by
    unfold stD PyData.eqv
    simp only [PyData.eqvAll, PyData.eqv]
  rw [e]
  by_cases h : S = T
  · rw [decide_eq_true h, h]
    simp
  · rw [decide_eq_false h]
    cases q : ((S.life == T.life) && ((S.level == T.level) && ((madeS S.own == madeS T.own) && ((S.common == T.common) && ((S.past == T.past) && ((S.rooted == T.rooted) && true)))))) with
    | false => rfl
    | true =>
      simp only [Bool.and_eq_true, beq_iff_eq] at q
      obtain ⟨h1, h2, h3, h4, h5, h6, _⟩ := q
      exact absurd (stV_inj (by simp [stV, h1, h2, h3, h4, h5, h6])) h
/-- x in l, of stands -/
theorem rd_inS {K : PySem.W.Frag} {H : Hp} {Q : VK} {a p : Addr} {S : Stand} {xs : List SA} (ha : H a = some (.tup (stV S))) (hp : LstAt H p xs) (q : Q (.bl (decide (S ∈ xs.map (·.1)))) H) : rInD K (.ref a) (.ref p) H Q := by
  refine ⟨stD S, xs.map fun x => stD x.1, dp_stD ha, .lst (SqL.of hp.at_) (dpAll_map fun x hx => dp_stD (hp.keys x hx)), ?_, shaped_list fun d h => ?_, ?_⟩
  · obtain ⟨h1, h2⟩ := flat_stD S
    unfold SeqAt.shaped
    rw [h1, decide_eq_true (by omega)]
    rfl
  · obtain ⟨x, hx, rfl⟩ := List.mem_map.mp h
    exact flat_stD _
  · have e : ((xs.map fun x => stD x.1).any fun z => PyData.eqv z (stD S)) = decide (S ∈ xs.map (·.1)) := by
      rw [List.any_map]
      by_cases h : S ∈ xs.map (·.1)
      · rw [decide_eq_true h, List.any_eq_true]
        obtain ⟨x, hx, rfl⟩ := List.mem_map.mp h
        exact ⟨x, hx, by simp [eqv_stD]⟩
      · rw [decide_eq_false h, List.any_eq_false]
        intro x hx e
        simp only [Function.comp_apply, eqv_stD, decide_eq_true_eq] at e
        exact h (List.mem_map.mpr ⟨x, hx, e⟩)
    rw [e]
    exact q
end HL

set_option Elab.async false
set_option linter.all false
set_option maxRecDepth 100000
set_option maxHeartbeats 4000000
/-! S3: the wants of a stand and what follows -/
namespace HL
open PySem PySem.Spec PyProof.Rows L2
structure Bk where
  held : Str
  each : Str
  lifted : Str
  ends : Str
  works : Str
/-- the book of these fields, without bars -/
def BkAt (K : PySem.W.Frag) (H : Hp) (a : Addr) (b : Bk) : Prop := ∃ dx t, H a = some (.ins (He.ga K "Book") dx (bf6 b.held b.each b.lifted b.ends b.works t)) ∧ H t = some (.tup [])
theorem BkAt.same {K : PySem.W.Frag} {H H' : Hp} {a : Addr} {b : Bk} (h : BkAt K H a b) (s : Same H H') : BkAt K H' a b := let ⟨dx, t, h1, h2⟩ := h; ⟨dx, t, s _ _ h1, s _ _ h2⟩
section
variable (c1 c2 c3 c4 c5 : Str) (t : Addr)
theorem bf_held : (bf6 c1 c2 c3 c4 c5 t).lookup ("b_held" : Str) = some (.str c1) := by kernel_rfl
theorem bf_each : (bf6 c1 c2 c3 c4 c5 t).lookup ("b_each" : Str) = some (.str c2) := by kernel_rfl
theorem bf_lifted : (bf6 c1 c2 c3 c4 c5 t).lookup ("b_lifted" : Str) = some (.str c3) := by kernel_rfl
theorem bf_ends : (bf6 c1 c2 c3 c4 c5 t).lookup ("b_ends" : Str) = some (.str c4) := by kernel_rfl
theorem bf_bars : (bf6 c1 c2 c3 c4 c5 t).lookup ("b_bars" : Str) = some (.ref t) := by kernel_rfl
end
abbrev Wa := Bool × Int
abbrev WA := Wa × Addr
def waV (q : Wa) : List V := [.str (wayS q.1), .int q.2]
def KeysW (H : Hp) (xs : List WA) : Prop := ∀ p ∈ xs, H p.2 = some (.tup (waV p.1))
def refsW (xs : List WA) : List V := xs.map fun q => V.ref q.2
theorem KeysW.same {H H' : Hp} {xs : List WA} (k : KeysW H xs) (s : Same H H') : KeysW H' xs := fun p hp => s _ _ (k p hp)
theorem KeysW.upd {H : Hp} {xs : List WA} {D : Addr} {l : List V} {o : HO} (k : KeysW H xs) (h : H D = some (.lst l)) : KeysW (upd H D o) xs := fun p hp => by
  rw [upd_ne (ne_of (k p hp) h (fun z => nomatch z))]
  exact k p hp
theorem KeysW.app {H : Hp} {xs ys : List WA} (a : KeysW H xs) (b : KeysW H ys) : KeysW H (xs ++ ys) := fun p hp => (List.mem_append.mp hp).elim (a p) (b p)
/-- all wants, of the way each first -/
def wantsM (b : Bool) (n : Nat) : List Wa := (List.range n).map fun (i : Nat) => (b, -1 + (i : Int))
def wantsL (D : Int) : List Wa := wantsM false (D + 1 - -1).toNat ++ wantsM true (D + 1 - -1).toNat
theorem wantsM_len (b : Bool) (n : Nat) : (wantsM b n).length = n := by simp [wantsM]
theorem wantsM_succ (b : Bool) (n : Nat) : wantsM b (n + 1) = wantsM b n ++ [(b, -1 + (n : Int))] := by
  unfold wantsM
  rw [List.range_succ, List.map_append]
  rfl
theorem mem_wantsL {D : Int} {b : Bool} {u : Int} : (b, u) ∈ wantsL D ↔ -1 ≤ u ∧ u ≤ D := by
  have h : ∀ c, (b, u) ∈ wantsM c (D + 1 - -1).toNat ↔ b = c ∧ -1 ≤ u ∧ u ≤ D := fun c => by
    unfold wantsM
    rw [List.mem_map]
    constructor
    · rintro ⟨i, hi, e⟩
      rw [List.mem_range] at hi
      have e1 := congrArg Prod.fst e
      have e2 := congrArg Prod.snd e
      simp only at e1 e2
      exact ⟨e1.symm, by omega, by omega⟩
    · rintro ⟨h1, h2, h3⟩
      exact ⟨(u + 1).toNat, by rw [List.mem_range]; omega, by rw [h1]; congr 1; omega⟩
  unfold wantsL
  rw [List.mem_append, h, h]
  cases b <;> simp
theorem wantsL_head {D : Int} (h : 0 ≤ D) : (wantsL D)[0]? = some (false, -1) := by
  unfold wantsL wantsM
  obtain ⟨n, hn⟩ : ∃ n, (D + 1 - -1).toNat = n + 1 := ⟨(D + 1 - -1).toNat - 1, by omega⟩
  rw [hn, List.range_succ_eq_map]
  rfl
theorem wantsL_len {D : Int} (h : D ≤ 3) : (wantsL D).length ≤ 10 := by
  unfold wantsL
  rw [List.length_append, wantsM_len, wantsM_len]
  omega
section
variable {P : Program} {w : World} {K : PySem.W.Frag} {mg : Str → Option Value} {base : Heap}
def spWantsOf (K : PySem.W.Frag) : Sp := fun vs H Q _ => ∃ (a : Addr) (b : Bk) (D l : Int), vs = [.ref a, .int D, .int l] ∧ BkAt K H a b ∧ 1 ≤ D ∧ D ≤ 3 ∧
  ∀ (H' : Hp) (p : Addr) (xs : List WA), Same H H' → H p = none → H' p = some (.lst (refsW xs)) → KeysW H' xs → xs.map (·.1) = wantsL D → Q (.ref p) H'
theorem ok_wants_of (T : Txt K mg) : OKF P w K mg base 3 "wants_of" P_wants_of (spWantsOf K) := by
  have G_bar_of := ok_bar_of (P := P) (w := w) (base := base) T
  have G_bk_bars := bk_bars (P := P) (w := w) (base := base) T
  refine okf T.f_wants_of sc_wants_of (fun _ _ _ _ _ _ us hl => match us, hl with | [_, _, _], _ => rfl) (fun vs H Q E h => ?_) (fun cdv A outer s H vs Q E hr h => ⟨_, (pss_cons (ps_setLc2 (i := 3) (own := [("way", 4), ("wanted", 5)]) (vs1 := [5]) (g := (gName 4)) (tt := tYes) (g1 := (gName 5)) (tt1 := tYes) rfl sc_wants_of.nd rfl rfl (sw_true rfl rfl rfl (by decide +kernel)) (pi_tup (pe_gRef (by rfl) T.cWAYS)) (blkOk_by (own := [("way", 4), ("wanted", 5)]) (N := N_wants_of) (sc := defScope s_wants_of) (by decide +kernel)) (by decide) (fun _ _ _ _ _ => (pg_name (i := 4) sc_wants_of.nd rfl (by first | exact Or.inl rfl | exact Or.inr rfl) (by first | exact .inl rfl | exact .inr rfl))) (fun _ _ _ _ _ => pts_nil) (fun _ _ _ _ _ => (pi_range2 (by rfl) T.b_range (pa_cons (pe_gInt (by rfl) T.cUSE) (pa_cons (pe_op op_add (pv 1) pe_int) pa_nil)))) (fun _ _ _ _ _ => (pg_name (i := 5) sc_wants_of.nd rfl (by first | exact Or.inl rfl | exact Or.inr rfl) (by first | exact .inl rfl | exact .inr rfl))) (fun _ _ _ _ _ => pts_nil) (fun _ _ _ _ _ => (pe_tup (pa_cons (pv 4) (pa_cons (pv 5) pa_nil)))))
    (pss_one (ps_ret (pe_lc (own := [("way", 4), ("wanted", 5)]) (g := (gTup K 2 (gCons (gName 4) (gCons (gName 5) gNil)))) rfl sc_wants_of.nd (pi_list (pv 3)) (blkOk_by (own := [("way", 4), ("wanted", 5)]) (N := N_wants_of) (sc := defScope s_wants_of) (by decide +kernel)) (fun _ _ _ _ _ => (pg_tup rfl (pgs_cons (pg_name (i := 4) sc_wants_of.nd rfl (by first | exact Or.inl rfl | exact Or.inr rfl) (by first | exact .inl rfl | exact .inr rfl)) (pgs_cons (pg_name (i := 5) sc_wants_of.nd rfl (by first | exact Or.inl rfl | exact Or.inr rfl) (by first | exact .inl rfl | exact .inr rfl)) pgs_nil)))) (fun _ _ _ _ _ => (pts_one (pt_cmpR (ninS K) (pe_callK K G_bar_of (hr.mono (by omega)) (by rfl) (pa_cons (pv 2) (pa_cons (pv 4) (pa_cons (pv 5) pa_nil)))) (pe_bkK K G_bk_bars (hr.mono (by omega)) (pv 0)) (by rfl)))) (fun _ _ _ _ _ => (pe_tup (pa_cons (pv 4) (pa_cons (pv 5) pa_nil)))))))), ?_⟩)
  · obtain ⟨a, b, D, l, rfl, _⟩ := h
    rfl
  · obtain ⟨a, b, D, l, rfl, hB, h1, h2, q⟩ := h
    refine ⟨_, rfl, ⟨_, T.tWAYS H⟩, fun L nL => ?_⟩
    -- the first list, way by way
    refine ⟨fun j m H' => m = 2 - j ∧ j ≤ 2 ∧ ∃ ys : List WA, H' L = some (.lst (refsW ys)) ∧ KeysW H' ys ∧ KeepD L H H' ∧ ys.map (·.1) = ((if 0 < j then wantsM false (D + 1 - -1).toNat else []) ++ if 1 < j then wantsM true (D + 1 - -1).toNat else []),
      ⟨2, rfl, by omega, [], upd_same, (fun _ z => nomatch z), KeepD.of (same_new nL), rfl⟩, ?_⟩
    rintro j m H1 ⟨rfl, hj, ys, e1, e2, e3, e4⟩
    by_cases hj2 : j = 2
    · subst hj2
      refine .inl ⟨⟨_, T.tWAYS H1, by simp⟩, ?_⟩
      -- the second list: nothing is left out
      have sH : Same H H1 := e3.same nL
      refine ⟨_, rfl, L, rfl, ⟨_, SqL.of e1⟩, fun M nM => ?_⟩
      refine lc_list (K := K) (a := L) (xs := refsW ys) (fun i H2 => ∃ zs : List WA, H2 M = some (.lst (refsW zs)) ∧ KeysW H2 zs ∧ zs.map (·.1) = (ys.map (·.1)).take i ∧ KeepD M H1 H2) ⟨[], upd_same, (fun _ z => nomatch z), rfl, KeepD.of (same_new nM)⟩ (fun i H2 _ ⟨zs, _, _, _, p⟩ => ?_) ?_ ?_
      · exact SqL.of (p L _ (ne_of_none e1 nM) e1)
      · rintro i x H2 hx ⟨zs, g1, g3, g4, g2⟩
        obtain ⟨y, hy, rfl⟩ : ∃ y, ys[i]? = some y ∧ x = V.ref y.2 := by
          unfold refsW at hx
          rw [List.getElem?_map] at hx
          cases hq : ys[i]? with
          | none => rw [hq] at hx; cases hx
          | some y => rw [hq] at hx; exact ⟨y, rfl, (Option.some.inj hx).symm⟩
        have ky : H2 y.2 = some (.tup (waV y.1)) := by
          have q := e2 y (List.mem_of_getElem? hy)
          exact g2 _ _ (ne_of_none q nM) q
        refine ⟨y.2, _, rfl, SqT.of ky, rfl, _, _, rfl, _, _, rfl, rfl, ?_⟩
        refine ⟨rfl, ?_⟩
        refine ⟨_, rfl, _, rfl, _, rfl, _, _, _, rfl, fun v hv => ?_⟩
        obtain ⟨dx, t, b1, b2⟩ := hB
        have b1' := g2 _ _ (ne_of_none (sH _ _ b1) nM) (sH _ _ b1)
        have b2' := g2 _ _ (ne_of_none (sH _ _ b2) nM) (sH _ _ b2)
        refine rdBk rfl b1' (bf_bars ..) ⟨t, [], rfl, .inr (SqT.of b2'), hv, rfl, true, rfl, ?_⟩
        refine iteT ⟨_, rfl, _, rfl, szl, fun r nr => ?_⟩
        have nMr : M ≠ r := ne_of_none g1 nr
        refine ⟨_, by rw [upd_ne nMr]; exact g1, ?_, zs ++ [(y.1, r)], ?_, ?_, ?_, ?_⟩
        · have z1 := congrArg List.length g4
          rw [List.length_map, List.length_take] at z1
          have z2 := congrArg List.length e4
          rw [List.length_map] at z2
          have z3 := wantsL_len (D := D) h2
          have z4 : (ys.map (·.1)).length = ys.length := List.length_map ..
          have hyl : ys.length ≤ 10 := by
            rw [z2]
            exact z3
          show (refsW zs).length < _
          have : (refsW zs).length = zs.length := List.length_map ..
          have sz : sizeLine = 16777216 := sizeLine_eq
          omega
        · rw [upd_same]
          unfold refsW
          rw [List.map_append]
          rfl
        · refine KeysW.upd (l := refsW zs) (KeysW.app (g3.same (same_new nr)) fun p hp => ?_) (by rw [upd_ne nMr]; exact g1)
          have e : p = (y.1, r) := by simpa using hp
          rw [e]
          exact upd_same
        · rw [List.map_append, g4, List.take_add_one, List.getElem?_map, hy]
          rfl
        · exact g2.trans ((KeepD.of (same_new nr)).trans KeepD.upd)
      · rintro H2 ⟨zs, g1, g3, g4, g2⟩
        refine q H2 M zs (sH.trans (g2.same nM)) ?_ g1 g3 ?_
        · cases z : H M with
          | none => rfl
          | some o =>
            rw [sH _ _ z] at nM
            cases nM
        · rw [g4, List.take_of_length_le (by unfold refsW; rw [List.length_map, List.length_map]; exact Nat.le_refl _), e4]
          rfl
    · obtain ⟨b, hb, hw, hx⟩ : ∃ b, ([V.str "each", V.str "held"] : List V)[j]? = some (.str (wayS b)) ∧ ((if 0 < j + 1 then wantsM false (D + 1 - -1).toNat else []) ++ if 1 < j + 1 then wantsM true (D + 1 - -1).toNat else []) = ((if 0 < j then wantsM false (D + 1 - -1).toNat else []) ++ if 1 < j then wantsM true (D + 1 - -1).toNat else []) ++ wantsM b (D + 1 - -1).toNat ∧ ys.length ≤ 5 := by
        have z2 := congrArg List.length e4
        rw [List.length_map] at z2
        match j, hj, hj2 with
        | 0, _, _ => exact ⟨false, rfl, by simp, by rw [z2]; simp⟩
        | 1, _, _ => exact ⟨true, rfl, by simp, by rw [z2]; simp [wantsM_len]; omega⟩
        | 2, _, hj2 => exact absurd rfl hj2
      refine .inr ⟨⟨_, _, T.tWAYS H1, hb⟩, fun H' => ∃ ys : List WA, H' L = some (.lst (refsW ys)) ∧ KeysW H' ys ∧ KeepD L H H' ∧ ys.map (·.1) = ((if 0 < j + 1 then wantsM false (D + 1 - -1).toNat else []) ++ if 1 < j + 1 then wantsM true (D + 1 - -1).toNat else []), fun H' p => ⟨2 - (j + 1), by omega, rfl, by omega, p⟩, ?_⟩
      rintro x H1' ⟨rfl, hx'⟩
      have ex : x = V.str (wayS b) := by
        have z := hx' _ (T.tWAYS H1')
        rw [hb] at z
        exact (Option.some.inj z).symm
      subst ex
      refine ⟨rfl, ?_⟩
      refine ⟨_, rfl, _, _, rfl, rfl, -1, D + 1, rfl, ⟨by omega, by omega, by omega, by omega⟩, ?_⟩
      refine ⟨fun i k H2 => k = (D + 1 - -1).toNat - i ∧ i ≤ (D + 1 - -1).toNat ∧ ∃ zs : List WA, H2 L = some (.lst (refsW zs)) ∧ KeysW H2 zs ∧ KeepD L H H2 ∧ zs.map (·.1) = ys.map (·.1) ++ wantsM b i,
        ⟨_, rfl, Nat.zero_le _, ys, e1, e2, e3, by simp [wantsM]⟩, ?_⟩
      rintro i k H2 ⟨rfl, hi, zs, g1, g2, g3, g4⟩
      by_cases hi2 : i = (D + 1 - -1).toNat
      · refine .inl ⟨Nat.le_of_eq hi2.symm, zs, g1, g2, g3, ?_⟩
        rw [g4, hi2, e4, hw]
      · refine .inr ⟨Nat.lt_of_le_of_ne hi hi2, fun H' => ∃ zs : List WA, H' L = some (.lst (refsW zs)) ∧ KeysW H' zs ∧ KeepD L H H' ∧ zs.map (·.1) = ys.map (·.1) ++ wantsM b (i + 1), fun H' p => ⟨(D + 1 - -1).toNat - (i + 1), by omega, rfl, by omega, p⟩, ?_⟩
        rintro x H2' ⟨rfl, rfl⟩
        refine ⟨rfl, ?_⟩
        refine ⟨_, rfl, _, rfl, szl, fun r nr => ?_⟩
        have nLr : L ≠ r := ne_of_none g1 nr
        refine ⟨_, by rw [upd_ne nLr]; exact g1, ?_, zs ++ [((b, -1 + ((i : Nat) : Int)), r)], ?_, ?_, ?_, ?_⟩
        · have z1 := congrArg List.length g4
          rw [List.length_map, List.length_append, List.length_map, wantsM_len] at z1
          have : (refsW zs).length = zs.length := List.length_map ..
          have sz : sizeLine = 16777216 := sizeLine_eq
          omega
        · rw [upd_same]
          unfold refsW
          rw [List.map_append]
          rfl
        · refine KeysW.upd (l := refsW zs) (KeysW.app (g2.same (same_new nr)) fun p hp => ?_) (by rw [upd_ne nLr]; exact g1)
          have e : p = ((b, -1 + ((i : Nat) : Int)), r) := by simpa using hp
          rw [e]
          exact upd_same
        · exact g3.trans ((KeepD.of (same_new nr)).trans KeepD.upd)
        · rw [List.map_append, g4, wantsM_succ, List.append_assoc]
          rfl

/-- from which level a want is asked, and whose request serves it -/
def askL (b : Bk) (D : Int) (S : Stand) (way : Bool) : Int := if way = true then (if b.held = "home" then S.level else D) else if b.each = "now" then D else 0
def askO (S : Stand) (way : Bool) : Bool := if way = true then S.own else true
def askC (S : Stand) (way : Bool) : Int := if way = true then S.common else 0
def askP (S : Stand) (way : Bool) : Bool := if way = true then S.past else false
theorem ways_ne (b : Bool) : decide (V.str (wayS b) = V.str "held") = b := by cases b <;> decide +kernel
theorem sl25 (S : Stand) : ¬ (HT.sIx (stV S).length 0 (some 2) = 0 ∧ HT.sIx (stV S).length (stV S).length (some 5) = (stV S).length) := by
  show ¬ (HT.sIx 6 0 (some 2) = 0 ∧ HT.sIx 6 6 (some 5) = 6)
  decide
def spAsked (K : PySem.W.Frag) : Sp := fun vs H Q _ => ∃ (a : Addr) (b : Bk) (D : Int) (sa : Addr) (S : Stand) (way : Bool), vs = [.ref a, .int D, .ref sa, .str (wayS way)] ∧ BkAt K H a b ∧ StAt H sa S ∧
  ∀ (H' : Hp) (p r : Addr), Same H H' → H' p = some (.tup [.int (askL b D S way), .ref r]) → H' r = some (.tup [.str (madeS (askO S way)), .int (askC S way), .bl (askP S way)]) → Q (.ref p) H'
theorem ok_asked_from (T : Txt K mg) : OKF P w K mg base 3 "asked_from" P_asked_from (spAsked K) := by
  have G_bk_held := bk_held (P := P) (w := w) (base := base) T
  have G_bk_each := bk_each (P := P) (w := w) (base := base) T
  refine okf T.f_asked_from sc_asked_from (fun _ _ _ _ _ _ us hl => match us, hl with | [_, _, _, _], _ => rfl) (fun vs H Q E h => ?_) (fun cdv A outer s H vs Q E hr h => ⟨_, (pss_cons (ps_if (pt_cmpR op_eq (pv 3) pe_str (nomark _)) (pss_one (ps_ret (pe_tup (pa_cons (pe_ifExp (pt_cmpR op_eq (pe_bkK K G_bk_held (hr.mono (by omega)) (pv 0)) pe_str (nomark _)) (pe_ix (ixT K) (pv 2) pe_int (fun _ _ => rfl)) (pv 1)) (pa_cons (pe_slice (slT K) (pv 2) (po_some pe_int) (po_some pe_int)) pa_nil))))) pss_nil)
    (pss_one (ps_ret (pe_tup (pa_cons (pe_ifExp (pt_cmpR op_eq (pe_bkK K G_bk_each (hr.mono (by omega)) (pv 0)) pe_str (nomark _)) (pv 1) pe_int) (pa_cons (pe_tup (pa_cons (pe_gStr (by rfl) T.cOWN) (pa_cons pe_int (pa_cons pe_bl pa_nil)))) pa_nil)))))), ?_⟩)
  · obtain ⟨a, b, D, sa, S, way, rfl, _⟩ := h
    rfl
  · obtain ⟨a, b, D, sa, S, way, rfl, hB, hS, q⟩ := h
    obtain ⟨dx, t, b1, b2⟩ := id hB
    refine ⟨_, rfl, rfl, _, rfl, ?_⟩
    rw [ways_ne]
    cases way with
    | true =>
      refine rdBk rfl b1 (bf_held ..) ⟨rfl, _, rfl, ?_⟩
      rw [decstr]
      refine ite2 (fun c => ?_) (fun c => ?_)
      · have c1 : b.held = "home" := of_decide_eq_true c
        have e : askL b D S true = S.level := by unfold askL; rw [if_pos rfl, if_pos c1]
        rw [e] at q
        refine ⟨_, rfl, sa, _, 1, _, rfl, rfl, SqT.of hS, rfl, ?_⟩
        refine ⟨_, rfl, 2, rfl, 5, rfl, sa, _, rfl, SqT.of hS, (fun z => absurd z (sl25 S)), fun _ p np => ⟨szl, fun r nr => ?_⟩⟩
        exact q _ r p ((same_new np).trans (same_new nr)) upd_same (same_new nr _ _ upd_same)
      · have c1 : ¬ b.held = "home" := fun z => c (decide_eq_true z)
        have e : askL b D S true = D := by unfold askL; rw [if_pos rfl, if_neg c1]
        rw [e] at q
        refine ⟨_, rfl, ?_⟩
        refine ⟨_, rfl, 2, rfl, 5, rfl, sa, _, rfl, SqT.of hS, (fun z => absurd z (sl25 S)), fun _ p np => ⟨szl, fun r nr => ?_⟩⟩
        exact q _ r p ((same_new np).trans (same_new nr)) upd_same (same_new nr _ _ upd_same)
    | false =>
      refine rdBk rfl b1 (bf_each ..) ⟨rfl, _, rfl, ?_⟩
      rw [decstr]
      refine ite2 (fun c => ?_) (fun c => ?_)
      · have c1 : b.each = "now" := of_decide_eq_true c
        have e : askL b D S false = D := by unfold askL; rw [if_neg (by simp), if_pos c1]
        rw [e] at q
        refine ⟨_, rfl, szl, fun p np => ⟨szl, fun r nr => ?_⟩⟩
        exact q _ r p ((same_new np).trans (same_new nr)) upd_same (same_new nr _ _ upd_same)
      · have c1 : ¬ b.each = "now" := fun z => c (decide_eq_true z)
        have e : askL b D S false = 0 := by unfold askL; rw [if_neg (by simp), if_neg c1]
        rw [e] at q
        refine ⟨szl, fun p np => ⟨szl, fun r nr => ?_⟩⟩
        exact q _ r p ((same_new np).trans (same_new nr)) upd_same (same_new nr _ _ upd_same)
/-- the stands that follow by a want -/
def ledL (b : Bk) (D : Int) (S : Stand) (q : Wa) : List Stand :=
  if q.2 = -1 then [⟨-1, askL b D S q.1, askO S q.1, askC S q.1, askP S q.1, S.rooted && (q.1 && decide (askL b D S q.1 = 0))⟩]
  else if askL b D S q.1 < q.2 ∧ b.lifted = "nothing" then []
  else if askO S q.1 = true ∨ min q.2 (askL b D S q.1) ≤ askC S q.1 then keptL q.2 (min q.2 (askL b D S q.1)) D
  else [⟨q.2, min q.2 (askL b D S q.1), askO S q.1, askC S q.1, askP S q.1, false⟩]
theorem askL_bd {b : Bk} {D : Int} {S : Stand} {way : Bool} (hD : 1 ≤ D) (hf : isForm D S) : 0 ≤ askL b D S way ∧ askL b D S way ≤ D := by
  obtain ⟨⟨f1, f2⟩, ⟨f3, f4⟩, _⟩ := hf
  have : S.level ≤ D := by
    split at f4 <;> omega
  unfold askL
  split <;> split <;> omega
def spLedTo (K : PySem.W.Frag) : Sp := fun vs H Q _ => ∃ (a : Addr) (b : Bk) (D : Int) (sa wa : Addr) (S : Stand) (q : Wa), vs = [.ref a, .int D, .ref sa, .ref wa] ∧ BkAt K H a b ∧ 1 ≤ D ∧ D ≤ 3 ∧ StAt H sa S ∧ isForm D S ∧ H wa = some (.tup (waV q)) ∧ -1 ≤ q.2 ∧ q.2 ≤ D ∧ Gives H (ledL b D S q) Q
theorem made_own (o : Bool) : decide (V.str (madeS o) = V.str "own") = o := by cases o <;> decide +kernel
theorem ok_led_to (T : Txt K mg) : OKF P w K mg base 4 "led_to" P_led_to (spLedTo K) := by
  have G_bk_lifted := bk_lifted (P := P) (w := w) (base := base) T
  have G_asked_from := ok_asked_from (P := P) (w := w) (base := base) T
  have G_kept_in_common := ok_kept_in_common (P := P) (w := w) (base := base) T
  refine okf T.f_led_to sc_led_to (fun _ _ _ _ _ _ us hl => match us, hl with | [_, _, _, _], _ => rfl) (fun vs H Q E h => ?_) (fun cdv A outer s H vs Q E hr h => ⟨_, (pss_cons (ps_asg (pv 3) (pg_tup rfl (pgs_cons (pg_name (i := 4) sc_led_to.nd rfl (Or.inl rfl)) (pgs_cons (pg_name (i := 5) sc_led_to.nd rfl (Or.inl rfl)) pgs_nil))))
    (pss_cons (ps_asg (pe_callK K G_asked_from (hr.mono (by omega)) (by rfl) (pa_cons (pv 0) (pa_cons (pv 1) (pa_cons (pv 2) (pa_cons (pv 4) pa_nil))))) (pg_tup rfl (pgs_cons (pg_name (i := 6) sc_led_to.nd rfl (Or.inl rfl)) (pgs_cons (pg_tup rfl (pgs_cons (pg_name (i := 7) sc_led_to.nd rfl (Or.inl rfl)) (pgs_cons (pg_name (i := 8) sc_led_to.nd rfl (Or.inl rfl)) (pgs_cons (pg_name (i := 9) sc_led_to.nd rfl (Or.inl rfl)) pgs_nil)))) pgs_nil))))
    (pss_cons (ps_if (pt_cmpR op_eq (pv 5) (pe_gInt (by rfl) T.cUSE) (nomark _)) (pss_one (ps_ret (pe_lst (pa_cons (pe_tup (pa_cons (pe_gInt (by rfl) T.cUSE) (pa_cons (pv 6) (pa_cons (pv 7) (pa_cons (pv 8) (pa_cons (pv 9) (pa_cons (pe_and (pe_ix (ixT K) (pv 2) pe_int (fun _ _ => rfl)) (pe_and (pe_cmpR op_eq (pv 4) pe_str (nomark _)) (pe_one (pe_cmpR op_eq (pv 6) pe_int (nomark _))))) pa_nil))))))) pa_nil)))) pss_nil)
    (pss_cons (ps_if (PW.pt (pw_and (pt_cmpR op_gt (pv 5) (pv 6) (nomark _)) (pw_and1 (pt_cmpR op_eq (pe_bkK K G_bk_lifted (hr.mono (by omega)) (pv 0)) pe_str (nomark _))))) (pss_one (ps_ret (pe_lst pa_nil))) pss_nil)
    (pss_cons (ps_set (i := 10) sc_led_to.nd rfl (Or.inl rfl) (pe_callB (minL K rfl) (by rfl) T.b_min (by decide +kernel) (pa_cons (pe_lst (pa_cons (pv 5) (pa_cons (pv 6) pa_nil))) pa_nil)))
    (pss_cons (ps_if (PW.pt (pw_or (pt_cmpR op_eq (pv 7) (pe_gStr (by rfl) T.cOWN) (nomark _)) (pw_or1 (pt_cmpR op_le (pv 10) (pv 8) (nomark _))))) (pss_one (ps_ret (pe_callK K G_kept_in_common (hr.mono (by omega)) (by rfl) (pa_cons (pv 5) (pa_cons (pv 10) (pa_cons (pv 1) pa_nil)))))) pss_nil)
    (pss_one (ps_ret (pe_lst (pa_cons (pe_tup (pa_cons (pv 5) (pa_cons (pv 10) (pa_cons (pv 7) (pa_cons (pv 8) (pa_cons (pv 9) (pa_cons pe_bl pa_nil))))))) pa_nil)))))))))), ?_⟩)
  · obtain ⟨a, b, D, sa, wa, S, q, rfl, _⟩ := h
    rfl
  · obtain ⟨a, b, D, sa, wa, S, ⟨way, u⟩, rfl, hB, h1, h2, hS, hf, hw, hu1, hu2, q⟩ := h
    have hu1 : -1 ≤ u := hu1
    have hu2 : u ≤ D := hu2
    obtain ⟨l1, l2⟩ := askL_bd (b := b) (way := way) h1 hf
    refine ⟨_, rfl, wa, _, rfl, SqT.of hw, rfl, _, _, rfl, _, _, rfl, rfl, ?_⟩
    refine ⟨_, rfl, _, rfl, _, rfl, _, rfl, a, b, D, sa, S, way, rfl, hB, hS, fun H1 p r s1 e1 e2 => ?_⟩
    refine ⟨p, _, rfl, SqT.of e1, rfl, _, _, rfl, _, _, rfl, ⟨r, _, rfl, SqT.of e2, rfl, _, _, rfl, _, _, rfl, _, _, rfl, rfl, rfl, ?_⟩⟩
    have hB1 := hB.same s1
    obtain ⟨dx, t, b1, b2⟩ := id hB1
    refine ⟨_, rfl, rfl, _, rfl, ?_⟩
    rw [decint]
    unfold ledL at q
    have hS1 : H1 sa = some (.tup (stV S)) := s1 _ _ hS
    refine ite2 (fun c => ?_) (fun c => ?_)
    · have c1 : u = -1 := of_decide_eq_true c
      rw [if_pos c1] at q
      refine ⟨_, rfl, _, rfl, _, rfl, _, rfl, _, rfl, sa, _, 5, _, rfl, rfl, SqT.of hS1, rfl, S.rooted, rfl, ?_⟩
      have fin : ∀ z : Bool, z = (S.rooted && (way && decide (askL b D S way = 0))) → tTup (fun _ H Q => Q [V.int (-1), .int (askL b D S way), .str (madeS (askO S way)), .int (askC S way), .bl (askP S way), .bl z] H) [] H1 (fun x H2 => tNil [] H2 fun xs H3 => (x :: xs).length ≤ sizeLine ∧ ∀ p, H3 p = none → Q (.ref p) (upd H3 p (.lst (x :: xs)))) := fun z ez => by
        subst ez
        refine ⟨szl, fun t1 n1 => ⟨szl, fun l1 m1 => ?_⟩⟩
        have n12 : t1 ≠ l1 := ne_of_none upd_same m1
        refine q _ l1 [(⟨-1, askL b D S way, askO S way, askC S way, askP S way, S.rooted && (way && decide (askL b D S way = 0))⟩, t1)] (s1.trans ((same_new n1).trans (same_new m1))) ?_ ⟨upd_same, fun p hp => ?_⟩ rfl
        · cases z : H l1 with
          | none => rfl
          | some o =>
            rw [(s1.trans (same_new n1)) _ _ z] at m1
            cases m1
        · rw [List.mem_singleton] at hp
          rw [hp]
          show upd _ l1 _ t1 = _
          rw [upd_ne n12]
          exact upd_same
      cases hr0 : S.rooted with
      | false => exact iteF (fin _ (by rw [hr0]; rfl))
      | true =>
        refine iteT ⟨_, rfl, rfl, _, rfl, ?_⟩
        rw [ways_ne]
        cases way with
        | false => exact iteF (fin _ (by rw [hr0]; rfl))
        | true =>
          refine iteT ⟨_, rfl, rfl, ?_⟩
          rw [decint]
          exact fin _ (by rw [hr0]; rfl)
    · have c1 : ¬ u = -1 := fun z => c (decide_eq_true z)
      rw [if_neg c1] at q
      refine ⟨_, rfl, _, rfl, _, _, rfl, rfl, _, rfl, ?_⟩
      refine ite2 (fun c2 => rdBk rfl b1 (bf_lifted ..) ⟨rfl, _, rfl, ?_⟩) (fun c2 => ?_)
      · have c2' : askL b D S way < u := of_decide_eq_true c2
        rw [decstr]
        refine ite2 (fun c3 => ?_) (fun c3 => ?_)
        · have c3' : b.lifted = "nothing" := of_decide_eq_true c3
          rw [if_pos ⟨c2', c3'⟩] at q
          refine ⟨szl, fun l1 m1 => q _ l1 [] (s1.trans (same_new m1)) ?_ ⟨upd_same, fun p hp => nomatch hp⟩ rfl⟩
          cases z : H l1 with
          | none => rfl
          | some o =>
            rw [s1 _ _ z] at m1
            cases m1
        · have hn : ¬ (askL b D S way < u ∧ b.lifted = "nothing") := fun z => c3 (decide_eq_true z.2)
          rw [if_neg hn] at q
          refine ⟨_, rfl, _, rfl, szl, fun m1 n1 => ⟨m1, [u, askL b D S way], rfl, SqL.of upd_same, by simp, fun z hz hle => ?_⟩⟩
          have ez : z = min u (askL b D S way) := by
            have z1 := hle u (by simp)
            have z2 := hle (askL b D S way) (by simp)
            rcases List.mem_cons.mp hz with e | e
            · omega
            · have e : z = askL b D S way := by simpa using e
              omega
          subst ez
          have s2 := s1.trans (same_new (o := .lst [V.int u, V.int (askL b D S way)]) n1)
          have kept : ∀ Qr : VK, (∀ (H' : Hp) (p : Addr) (xs : List SA), Same H H' → H p = none → LstAt H' p xs → xs.map (·.1) = keptL u (min u (askL b D S way)) D → Qr (.ref p) H') → spKept [.int u, .int (min u (askL b D S way)), .int D] (upd H1 m1 (.lst [V.int u, V.int (askL b D S way)])) Qr E0 := fun Qr hq =>
            ⟨_, _, _, rfl, by omega, by omega, by omega, by omega, fun H' p xs s3 np hl hm => hq H' p xs (s2.trans s3) (by
              cases z : H p with
              | none => rfl
              | some o =>
                rw [s2 _ _ z] at np
                cases np) hl hm⟩
          refine ⟨_, rfl, rfl, _, rfl, ?_⟩
          rw [made_own]
          refine ite2 (fun ho => ?_) (fun ho => ?_)
          · rw [if_pos (.inl ho)] at q
            exact ⟨_, rfl, _, rfl, _, rfl, kept _ q⟩
          · refine ⟨_, rfl, _, rfl, _, _, rfl, rfl, _, rfl, ?_⟩
            refine ite2 (fun c4 => ?_) (fun c4 => ?_)
            · have c5 : min u (askL b D S way) ≤ askC S way := of_decide_eq_true c4
              rw [if_pos (.inr c5)] at q
              exact ⟨_, rfl, _, rfl, _, rfl, kept _ q⟩
            · have c5 : ¬ (askO S way = true ∨ min u (askL b D S way) ≤ askC S way) := by
                rintro (z | z)
                · exact ho z
                · exact c4 (decide_eq_true z)
              rw [if_neg c5] at q
              refine ⟨_, rfl, _, rfl, _, rfl, _, rfl, _, rfl, szl, fun t1 m2 => ⟨szl, fun l1 m3 => ?_⟩⟩
              have n12 : t1 ≠ l1 := ne_of_none upd_same m3
              have s3 := s2.trans ((same_new (o := .tup [V.int u, .int (min u (askL b D S way)), .str (madeS (askO S way)), .int (askC S way), .bl (askP S way), .bl false]) m2))
              have s4 := s3.trans (same_new (o := .lst [V.ref t1]) m3)
              refine q _ l1 [(⟨u, min u (askL b D S way), askO S way, askC S way, askP S way, false⟩, t1)] s4 ?_ ⟨upd_same, fun p hp => ?_⟩ rfl
              · cases z : H l1 with
                | none => rfl
                | some o =>
                  rw [s3 _ _ z] at m3
                  cases m3
              · rw [List.mem_singleton] at hp
                rw [hp]
                show upd _ l1 _ t1 = _
                rw [upd_ne n12]
                exact upd_same
      · have hn : ¬ (askL b D S way < u ∧ b.lifted = "nothing") := fun z => c2 (decide_eq_true z.1)
        rw [if_neg hn] at q
        refine ⟨_, rfl, _, rfl, szl, fun m1 n1 => ⟨m1, [u, askL b D S way], rfl, SqL.of upd_same, by simp, fun z hz hle => ?_⟩⟩
        have ez : z = min u (askL b D S way) := by
          have z1 := hle u (by simp)
          have z2 := hle (askL b D S way) (by simp)
          rcases List.mem_cons.mp hz with e | e
          · omega
          · have e : z = askL b D S way := by simpa using e
            omega
        subst ez
        have s2 := s1.trans (same_new (o := .lst [V.int u, V.int (askL b D S way)]) n1)
        have kept : ∀ Qr : VK, (∀ (H' : Hp) (p : Addr) (xs : List SA), Same H H' → H p = none → LstAt H' p xs → xs.map (·.1) = keptL u (min u (askL b D S way)) D → Qr (.ref p) H') → spKept [.int u, .int (min u (askL b D S way)), .int D] (upd H1 m1 (.lst [V.int u, V.int (askL b D S way)])) Qr E0 := fun Qr hq =>
          ⟨_, _, _, rfl, by omega, by omega, by omega, by omega, fun H' p xs s3 np hl hm => hq H' p xs (s2.trans s3) (by
            cases z : H p with
            | none => rfl
            | some o =>
              rw [s2 _ _ z] at np
              cases np) hl hm⟩
        refine ⟨_, rfl, rfl, _, rfl, ?_⟩
        rw [made_own]
        refine ite2 (fun ho => ?_) (fun ho => ?_)
        · rw [if_pos (.inl ho)] at q
          exact ⟨_, rfl, _, rfl, _, rfl, kept _ q⟩
        · refine ⟨_, rfl, _, rfl, _, _, rfl, rfl, _, rfl, ?_⟩
          refine ite2 (fun c4 => ?_) (fun c4 => ?_)
          · have c5 : min u (askL b D S way) ≤ askC S way := of_decide_eq_true c4
            rw [if_pos (.inr c5)] at q
            exact ⟨_, rfl, _, rfl, _, rfl, kept _ q⟩
          · have c5 : ¬ (askO S way = true ∨ min u (askL b D S way) ≤ askC S way) := by
              rintro (z | z)
              · exact ho z
              · exact c4 (decide_eq_true z)
            rw [if_neg c5] at q
            refine ⟨_, rfl, _, rfl, _, rfl, _, rfl, _, rfl, szl, fun t1 m2 => ⟨szl, fun l1 m3 => ?_⟩⟩
            have n12 : t1 ≠ l1 := ne_of_none upd_same m3
            have s3 := s2.trans ((same_new (o := .tup [V.int u, .int (min u (askL b D S way)), .str (madeS (askO S way)), .int (askC S way), .bl (askP S way), .bl false]) m2))
            have s4 := s3.trans (same_new (o := .lst [V.ref t1]) m3)
            refine q _ l1 [(⟨u, min u (askL b D S way), askO S way, askC S way, askP S way, false⟩, t1)] s4 ?_ ⟨upd_same, fun p hp => ?_⟩ rfl
            · cases z : H l1 with
              | none => rfl
              | some o =>
                rw [s3 _ _ z] at m3
                cases m3
            · rw [List.mem_singleton] at hp
              rw [hp]
              show upd _ l1 _ t1 = _
              rw [upd_ne n12]
              exact upd_same
end
end HL

set_option Elab.async false
set_option linter.all false
set_option maxRecDepth 100000
set_option maxHeartbeats 4000000
/-! S4: follow, lacks, is_wrong -/
namespace HL
open PySem PySem.Spec PyProof.Rows L2
theorem dcS_list {P : Program} {w : World} {K : PySem.W.Frag} {a : Addr} {xs : List V} {g : TG} {tt : TT} {tk tv : TE} {vs : List Nat} {σ : L2.St} {H1 : Hp} {D : Addr} {Qd : Hp → Prop} (Pv : Nat → Hp → Prop) (h0 : Pv 0 (upd H1 D (SD P w D [])))
    (hl : ∀ i H, i ≤ xs.length → Pv i H → SqL K H a xs)
    (hs : ∀ i x H, xs[i]? = some x → Pv i H → g x (wipe σ vs) H fun σ2 H2 => wipe σ2 vs = wipe σ vs ∧ tt σ2 H2 fun b H3 => if b = true then tk σ2 H3 fun y H4 => tv σ2 H4 fun z H5 =>
      ∃ xs S a, y = .ref a ∧ z = .bl true ∧ H5 a = some (.tup (stV S)) ∧ H5 D = some (SD P w D xs) ∧ KeysSt H5 xs ∧ xs.length < sizeLine ∧ Pv (i + 1) (upd H5 D (SD P w D (putS xs S a))) else Pv (i + 1) H3) (hd : ∀ H, Pv xs.length H → Qd H) :
    ∃ W : Nat → Nat → Hp → Prop, (∃ m, W 0 m (upd H1 D (SD P w D []))) ∧ ∀ i m H, W i m H →
      ((Itl K a).stop i H ∧ Qd H) ∨ ((Itl K a).go i H ∧ ∃ Nx : Hp → Prop, (∀ H', Nx H' → ∃ m', m' < m ∧ W (i + 1) m' H') ∧ ∀ x H', (Itl K a).yld i H x H' → g x (wipe σ vs) H' fun σ2 H2 => wipe σ2 vs = wipe σ vs ∧ tt σ2 H2 fun b H3 =>
        if b = true then tk σ2 H3 fun y H4 => tv σ2 H4 fun z H5 => ∃ xs S a, y = .ref a ∧ z = .bl true ∧ H5 a = some (.tup (stV S)) ∧ H5 D = some (SD P w D xs) ∧ KeysSt H5 xs ∧ xs.length < sizeLine ∧ Nx (upd H5 D (SD P w D (putS xs S a))) else Nx H3) := by
  refine ⟨fun i m H => m = xs.length - i ∧ i ≤ xs.length ∧ Pv i H, ⟨_, rfl, Nat.zero_le _, h0⟩, ?_⟩
  rintro i m H ⟨rfl, hi, p⟩
  have q := hl i H hi p
  rcases Nat.lt_or_ge i xs.length with lt | ge
  · refine .inr ⟨⟨xs, xs[i], q, by simp [lt]⟩, Pv (i + 1), fun H' p' => ⟨xs.length - (i + 1), by omega, rfl, lt, p'⟩, ?_⟩
    rintro x H' ⟨rfl, y⟩
    exact hs i x _ (y xs q) p
  · have e : i = xs.length := by omega
    subst e
    exact .inl ⟨⟨xs, q, Nat.le_refl _⟩, hd H p⟩
theorem KeysSt.updS {P : Program} {w : World} {H : Hp} {xs ys zs : List SA} {D : Addr} (k : KeysSt H xs) (h : H D = some (SD P w D ys)) : KeysSt (L2.upd H D (SD P w D zs)) xs := fun p hp => by
  rw [upd_ne (ne_of (k p hp) h (fun z => nomatch z))]
  exact k p hp
theorem keptL_len {l v D : Int} (h : D ≤ 3) (h0 : 0 ≤ v) : (keptL l v D).length ≤ 7 := by
  unfold keptL
  rw [keptM_len]
  omega
theorem ledL_len {b : Bk} {D : Int} {S : Stand} {q : Wa} (h1 : 1 ≤ D) (h2 : D ≤ 3) (hf : isForm D S) (hq : -1 ≤ q.2) : (ledL b D S q).length ≤ 7 := by
  obtain ⟨l1, l2⟩ := askL_bd (b := b) (way := q.1) h1 hf
  unfold ledL
  split
  · simp
  · split
    · simp
    · split
      · exact keptL_len h2 (by omega)
      · simp
section
variable {P : Program} {w : World} {K : PySem.W.Frag} {mg : Str → Option Value} {base : Heap}
def follR (b : Bk) (D : Int) (S S' : Stand) : Prop := ∃ q ∈ wantsL D, S' ∈ ledL b D S q
def spFollow (K : PySem.W.Frag) : Sp := fun vs H Q _ => ∃ (a : Addr) (b : Bk) (D : Int) (sa : Addr) (S : Stand), vs = [.ref a, .int D, .ref sa] ∧ BkAt K H a b ∧ 1 ≤ D ∧ D ≤ 3 ∧ StAt H sa S ∧ isForm D S ∧ GivesM H (follR b D S) Q
theorem ok_followers (T : Txt K mg) : OKF P w K mg base 5 "followers" P_followers (spFollow K) := by
  have G_wants_of := ok_wants_of (P := P) (w := w) (base := base) T
  have G_led_to := ok_led_to (P := P) (w := w) (base := base) T
  refine okf T.f_followers sc_followers (fun _ _ _ _ _ _ us hl => match us, hl with | [_, _, _], _ => rfl) (fun vs H Q E h => ?_) (fun cdv A outer s H vs Q E hr h => ⟨_, (pss_cons (ps_set (i := 3) sc_followers.nd rfl (Or.inl rfl) pe_dnewS)
    (pss_cons (ps_for PassesOwn.never rfl (pi_list (pe_callK K G_wants_of (hr.mono (by omega)) (by rfl) (pa_cons (pv 0) (pa_cons (pv 1) (pa_cons (pe_ix (ixT K) (pv 2) pe_int (fun _ _ => rfl)) pa_nil))))) (pg_name (i := 4) sc_followers.nd rfl (Or.inl rfl)) (pss_one (ps_expr (pe_dupdS (hu_of hr) (pv 3) (pe_dcS (by first | exact hr.units0) (own := [("one", 5)]) (g := (gName 5)) (tt := tYes) rfl sc_followers.nd (pi_list (pe_callK K G_led_to (hr.mono (by omega)) (by rfl) (pa_cons (pv 0) (pa_cons (pv 1) (pa_cons (pv 2) (pa_cons (pv 4) pa_nil)))))) (blkOk_by (own := [("one", 5)]) (N := N_followers) (sc := defScope s_followers) (by decide +kernel)) (fun _ _ _ _ _ => (pg_name (i := 5) sc_followers.nd rfl (by first | exact Or.inl rfl | exact Or.inr rfl) (by first | exact .inl rfl | exact .inr rfl))) (fun _ _ _ _ _ => pts_nil) (fun _ _ _ _ _ => (pv 5)) (fun _ _ _ _ _ => pe_bl)) ⟨rfl, rfl, rfl, rfl⟩))))
    (pss_one (ps_ret (pe_callB (cr_sortedSD rfl) (by rfl) T.b_sorted (by decide +kernel) (pa_cons (pv 3) pa_nil)))))), ?_⟩)
  · obtain ⟨a, b, D, sa, S, rfl, _⟩ := h
    rfl
  · obtain ⟨a, b, D, sa, S, rfl, hB, h1, h2, hS, hf, q⟩ := h
    intro d nd
    have s1 := same_new (o := SD P w d []) nd
    refine ⟨_, rfl, _, rfl, _, rfl, sa, _, 0, _, rfl, rfl, SqT.of (s1 _ _ hS), rfl, a, b, D, _, rfl, hB.same s1, h1, h2, fun H1 pw xs s2 npw e1 e2 e3 => ?_⟩
    refine ⟨pw, rfl, ⟨_, SqL.of e1⟩, ?_⟩
    have nwd : pw ≠ d := fun z => by rw [z, upd_same] at npw; cases npw
    have sB : ∀ b o, b ≠ d → upd H d (SD P w d []) b = some o → H1 b = some o := fun b o _ e => s2 b o e
    refine for_list (K := K) (a := pw) (xs := refsW xs) (fun i σ H2 => ∃ (x4 : Option V) (zs : List SA), σ = [some (.ref a), some (.int D), some (.ref sa), some (.ref d), x4, none] ∧ H2 d = some (SD P w d zs) ∧ KeysSt H2 zs ∧ KeepD d H1 H2 ∧ (0 < i → zs ≠ []) ∧ zs.length ≤ 8 * i ∧ (i = 0 → zs = []) ∧
      ∀ S', S' ∈ zs.map (·.1) ↔ ∃ j, j < i ∧ ∃ y, (wantsL D)[j]? = some y ∧ S' ∈ ledL b D S y)
      ⟨none, [], rfl, s2 _ _ upd_same, (fun _ z => nomatch z), .refl, (fun z => absurd z (by omega)), by simp, (fun _ => rfl), fun S' => ⟨fun z => (nomatch z), fun ⟨j, hj, _⟩ => absurd hj (by omega)⟩⟩ ?_ ?_ ?_
    · rintro i σ H2 _ ⟨x4, zs, rfl, g1, g2, g3, _⟩
      exact SqL.of (g3 _ _ nwd e1)
    · rintro i x σ H2 hx ⟨x4, zs, rfl, g1, g2, g3, g4, g5, g6, g7⟩
      obtain ⟨y, hy, rfl⟩ : ∃ y, xs[i]? = some y ∧ x = V.ref y.2 := by
        unfold refsW at hx
        rw [List.getElem?_map] at hx
        cases hq : xs[i]? with
        | none => rw [hq] at hx; cases hx
        | some y => rw [hq] at hx; exact ⟨y, rfl, (Option.some.inj hx).symm⟩
      have hym : (wantsL D)[i]? = some y.1 := by rw [← e3, List.getElem?_map, hy]; rfl
      have hyb : -1 ≤ y.1.2 ∧ y.1.2 ≤ D := by
        have z := List.mem_of_getElem? hym
        exact mem_wantsL.mp (show (y.1.1, y.1.2) ∈ wantsL D from z)
      have hi10 : i < 10 := Nat.lt_of_lt_of_le (List.getElem?_eq_some_iff.mp hym).1 (wantsL_len h2)
      have kw : H2 y.2 = some (.tup (waV y.1)) := g3 _ _ (ne_of (s2 _ _ upd_same |> fun _ => e2 y (List.mem_of_getElem? hy)) (s2 _ _ upd_same) (fun z => nomatch z)) (e2 y (List.mem_of_getElem? hy))
      obtain ⟨dx, t, b1, b2⟩ := id hB
      have hd1 : H1 d = some (SD P w d []) := s2 _ _ upd_same
      have keepH : ∀ c o, H c = some o → o ≠ SD P w d [] → H2 c = some o := fun c o hc hne => g3 _ _ (ne_of_none hc nd) (s2 _ _ (s1 _ _ hc))
      have hB2 : BkAt K H2 a b := ⟨dx, t, keepH _ _ b1 (fun z => nomatch z), keepH _ _ b2 (fun z => nomatch z)⟩
      have hS2 : StAt H2 sa S := keepH _ _ hS (fun z => nomatch z)
      refine ⟨_, rfl, d, zs, rfl, g1, ?_⟩
      refine ⟨_, rfl, _, rfl, _, rfl, _, rfl, a, b, D, sa, y.2, S, y.1, rfl, hB2, h1, h2, hS2, hf, kw, hyb.1, hyb.2, fun H3 pl ys s3 npl hl hm => ?_⟩
      have hylen : ys.length ≤ 7 := by
        have z := congrArg List.length hm
        rw [List.length_map] at z
        rw [z]
        exact ledL_len h1 h2 hf hyb.1
      refine ⟨pl, rfl, ⟨_, SqL.of hl.at_⟩, fun o no => ?_⟩
      have npo : pl ≠ o := ne_of_none hl.at_ no
      refine dcS_list (K := K) (a := pl) (xs := refsOf ys) (fun j H4 => ∃ us : List SA, H4 o = some (SD P w o us) ∧ KeysSt H4 us ∧ KeepD o H3 H4 ∧ us.length ≤ j ∧ (0 < j → us ≠ []) ∧ ∀ S', S' ∈ us.map (·.1) ↔ S' ∈ (ys.map (·.1)).take j)
        ⟨[], upd_same, (fun _ z => nomatch z), .of (same_new no), by simp, (fun z => absurd z (by omega)), by simp⟩ ?_ ?_ ?_
      · rintro j H4 _ ⟨us, _, _, k3, _⟩
        exact SqL.of (k3 _ _ npo hl.at_)
      · rintro j x H4 hx ⟨us, k1, k2, k3, k4, k5, k6⟩
        obtain ⟨v, hv, rfl⟩ : ∃ v, ys[j]? = some v ∧ x = V.ref v.2 := by
          unfold refsOf at hx
          rw [List.getElem?_map] at hx
          cases hq : ys[j]? with
          | none => rw [hq] at hx; cases hx
          | some v => rw [hq] at hx; exact ⟨v, rfl, (Option.some.inj hx).symm⟩
        have hj : j < ys.length := (List.getElem?_eq_some_iff.mp hv).1
        have kv : H3 v.2 = some (.tup (stV v.1)) := hl.keys v (List.mem_of_getElem? hv)
        have kv4 : H4 v.2 = some (.tup (stV v.1)) := k3 _ _ (ne_of_none kv no) kv
        refine ⟨rfl, ?_⟩
        refine ⟨_, rfl, us, v.1, v.2, rfl, rfl, kv4, k1, k2, ?_, putS us v.1 v.2, upd_same, ?_, ?_, ?_, ?_, ?_⟩
        · have sz : sizeLine = 16777216 := sizeLine_eq
          omega
        · refine KeysSt.updS (ys := us) (fun p hp => ?_) k1
          rcases putS_mem hp with z | z
          · exact k2 p z
          · rw [z]
            exact kv4
        · exact k3.trans KeepD.upd
        · have := putS_len us v.1 v.2
          omega
        · intro _ e
          have z := (putS_keys (xs := us) (S := v.1) (a := v.2) (T := v.1)).mpr (.inr rfl)
          rw [e] at z
          cases z
        · intro S'
          rw [putS_keys, k6, List.take_add_one, List.getElem?_map, hv, List.mem_append]
          simp
      · rintro H4 ⟨us, k1, k2, k3, k4, k5, k6⟩
        have ndo : d ≠ o := fun z => by
          rw [← z] at no
          rw [s3 _ _ g1] at no
          cases no
        have g1' : H4 d = some (SD P w d zs) := k3 _ _ ndo (s3 _ _ g1)
        have kz : KeysSt H4 zs := fun p hp => k3 _ _ (ne_of_none (s3 _ _ (g2 p hp)) no) (s3 _ _ (g2 p hp))
        have lu : (refsOf ys).length = ys.length := refsOf_len ys
        refine ⟨o, zs, us, rfl, g1', k1, ndo, kz, k2, ?_, ?_, _, putAllS zs us, rfl, upd_same, ?_, ?_, ?_, ?_, ?_, ?_⟩
        · rcases Nat.eq_zero_or_pos i with z | z
          · right
            subst z
            have e0 : y.1 = (false, -1) := Option.some.inj (hym.symm.trans (wantsL_head (by omega)))
            have z1 := congrArg List.length hm
            rw [List.length_map, e0] at z1
            have z2 : (ledL b D S (false, -1)).length = 1 := by unfold ledL; rw [if_pos rfl]; rfl
            omega
          · exact .inl (g4 z)
        · have sz : sizeLine = 16777216 := sizeLine_eq
          omega
        · refine KeysSt.updS (ys := zs) (fun p hp => ?_) g1'
          rcases putAllS_mem hp with z | z
          · exact kz p z
          · exact k2 p z
        · refine fun c u hc hu => ?_
          rw [upd_ne hc]
          exact k3 _ _ (ne_of_none (s3 _ _ (g3 _ _ hc hu)) no) (s3 _ _ (g3 _ _ hc hu))
        · intro _
          rcases Nat.eq_zero_or_pos i with z | z
          · subst z
            refine putAllS_ne (.inr (k5 ?_))
            have e0 : y.1 = (false, -1) := Option.some.inj (hym.symm.trans (wantsL_head (by omega)))
            have z1 := congrArg List.length hm
            rw [List.length_map, e0] at z1
            have z2 : (ledL b D S (false, -1)).length = 1 := by unfold ledL; rw [if_pos rfl]; rfl
            omega
          · exact putAllS_ne (.inl (g4 z))
        · have := putAllS_len us zs
          omega
        · intro z
          omega
        · intro S'
          rw [putAllS_keys, g7, k6, lu, List.take_of_length_le (by rw [List.length_map]; exact Nat.le_refl _), hm]
          constructor
          · rintro (⟨j, hj, r⟩ | r)
            · exact ⟨j, by omega, r⟩
            · exact ⟨i, by omega, _, hym, r⟩
          · rintro ⟨j, hj, y', hy', r⟩
            by_cases e : j = i
            · subst e
              rw [hym] at hy'
              cases hy'
              exact .inr r
            · exact .inl ⟨j, by omega, y', hy', r⟩
    · rintro σ H2 ⟨x4, zs, rfl, g1, g2, g3, g4, g5, g6, g7⟩
      refine ⟨_, rfl, d, zs, rfl, g1, g2, fun bs p hp np => ?_⟩
      obtain ⟨ys, k1, k2⟩ := sorted_give g2 hp np
      have sH : Same H H2 := fun c o hc => g3 _ _ (ne_of_none hc nd) (s2 _ _ (s1 _ _ hc))
      refine q _ p ys (sH.trans (same_new np)) ?_ k1 fun S' => ?_
      · cases z : H p with
        | none => rfl
        | some o =>
          rw [sH _ _ z] at np
          cases np
      · rw [(k2.map (·.1)).mem_iff, g7]
        have lx : (refsW xs).length = (wantsL D).length := by
          unfold refsW
          rw [List.length_map, ← e3, List.length_map]
        constructor
        · rintro ⟨j, _, y, hy, r⟩
          exact ⟨y, List.mem_of_getElem? hy, r⟩
        · rintro ⟨y, hy, r⟩
          obtain ⟨j, hj⟩ := List.mem_iff_getElem?.mp hy
          exact ⟨j, by rw [lx]; exact (List.getElem?_eq_some_iff.mp hj).1, y, hj, r⟩
theorem ok_follow (T : Txt K mg) : OKF P w K mg base 6 "follow" P_follow (spFollow K) := by
  have G_need_book := ok_need_book (P := P) (w := w) (base := base) T
  have G_need_depth := ok_need_depth (P := P) (w := w) (base := base) T
  have G_need_stand := ok_need_stand (P := P) (w := w) (base := base) T
  have G_followers := ok_followers (P := P) (w := w) (base := base) T
  refine okf T.f_follow sc_follow (fun _ _ _ _ _ _ us hl => match us, hl with | [_, _, _], _ => rfl) (fun vs H Q E h => ?_) (fun cdv A outer s H vs Q E hr h => ⟨_, (pss_cons (ps_expr (pe_callK K G_need_book (hr.mono (by omega)) (by rfl) (pa_cons (pv 0) pa_nil)))
    (pss_cons (ps_expr (pe_callK K G_need_depth (hr.mono (by omega)) (by rfl) (pa_cons (pv 1) pa_nil)))
    (pss_cons (ps_expr (pe_callK K G_need_stand (hr.mono (by omega)) (by rfl) (pa_cons (pv 1) (pa_cons (pv 2) pa_nil))))
    (pss_one (ps_ret (pe_callK K G_followers (hr.mono (by omega)) (by rfl) (pa_cons (pv 0) (pa_cons (pv 1) (pa_cons (pv 2) pa_nil))))))))), ?_⟩)
  · obtain ⟨a, b, D, sa, S, rfl, _⟩ := h
    rfl
  · obtain ⟨a, b, D, sa, S, rfl, hB, h1, h2, hS, hf, q⟩ := h
    obtain ⟨dx, t, b1, b2⟩ := id hB
    refine ⟨_, rfl, a, dx, _, rfl, b1, _, rfl, D, rfl, h1, h2, _, rfl, _, rfl, D, sa, S, rfl, hS, hf, fun H1 s1 => ?_⟩
    refine ⟨_, rfl, _, rfl, _, rfl, a, b, D, sa, S, rfl, hB.same s1, h1, h2, s1 _ _ hS, hf, fun H2 p xs s2 np hl hm => q H2 p xs (s1.trans s2) ?_ hl hm⟩
    cases z : H p with
    | none => rfl
    | some o =>
      rw [s1 _ _ z] at np
      cases np
/-- the wants for which nothing is got -/
def lackL (b : Bk) (D : Int) (S : Stand) : List Wa := if b.lifted = "kept" then [] else (wantsL D).filter fun q => decide (askL b D S q.1 < q.2)
def spLacked (K : PySem.W.Frag) : Sp := fun vs H Q _ => ∃ (a : Addr) (b : Bk) (D : Int) (sa : Addr) (S : Stand), vs = [.ref a, .int D, .ref sa] ∧ BkAt K H a b ∧ 1 ≤ D ∧ D ≤ 3 ∧ StAt H sa S ∧
  ∀ (H' : Hp) (p : Addr) (xs : List WA), Same H H' → H' p = some (.lst (refsW xs)) → KeysW H' xs → xs.map (·.1) = lackL b D S → Q (.ref p) H'
theorem ok_lacked (T : Txt K mg) : OKF P w K mg base 4 "lacked" P_lacked (spLacked K) := by
  have G_bk_lifted := bk_lifted (P := P) (w := w) (base := base) T
  have G_wants_of := ok_wants_of (P := P) (w := w) (base := base) T
  have G_asked_from := ok_asked_from (P := P) (w := w) (base := base) T
  refine okf T.f_lacked sc_lacked (fun _ _ _ _ _ _ us hl => match us, hl with | [_, _, _], _ => rfl) (fun vs H Q E h => ?_) (fun cdv A outer s H vs Q E hr h => ⟨_, (pss_cons (ps_if (pt_cmpR op_eq (pe_bkK K G_bk_lifted (hr.mono (by omega)) (pv 0)) pe_str (nomark _)) (pss_one (ps_ret (pe_lst pa_nil))) pss_nil)
    (pss_cons (ps_set (i := 3) sc_lacked.nd rfl (Or.inl rfl) (pe_callK K G_wants_of (hr.mono (by omega)) (by rfl) (pa_cons (pv 0) (pa_cons (pv 1) (pa_cons (pe_ix (ixT K) (pv 2) pe_int (fun _ _ => rfl)) pa_nil)))))
    (pss_one (ps_ret (pe_lc (own := [("want", 4)]) (g := (gName 4)) rfl sc_lacked.nd (pi_list (pv 3)) (blkOk_by (own := [("want", 4)]) (N := N_lacked) (sc := defScope s_lacked) (by decide +kernel)) (fun _ _ _ _ _ => (pg_name (i := 4) sc_lacked.nd rfl (by first | exact Or.inl rfl | exact Or.inr rfl) (by first | exact .inl rfl | exact .inr rfl))) (fun _ _ _ _ _ => (pts_one (pt_cmpR op_gt (pe_ix (ixT K) (pv 4) pe_int (fun _ _ => rfl)) (pe_ix (ixT K) (pe_callK K G_asked_from (hr.mono (by omega)) (by rfl) (pa_cons (pv 0) (pa_cons (pv 1) (pa_cons (pv 2) (pa_cons (pe_ix (ixT K) (pv 4) pe_int (fun _ _ => rfl)) pa_nil))))) pe_int (fun _ _ => rfl)) (nomark _)))) (fun _ _ _ _ _ => (pv 4))))))), ?_⟩)
  · obtain ⟨a, b, D, sa, S, rfl, _⟩ := h
    rfl
  · obtain ⟨a, b, D, sa, S, rfl, hB, h1, h2, hS, q⟩ := h
    obtain ⟨dx, t, b1, b2⟩ := id hB
    unfold lackL at q
    refine rdBk rfl b1 (bf_lifted ..) ⟨rfl, _, rfl, ?_⟩
    rw [decstr]
    refine ite2 (fun c => ?_) (fun c => ?_)
    · rw [if_pos (of_decide_eq_true c)] at q
      exact ⟨szl, fun l nl => q _ l [] (same_new nl) upd_same (fun _ z => nomatch z) rfl⟩
    · rw [if_neg (fun z => c (decide_eq_true z))] at q
      refine ⟨_, rfl, _, rfl, _, rfl, sa, _, 0, _, rfl, rfl, SqT.of hS, rfl, a, b, D, _, rfl, hB, h1, h2, fun H1 pw xs s1 npw e1 e2 e3 => ?_⟩
      refine ⟨_, rfl, pw, rfl, ⟨_, SqL.of e1⟩, fun M nM => ?_⟩
      refine lc_list (K := K) (a := pw) (xs := refsW xs) (fun i H2 => ∃ zs : List WA, H2 M = some (.lst (refsW zs)) ∧ KeysW H2 zs ∧ zs.map (·.1) = ((xs.map (·.1)).take i).filter (fun q => decide (askL b D S q.1 < q.2)) ∧ KeepD M H1 H2 ∧ zs.length ≤ i)
        ⟨[], upd_same, (fun _ z => nomatch z), rfl, KeepD.of (same_new nM), by simp⟩ (fun i H2 _ ⟨zs, _, _, _, p, _⟩ => ?_) ?_ ?_
      · exact SqL.of (p pw _ (ne_of_none e1 nM) e1)
      · rintro i x H2 hx ⟨zs, g1, g3, g4, g2, g5⟩
        obtain ⟨y, hy, rfl⟩ : ∃ y, xs[i]? = some y ∧ x = V.ref y.2 := by
          unfold refsW at hx
          rw [List.getElem?_map] at hx
          cases hq : xs[i]? with
          | none => rw [hq] at hx; cases hx
          | some y => rw [hq] at hx; exact ⟨y, rfl, (Option.some.inj hx).symm⟩
        have hi10 : i < 10 := by
          have z := (List.getElem?_eq_some_iff.mp hy).1
          have z2 := congrArg List.length e3
          rw [List.length_map] at z2
          have := wantsL_len (D := D) h2
          omega
        have ky0 : H1 y.2 = some (.tup (waV y.1)) := e2 y (List.mem_of_getElem? hy)
        have ky : H2 y.2 = some (.tup (waV y.1)) := g2 _ _ (ne_of_none ky0 nM) ky0
        have kH : ∀ c o, H c = some o → H2 c = some o := fun c o hc => g2 _ _ (ne_of_none (s1 _ _ hc) nM) (s1 _ _ hc)
        refine ⟨rfl, ?_⟩
        refine ⟨_, rfl, y.2, _, 1, _, rfl, rfl, SqT.of ky, rfl, ?_⟩
        refine ⟨_, rfl, _, rfl, _, rfl, _, rfl, y.2, _, 0, _, rfl, rfl, SqT.of ky, rfl, ?_⟩
        refine ⟨a, b, D, sa, S, y.1.1, rfl, ⟨dx, t, kH _ _ b1, kH _ _ b2⟩, kH _ _ hS, fun H3 p r s3 k1 k2 => ?_⟩
        refine ⟨p, _, 0, _, rfl, rfl, SqT.of k1, rfl, _, _, rfl, rfl, _, rfl, ?_⟩
        have fil : ((xs.map (·.1)).take (i + 1)).filter (fun q => decide (askL b D S q.1 < q.2)) = ((xs.map (·.1)).take i).filter (fun q => decide (askL b D S q.1 < q.2)) ++ (if askL b D S y.1.1 < y.1.2 then [y.1] else []) := by
          rw [List.take_add_one, List.getElem?_map, hy, List.filter_append]
          congr 1
          show List.filter _ [y.1] = _
          rw [List.filter_cons]
          by_cases z : askL b D S y.1.1 < y.1.2
          · rw [if_pos (decide_eq_true z), if_pos z]
            rfl
          · rw [if_neg (fun k => z (of_decide_eq_true k)), if_neg z]
            rfl
        refine ite2 (fun c2 => ?_) (fun c2 => ?_)
        · have c3 : askL b D S y.1.1 < y.1.2 := of_decide_eq_true c2
          refine ⟨_, rfl, _, s3 _ _ g1, ?_, zs ++ [y], ?_, ?_, ?_, ?_, ?_⟩
          · have : (refsW zs).length = zs.length := List.length_map ..
            have sz : sizeLine = 16777216 := sizeLine_eq
            omega
          · rw [upd_same]
            unfold refsW
            rw [List.map_append]
            rfl
          · refine KeysW.upd (l := refsW zs) (KeysW.app (g3.same s3) fun p hp => ?_) (s3 _ _ g1)
            have e : p = y := by simpa using hp
            rw [e]
            exact s3 _ _ ky
          · rw [List.map_append, g4, fil, if_pos c3]
            rfl
          · exact g2.trans ((KeepD.of s3).trans KeepD.upd)
          · rw [List.length_append]
            simp
            omega
        · have c3 : ¬ askL b D S y.1.1 < y.1.2 := fun z => c2 (decide_eq_true z)
          exact ⟨zs, s3 _ _ g1, g3.same s3, by rw [g4, fil, if_neg c3, List.append_nil], g2.trans (KeepD.of s3), by omega⟩
      · rintro H2 ⟨zs, g1, g3, g4, g2, g5⟩
        refine q H2 M zs (s1.trans (g2.same nM)) g1 g3 ?_
        rw [g4, List.take_of_length_le (by unfold refsW; rw [List.length_map, List.length_map]; exact Nat.le_refl _), e3]
def wD (q : Wa) : PyData := .tuple [.str (wayS q.1), .int q.2]
theorem way_ok (b : Bool) : PyData.strOk (wayS b) = true := by cases b <;> decide +kernel
theorem flat_wD (q : Wa) : Flat1 (wD q) := by
  refine flat_tup fun d h => ?_
  simp only [List.mem_cons, List.not_mem_nil, or_false] at h
  rcases h with rfl | rfl
  · exact ⟨by unfold PyData.canLay0; exact way_ok _, by unfold PyData.depth; rfl⟩
  · exact ⟨by unfold PyData.canLay0; rfl, by unfold PyData.depth; rfl⟩
theorem dp_wD {K : PySem.W.Frag} {H : Hp} {a : Addr} {q : Wa} (h : H a = some (.tup (waV q))) : Dp K H (.ref a) (wD q) := .tup (SqT.of h) (.cons (.str _) (.cons (.int _) .nil))
def spLacks (K : PySem.W.Frag) : Sp := fun vs H Q _ => ∃ (a : Addr) (b : Bk) (D : Int) (sa : Addr) (S : Stand), vs = [.ref a, .int D, .ref sa] ∧ BkAt K H a b ∧ 1 ≤ D ∧ D ≤ 3 ∧ StAt H sa S ∧ isForm D S ∧ ∀ H', Same H H' → Q (.bl (!(lackL b D S).isEmpty)) H'
theorem lacked_test {H H1 : Hp} {K : PySem.W.Frag} {Q : VK} {p l : Addr} {xs : List WA} {L : List Wa} (s1 : Same H H1) (e1 : H1 p = some (.lst (refsW xs))) (e2 : KeysW H1 xs) (e3 : xs.map (·.1) = L) (nl : H1 l = none) (q : ∀ H', Same H H' → Q (.bl (!L.isEmpty)) H') :
    rNeD K (.ref p) (.ref l) (upd H1 l (.lst [])) Q := by
  refine rd_ne0 (f := fun x : WA => V.ref x.2) (fun x : WA => wD x.1) (l := xs) (same_new nl _ _ e1) upd_same (fun x hx => dp_wD (same_new nl _ _ (e2 x hx))) (fun x _ => flat_wD _) ?_
  have e : xs.isEmpty = L.isEmpty := by rw [← e3]; cases xs <;> rfl
  rw [e]
  exact q _ (s1.trans (same_new nl))
theorem ok_lacks (T : Txt K mg) : OKF P w K mg base 5 "lacks" P_lacks (spLacks K) := by
  have G_need_book := ok_need_book (P := P) (w := w) (base := base) T
  have G_need_depth := ok_need_depth (P := P) (w := w) (base := base) T
  have G_need_stand := ok_need_stand (P := P) (w := w) (base := base) T
  have G_lacked := ok_lacked (P := P) (w := w) (base := base) T
  refine okf T.f_lacks sc_lacks (fun _ _ _ _ _ _ us hl => match us, hl with | [_, _, _], _ => rfl) (fun vs H Q E h => ?_) (fun cdv A outer s H vs Q E hr h => ⟨_, (pss_cons (ps_expr (pe_callK K G_need_book (hr.mono (by omega)) (by rfl) (pa_cons (pv 0) pa_nil)))
    (pss_cons (ps_expr (pe_callK K G_need_depth (hr.mono (by omega)) (by rfl) (pa_cons (pv 1) pa_nil)))
    (pss_cons (ps_expr (pe_callK K G_need_stand (hr.mono (by omega)) (by rfl) (pa_cons (pv 1) (pa_cons (pv 2) pa_nil))))
    (pss_one (ps_ret (pe_cmpR (neD K hr.units) (pe_callK K G_lacked (hr.mono (by omega)) (by rfl) (pa_cons (pv 0) (pa_cons (pv 1) (pa_cons (pv 2) pa_nil)))) (pe_lst pa_nil) (nomark _))))))), ?_⟩)
  · obtain ⟨a, b, D, sa, S, rfl, _⟩ := h
    rfl
  · obtain ⟨a, b, D, sa, S, rfl, hB, h1, h2, hS, hf, q⟩ := h
    obtain ⟨dx, t, b1, b2⟩ := id hB
    refine ⟨_, rfl, a, dx, _, rfl, b1, _, rfl, D, rfl, h1, h2, _, rfl, _, rfl, D, sa, S, rfl, hS, hf, fun H1 s1 => ?_⟩
    refine ⟨_, rfl, _, rfl, _, rfl, a, b, D, sa, S, rfl, hB.same s1, h1, h2, s1 _ _ hS, fun H2 p xs s2 e1 e2 e3 => ⟨szl, fun l nl => ?_⟩⟩
    exact lacked_test (s1.trans s2) e1 e2 e3 nl q
def farB (S : Stand) : Bool := !S.own && decide (S.common < S.level)
def spIsFar : Sp := fun vs H Q _ => ∃ (sa : Addr) (S : Stand), vs = [.ref sa] ∧ StAt H sa S ∧ Q (.bl (farB S)) H
theorem made_other (o : Bool) : decide (V.str (madeS o) = V.str "other") = !o := by cases o <;> decide +kernel
theorem ok_is_far (T : Txt K mg) : OKF P w K mg base 1 "is_far" P_is_far spIsFar := by
  refine okf T.f_is_far sc_is_far (fun _ _ _ _ _ _ us hl => match us, hl with | [_], _ => rfl) (fun vs H Q E h => ?_) (fun cdv A outer s H vs Q E hr h => ⟨_, (pss_one (ps_ret (pe_and (pe_cmpR op_eq (pe_ix (ixT K) (pv 0) pe_int (fun _ _ => rfl)) (pe_gStr (by rfl) T.cOTHER) (nomark _)) (pe_one (pe_cmpR op_gt (pe_ix (ixT K) (pv 0) pe_int (fun _ _ => rfl)) (pe_ix (ixT K) (pv 0) pe_int (fun _ _ => rfl)) (nomark _)))))), ?_⟩)
  · obtain ⟨sa, S, rfl, _⟩ := h
    rfl
  · obtain ⟨sa, S, rfl, hS, q⟩ := h
    refine ⟨_, rfl, sa, _, 2, _, rfl, rfl, SqT.of hS, rfl, rfl, ?_⟩
    rw [made_other]
    unfold farB at q
    refine ⟨_, rfl, ?_⟩
    cases ho : S.own with
    | true =>
      rw [ho] at q
      exact iteF q
    | false =>
      rw [ho] at q
      exact iteT ⟨_, rfl, sa, _, 1, _, rfl, rfl, SqT.of hS, rfl, _, rfl, sa, _, 3, _, rfl, rfl, SqT.of hS, rfl, _, _, rfl, rfl, q⟩
/-- wrong for strayed, for ended -/
def strB (S : Stand) : Bool := decide (S.life ≠ -1) && (decide (S.level ≠ S.life) || farB S)
def endB (b : Bk) (S : Stand) : Bool := farB S && (S.past && (decide (S.life ≠ -1) || decide (b.ends = "scope")))
def spIsBad (K : PySem.W.Frag) : Sp := fun vs H Q _ => ∃ (a : Addr) (b : Bk) (D : Int) (f : Str) (sa : Addr) (S : Stand), vs = [.ref a, .int D, .str f, .ref sa] ∧ BkAt K H a b ∧ StAt H sa S ∧ ((f = "strayed" ∧ ∀ H', Same H H' → Q (.bl (strB S)) H') ∨ (f = "ended" ∧ ∀ H', Same H H' → Q (.bl (endB b S)) H'))
theorem neint {a b : Int} : (!decide (V.int a = V.int b)) = decide (a ≠ b) := by
  rw [decint]
  by_cases h : a = b <;> simp [h]
theorem ok_is_bad (T : Txt K mg) : OKF P w K mg base 5 "is_bad" P_is_bad (spIsBad K) := by
  have G_is_far := ok_is_far (P := P) (w := w) (base := base) T
  have G_lacked := ok_lacked (P := P) (w := w) (base := base) T
  have G_bk_ends := bk_ends (P := P) (w := w) (base := base) T
  refine okf T.f_is_bad sc_is_bad (fun _ _ _ _ _ _ us hl => match us, hl with | [_, _, _, _], _ => rfl) (fun vs H Q E h => ?_) (fun cdv A outer s H vs Q E hr h => ⟨_, (pss_cons (ps_asg (pv 3) (pg_tup rfl (pgs_cons (pg_name (i := 4) sc_is_bad.nd rfl (Or.inl rfl)) (pgs_cons (pg_name (i := 5) sc_is_bad.nd rfl (Or.inl rfl)) (pgs_cons (pg_name (i := 6) sc_is_bad.nd rfl (Or.inl rfl)) (pgs_cons (pg_name (i := 7) sc_is_bad.nd rfl (Or.inl rfl)) (pgs_cons (pg_name (i := 8) sc_is_bad.nd rfl (Or.inl rfl)) (pgs_cons (pg_name (i := 9) sc_is_bad.nd rfl (Or.inl rfl)) pgs_nil))))))))
    (pss_cons (ps_if (pt_cmpR op_eq (pv 2) pe_str (nomark _)) (pss_one (ps_ret (pe_and (pe_callK K G_is_far (hr.mono (by omega)) (by rfl) (pa_cons (pv 3) pa_nil)) (pe_and (pv 8) (pe_one (pe_or (pe_cmpR op_ne (pv 4) (pe_gInt (by rfl) T.cUSE) (nomark _)) (pe_one (pe_cmpR op_eq (pe_bkK K G_bk_ends (hr.mono (by omega)) (pv 0)) pe_str (nomark _))))))))) pss_nil)
    (pss_cons (ps_if (pt_cmpR op_eq (pv 2) pe_str (nomark _)) (pss_one (ps_ret (pe_and (pe_cmpR op_ne (pv 4) (pe_gInt (by rfl) T.cUSE) (nomark _)) (pe_one (pe_or (pe_cmpR op_ne (pv 5) (pv 4) (nomark _)) (pe_one (pe_callK K G_is_far (hr.mono (by omega)) (by rfl) (pa_cons (pv 3) pa_nil)))))))) pss_nil)
    (pss_cons (ps_if (pt_cmpR op_eq (pv 2) pe_str (nomark _)) (pss_one (ps_ret (pe_cmpR (neD K hr.units) (pe_callK K G_lacked (hr.mono (by omega)) (by rfl) (pa_cons (pv 0) (pa_cons (pv 1) (pa_cons (pv 3) pa_nil)))) (pe_lst pa_nil) (nomark _)))) pss_nil)
    (pss_one (ps_ret (pe_and (pe_cmpR op_eq (pv 4) (pe_gInt (by rfl) T.cUSE) (nomark _)) (pe_and (pe_not (pv 9)) (pe_one (pe_or (pe_cmpR op_eq (pe_bkK K G_bk_ends (hr.mono (by omega)) (pv 0)) pe_str (nomark _)) (pe_one (pe_and (pe_cmpR op_eq (pe_bkK K G_bk_ends (hr.mono (by omega)) (pv 0)) pe_str (nomark _)) (pe_one (pe_cmpR op_eq (pv 5) pe_int (nomark _))))))))))))))), ?_⟩)
  · obtain ⟨a, b, D, f, sa, S, rfl, _⟩ := h
    rfl
  · obtain ⟨a, b, D, f, sa, S, rfl, hB, hS, q⟩ := h
    obtain ⟨dx, t, b1, b2⟩ := id hB
    refine ⟨_, rfl, sa, _, rfl, SqT.of hS, rfl, ?_⟩
    refine ⟨_, _, rfl, _, _, rfl, _, _, rfl, _, _, rfl, _, _, rfl, _, _, rfl, rfl, ?_⟩
    refine ⟨_, rfl, rfl, _, rfl, ?_⟩
    rcases q with ⟨rfl, q⟩ | ⟨rfl, q⟩
    · have e : decide (V.str "strayed" = V.str "ended") = false := by decide +kernel
      rw [e]
      refine iteF ?_
      refine ⟨_, rfl, rfl, _, rfl, ?_⟩
      have e2 : decide (V.str "strayed" = V.str "strayed") = true := by decide +kernel
      rw [e2]
      refine iteT ?_
      refine ⟨_, rfl, rfl, _, rfl, ?_⟩
      rw [neint]
      unfold strB at q
      by_cases c : S.life ≠ -1
      · rw [decide_eq_true c] at q ⊢
        refine iteT ⟨_, rfl, _, rfl, rfl, _, rfl, ?_⟩
        rw [neint]
        by_cases c2 : S.level ≠ S.life
        · rw [decide_eq_true c2] at q ⊢
          exact iteT (q _ (Same.refl _))
        · rw [decide_eq_false c2] at q ⊢
          exact iteF ⟨_, rfl, sa, S, rfl, hS, q _ (Same.refl _)⟩
      · rw [decide_eq_false c] at q ⊢
        exact iteF (q _ (Same.refl _))
    · have e : decide (V.str "ended" = V.str "ended") = true := by decide +kernel
      rw [e]
      refine iteT ?_
      refine ⟨_, rfl, sa, S, rfl, hS, _, rfl, ?_⟩
      unfold endB at q
      cases hf : farB S with
      | false =>
        rw [hf] at q
        exact iteF (q _ (Same.refl _))
      | true =>
        rw [hf] at q
        refine iteT ⟨_, rfl, _, rfl, ?_⟩
        cases hp : S.past with
        | false =>
          rw [hp] at q
          exact iteF (q _ (Same.refl _))
        | true =>
          rw [hp] at q
          refine iteT ⟨_, rfl, rfl, _, rfl, ?_⟩
          rw [neint]
          by_cases c : S.life ≠ -1
          · rw [decide_eq_true c] at q ⊢
            exact iteT (q _ (Same.refl _))
          · rw [decide_eq_false c] at q ⊢
            refine iteF (rdBk rfl b1 (bf_ends ..) ⟨rfl, ?_⟩)
            rw [decstr]
            exact q _ (Same.refl _)
def spIsWrong (K : PySem.W.Frag) : Sp := fun vs H Q _ => ∃ (a : Addr) (b : Bk) (D : Int) (f : Str) (sa : Addr) (S : Stand), vs = [.ref a, .int D, .str f, .ref sa] ∧ BkAt K H a b ∧ 1 ≤ D ∧ D ≤ 3 ∧ StAt H sa S ∧ isForm D S ∧
  ((f = "strayed" ∧ ∀ H', Same H H' → Q (.bl (strB S)) H') ∨ (f = "ended" ∧ ∀ H', Same H H' → Q (.bl (endB b S)) H'))
theorem ok_is_wrong (T : Txt K mg) : OKF P w K mg base 6 "is_wrong" P_is_wrong (spIsWrong K) := by
  have G_need_book := ok_need_book (P := P) (w := w) (base := base) T
  have G_need_depth := ok_need_depth (P := P) (w := w) (base := base) T
  have G_need_fault := ok_need_fault (P := P) (w := w) (base := base) T
  have G_need_stand := ok_need_stand (P := P) (w := w) (base := base) T
  have G_is_bad := ok_is_bad (P := P) (w := w) (base := base) T
  refine okf T.f_is_wrong sc_is_wrong (fun _ _ _ _ _ _ us hl => match us, hl with | [_, _, _, _], _ => rfl) (fun vs H Q E h => ?_) (fun cdv A outer s H vs Q E hr h => ⟨_, (pss_cons (ps_expr (pe_callK K G_need_book (hr.mono (by omega)) (by rfl) (pa_cons (pv 0) pa_nil)))
    (pss_cons (ps_expr (pe_callK K G_need_depth (hr.mono (by omega)) (by rfl) (pa_cons (pv 1) pa_nil)))
    (pss_cons (ps_expr (pe_callK K G_need_fault (hr.mono (by omega)) (by rfl) (pa_cons (pv 2) pa_nil)))
    (pss_cons (ps_expr (pe_callK K G_need_stand (hr.mono (by omega)) (by rfl) (pa_cons (pv 1) (pa_cons (pv 3) pa_nil))))
    (pss_one (ps_ret (pe_callK K G_is_bad (hr.mono (by omega)) (by rfl) (pa_cons (pv 0) (pa_cons (pv 1) (pa_cons (pv 2) (pa_cons (pv 3) pa_nil))))))))))), ?_⟩)
  · obtain ⟨a, b, D, f, sa, S, rfl, _⟩ := h
    rfl
  · obtain ⟨a, b, D, f, sa, S, rfl, hB, h1, h2, hS, hf, q⟩ := h
    obtain ⟨dx, t, b1, b2⟩ := id hB
    have hfm : f ∈ (["ended", "left", "missing", "strayed"] : List Str) := by
      rcases q with ⟨rfl, _⟩ | ⟨rfl, _⟩ <;> simp
    refine ⟨_, rfl, a, dx, _, rfl, b1, _, rfl, D, rfl, h1, h2, _, rfl, f, rfl, hfm, _, rfl, _, rfl, D, sa, S, rfl, hS, hf, fun H1 s1 => ?_⟩
    refine ⟨_, rfl, _, rfl, _, rfl, _, rfl, a, b, D, f, sa, S, rfl, hB.same s1, s1 _ _ hS, ?_⟩
    rcases q with ⟨e, q⟩ | ⟨e, q⟩
    · exact .inl ⟨e, fun H2 s2 => q H2 (s1.trans s2)⟩
    · exact .inr ⟨e, fun H2 s2 => q H2 (s1.trans s2)⟩
end
end HL

set_option Elab.async false
set_option linter.all false
set_option maxRecDepth 100000
set_option maxHeartbeats 4000000
/-! W2: the scopes' mathematics; reading defs: up, spot, is_use, there -/
namespace HL
open PySem PySem.Spec PyProof.Rows L2
def lv (W : WS) (s : Nat) : Nat := match W.scs[s]? with
  | some x => x.lev
  | none => 0
def pr (W : WS) (s : Nat) : Nat := match W.scs[s]? with
  | some x => x.und.getD 0
  | none => 0
def upN (W : WS) : Nat → Nat → Nat
  | 0, s => s
  | m + 1, s => upN W m (pr W s)
/-- the ancestor of level k -/
def up (W : WS) (s k : Nat) : Nat := upN W (lv W s - k) s
structure SInv (W : WS) : Prop where
  pos : 0 < W.scs.length
  zero : ∀ x, W.scs[0]? = some x → x.lev = 0 ∧ x.und = none
  und : ∀ s x, 0 < s → W.scs[s]? = some x → ∃ u y, x.und = some u ∧ u < s ∧ W.scs[u]? = some y ∧ x.lev = y.lev + 1 ∧ x.lev ≤ W.c.D
section
variable {W : WS}
theorem lv_of {s : Nat} {x : Scp} (h : W.scs[s]? = some x) : lv W s = x.lev := by unfold lv; rw [h]
theorem scp_of {s : Nat} (h : s < W.scs.length) : ∃ x, W.scs[s]? = some x := ⟨_, List.getElem?_eq_getElem h⟩
theorem SInv.lv0 (I : SInv W) : lv W 0 = 0 := by
  obtain ⟨x, hx⟩ := scp_of I.pos
  rw [lv_of hx]
  exact (I.zero x hx).1
theorem SInv.step (I : SInv W) {s : Nat} (h : s < W.scs.length) (h0 : 0 < lv W s) : ∃ x, W.scs[s]? = some x ∧ x.und = some (pr W s) ∧ pr W s < s ∧ lv W s = lv W (pr W s) + 1 ∧ 0 < s := by
  obtain ⟨x, hx⟩ := scp_of h
  have hs : 0 < s := by
    rcases Nat.eq_zero_or_pos s with e | e
    · rw [e, I.lv0] at h0
      omega
    · exact e
  obtain ⟨u, y, e1, e2, e3, e4, _⟩ := I.und s x hs hx
  have ep : pr W s = u := by
    unfold pr
    rw [hx]
    show x.und.getD 0 = u
    rw [e1]
    rfl
  refine ⟨x, hx, by rw [ep]; exact e1, by rw [ep]; exact e2, ?_, hs⟩
  rw [ep, lv_of hx, lv_of e3]
  exact e4
theorem SInv.le (I : SInv W) {s : Nat} (h : s < W.scs.length) : lv W s ≤ W.c.D := by
  obtain ⟨x, hx⟩ := scp_of h
  rcases Nat.eq_zero_or_pos s with e | e
  · subst e
    rw [I.lv0]
    exact Nat.zero_le _
  · obtain ⟨u, y, _, _, _, _, e5⟩ := I.und s x e hx
    rw [lv_of hx]
    exact e5
theorem SInv.pos_of (I : SInv W) {s : Nat} (h : s < W.scs.length) (h0 : s ≠ 0) : 0 < lv W s := by
  obtain ⟨x, hx⟩ := scp_of h
  obtain ⟨u, y, _, _, _, e4, _⟩ := I.und s x (by omega) hx
  rw [lv_of hx]
  omega
theorem up_self {s : Nat} : up W s (lv W s) = s := by
  unfold up
  rw [Nat.sub_self]
  rfl
theorem up_ge {s k : Nat} (h : lv W s ≤ k) : up W s k = s := by
  unfold up
  rw [Nat.sub_eq_zero_of_le h]
  rfl
theorem SInv.up_step (I : SInv W) {s k : Nat} (h : s < W.scs.length) (hk : k < lv W s) : up W s k = up W (pr W s) k := by
  obtain ⟨x, hx, e1, e2, e3, _⟩ := I.step h (by omega)
  unfold up
  have e : lv W s - k = (lv W (pr W s) - k) + 1 := by omega
  rw [e]
  rfl
theorem SInv.up_ok (I : SInv W) : ∀ (m s k : Nat), lv W s = k + m → s < W.scs.length → up W s k < W.scs.length ∧ lv W (up W s k) = k ∧ up W s k ≤ s
  | 0, s, k, e, h => by
    rw [up_ge (by omega)]
    exact ⟨h, by omega, Nat.le_refl _⟩
  | m + 1, s, k, e, h => by
    obtain ⟨x, hx, e1, e2, e3, _⟩ := I.step h (by omega)
    rw [I.up_step h (by omega)]
    obtain ⟨a, b, c⟩ := I.up_ok m (pr W s) k (by omega) (by omega)
    exact ⟨a, b, by omega⟩
theorem SInv.up_lt (I : SInv W) {s k : Nat} (h : s < W.scs.length) : up W s k < W.scs.length := by
  rcases Nat.lt_or_ge k (lv W s) with q | q
  · exact (I.up_ok (lv W s - k) s k (by omega) h).1
  · rw [up_ge q]
    exact h
theorem SInv.up_lv (I : SInv W) {s k : Nat} (h : s < W.scs.length) (hk : k ≤ lv W s) : lv W (up W s k) = k := (I.up_ok (lv W s - k) s k (by omega) h).2.1
/-- an ancestor's ancestor -/
theorem SInv.up_up (I : SInv W) : ∀ (m s j k : Nat), lv W s = j + m → s < W.scs.length → k ≤ j → up W (up W s j) k = up W s k
  | 0, s, j, k, e, h, hk => by rw [up_ge (k := j) (by omega)]
  | m + 1, s, j, k, e, h, hk => by
    obtain ⟨x, hx, e1, e2, e3, _⟩ := I.step h (by omega)
    rw [I.up_step (k := j) h (by omega), I.up_step (k := k) h (by omega)]
    exact I.up_up m (pr W s) j k (by omega) (by omega) hk
theorem SInv.upup (I : SInv W) {s j k : Nat} (h : s < W.scs.length) (hj : j ≤ lv W s) (hk : k ≤ j) : up W (up W s j) k = up W s k := I.up_up (lv W s - j) s j k (by omega) h hk
theorem SInv.lv_zero (I : SInv W) {s : Nat} (h : s < W.scs.length) (e : lv W s = 0) : s = 0 := by
  rcases Nat.eq_zero_or_pos s with q | q
  · exact q
  · have := I.pos_of h (by omega)
    omega
theorem SInv.up0 (I : SInv W) {s : Nat} (h : s < W.scs.length) : up W s 0 = 0 := I.lv_zero (I.up_lt h) (I.up_lv h (Nat.zero_le _))
end
theorem natV_dec {i j : Nat} : decide (natV i = natV j) = decide (i = j) := by
  refine decide_eq_decide.mpr ⟨fun e => ?_, fun e => by rw [e]⟩
  have := V.int.inj e
  omega
/-- scopes[k] -/
theorem dscope {H : Hp} {W : WS} {k : Nat} {s : Scp} (h : WAt H W) (e : W.scs[k]? = some s) : DGet H W.c.sc (natV k) (some (.ref s.ad)) := dget_of (k := .inl (k : Int)) h.hsc (sc_at e)
theorem tscope {K : PySem.W.Frag} {H : Hp} {W : WS} {k : Nat} {s : Scp} (h : WAt H W) (e : W.scs[k]? = some s) : SqT K H s.ad [natV s.lev, optV s.und] := SqT.of (h.st _ _ (.scp s (List.mem_of_getElem? e)))
section
variable {P : Program} {w : World} {K : PySem.W.Frag} {mg : Str → Option Value} {base : Heap}
def spUp : Sp := fun vs H Q _ => ∃ (W : WS) (s k : Nat), vs = [.ref W.c.w, natV s, natV k] ∧ WAt H W ∧ SInv W ∧ s < W.scs.length ∧ Q (natV (up W s k)) H
theorem ok_up (T : Txt K mg) : OKF P w K mg base 1 "_law_up" P_law_up spUp := by
  refine okf T.f_law_up sc_law_up (fun _ _ _ _ _ _ us hl => match us, hl with | [_, _, _], _ => rfl) (fun vs H Q E h => ?_) (fun cdv A outer s H vs Q E hr h => ⟨_, (pss_cons (ps_set (i := 3) sc_law_up.nd rfl (Or.inl rfl) (pv 1))
    (pss_cons (ps_while PassesOwn.never (pt_cmpR op_gt (pe_ix ix_tup (pe_dget (hu_of hr) (pe_dget (hu_of hr) (pv 0) pe_str (fun _ _ => rfl)) (pv 3) (fun _ _ => rfl)) pe_int (fun _ _ => rfl)) (pv 2) (nomark _)) (pss_one (ps_set (i := 3) sc_law_up.nd rfl (Or.inl rfl) (pe_ix ix_tup (pe_dget (hu_of hr) (pe_dget (hu_of hr) (pv 0) pe_str (fun _ _ => rfl)) (pv 3) (fun _ _ => rfl)) pe_int (fun _ _ => rfl)))))
    (pss_one (ps_ret (pv 3))))), ?_⟩)
  · obtain ⟨W, s, k, rfl, _⟩ := h
    rfl
  · obtain ⟨W, s, k, rfl, hW, I, hs, q⟩ := h
    refine ⟨_, rfl, ?_⟩
    refine ⟨fun m σ H' => H' = H ∧ ∃ f, σ = [some (.ref W.c.w), some (natV s), some (natV k), some (natV f)] ∧ f < W.scs.length ∧ up W s k = up W f k ∧ m = lv W f, ⟨_, rfl, s, rfl, hs, rfl, rfl⟩, ?_⟩
    · rintro m σ H' ⟨rfl, f, rfl, hf, e, rfl⟩
      obtain ⟨x, hx⟩ := scp_of hf
      refine rdW rfl hW (wk_scopes W) ⟨_, rfl, _, _, rfl, dscope hW hx, ?_⟩
      refine ⟨_, _, 0, _, rfl, rfl, tscope hW hx, rfl, ?_⟩
      refine ⟨_, rfl, _, _, rfl, rfl, _, rfl, ?_⟩
      refine ite2 (fun c => ?_) (fun c => ?_)
      · have c1 : k < lv W f := by
          have c2 : ((k : Nat) : Int) < ((x.lev : Nat) : Int) := of_decide_eq_true c
          rw [lv_of hx]
          omega
        obtain ⟨x', hx', e1, e2, e3, _⟩ := I.step hf (by omega)
        have ex : x' = x := by
          rw [hx] at hx'
          exact (Option.some.inj hx').symm
        subst ex
        refine ⟨_, fun _ _ z => z, ?_⟩
        refine rdW rfl hW (wk_scopes W) ⟨_, rfl, _, _, rfl, dscope hW hx, ?_⟩
        refine ⟨_, _, 1, _, rfl, rfl, tscope hW hx, rfl, ?_⟩
        rw [e1]
        exact ⟨lv W (pr W f), by omega, rfl, pr W f, rfl, by omega, by rw [e, I.up_step hf c1], rfl⟩
      · have c1 : lv W f ≤ k := by
          have c2 : ¬ ((k : Nat) : Int) < ((x.lev : Nat) : Int) := fun z => c (decide_eq_true z)
          rw [lv_of hx]
          omega
        refine ⟨_, rfl, ?_⟩
        rw [e, up_ge c1] at q
        exact q
end
end HL

set_option Elab.async false
set_option linter.all false
set_option maxRecDepth 100000
set_option maxHeartbeats 4000000
/-! L1: the draws -/
namespace HL
open PySem PySem.Spec PyProof.Rows L2
/-- where a draw's state lies -/
structure Dr where
  d : Addr
  w : Addr
  c : Addr
def drkv (e : Dr) (r t : Int) : List (Key × V) := [(.inr "wide", .ref e.w), (.inr "cells", .ref e.c), (.inr "rest", .int r), (.inr "turn", .int t)]
theorem dr_wide (e : Dr) (r t : Int) : valV (drkv e r t) (.inr "wide") = some (.ref e.w) := by kernel_rfl
theorem dr_cells (e : Dr) (r t : Int) : valV (drkv e r t) (.inr "cells") = some (.ref e.c) := by kernel_rfl
theorem dr_rest (e : Dr) (r t : Int) : valV (drkv e r t) (.inr "rest") = some (.int r) := by kernel_rfl
theorem dr_turn (e : Dr) (r t : Int) : valV (drkv e r t) (.inr "turn") = some (.int t) := by kernel_rfl
theorem drput_rest (e : Dr) (r t z : Int) : putK (drkv e r t) (.inr "rest") (.int z) = drkv e z t := by kernel_rfl
theorem drput_turn (e : Dr) (r t z : Int) : putK (drkv e r t) (.inr "turn") (.int z) = drkv e r z := by kernel_rfl
/-- a draw's state, its turn at most T -/
structure DrAt (H : Hp) (e : Dr) (T : Nat) : Prop where
  ex : ∃ (r t : Int) (ws : List Int), H e.d = some (.dK (drkv e r t)) ∧ H e.w = some (.lst (ws.map V.int)) ∧ 0 ≤ t ∧ t ≤ T ∧ ws.length ≤ 63
  cs : ∃ cs : List Int, H e.c = some (.lst (cs.map V.int))
  ne : e.w ≠ e.c
/-- all but the draw's own is kept -/
def DKeep (e : Dr) (H H' : Hp) : Prop := ∀ b o, b ≠ e.d → b ≠ e.w → H b = some o → H' b = some o
theorem DKeep.refl {e : Dr} {H : Hp} : DKeep e H H := fun _ _ _ _ h => h
theorem DKeep.trans {e : Dr} {H H1 H2 : Hp} (a : DKeep e H H1) (b : DKeep e H1 H2) : DKeep e H H2 := fun c o h1 h2 h => b c o h1 h2 (a c o h1 h2 h)
theorem DKeep.of {e : Dr} {H H' : Hp} (s : Same H H') : DKeep e H H' := fun b o _ _ h => s b o h
theorem DrAt.same {e : Dr} {H H' : Hp} {T : Nat} (h : DrAt H e T) (s : Same H H') : DrAt H' e T := by
  obtain ⟨⟨r, t, ws, h1, h2, h3⟩, ⟨cs, h4⟩, h5⟩ := h
  exact ⟨⟨r, t, ws, s _ _ h1, s _ _ h2, h3⟩, ⟨cs, s _ _ h4⟩, h5⟩
theorem DrAt.mono {e : Dr} {H : Hp} {T T' : Nat} (h : DrAt H e T) (l : T ≤ T') : DrAt H e T' := by
  obtain ⟨⟨r, t, ws, h1, h2, h3, h4, h6⟩, h7, h5⟩ := h
  exact ⟨⟨r, t, ws, h1, h2, h3, by omega, h6⟩, h7, h5⟩
theorem DrAt.nd {e : Dr} {H : Hp} {T : Nat} (h : DrAt H e T) {b : Addr} (hb : H b = none) : b ≠ e.d ∧ b ≠ e.w := by
  obtain ⟨⟨r, t, ws, h1, h2, _⟩, _, _⟩ := h
  exact ⟨(fun z => by rw [z, h1] at hb; cases hb), (fun z => by rw [z, h2] at hb; cases hb)⟩
/-- the dict's numbers are changed -/
theorem DrAt.put {e : Dr} {H : Hp} {T T' : Nat} (h : DrAt H e T) {r t : Int} (h0 : 0 ≤ t) (h1 : t ≤ T') : DrAt (upd H e.d (.dK (drkv e r t))) e T' ∧ DKeep e H (upd H e.d (.dK (drkv e r t))) := by
  obtain ⟨⟨r0, t0, ws, k1, k2, k3, k4, k5⟩, ⟨cs, k6⟩, k7⟩ := h
  have n1 : e.w ≠ e.d := ne_of k2 k1 (fun z => nomatch z)
  have n2 : e.c ≠ e.d := ne_of k6 k1 (fun z => nomatch z)
  refine ⟨⟨⟨r, t, ws, upd_same, by rw [upd_ne n1]; exact k2, h0, h1, k5⟩, ⟨cs, by rw [upd_ne n2]; exact k6⟩, k7⟩, fun b o hb _ hq => ?_⟩
  rw [upd_ne hb]
  exact hq
theorem fmod_bd {a b : Int} (h : 0 < b) : 0 ≤ a.fmod b ∧ a.fmod b < b := by
  rw [Int.fmod_eq_emod_of_nonneg _ (by omega)]
  exact ⟨Int.emod_nonneg _ (by omega), Int.emod_lt_of_pos _ h⟩
section
variable {P : Program} {w : World} {K : PySem.W.Frag} {mg : Str → Option Value} {base : Heap}
def spMixed : Sp := fun vs H Q _ => ∃ (e : Dr) (T : Nat), vs = [.ref e.d] ∧ DrAt H e T ∧ T ≤ 1000000 ∧ ∀ H' (z : Int), DrAt H' e (T + 1) → DKeep e H H' → Q (.int z) H'
theorem ok_law_mixed (T : Txt K mg) : OKF P w K mg base 1 "_law_mixed" P_law_mixed spMixed := by
  refine okf T.f_law_mixed sc_law_mixed (fun _ _ _ _ _ _ us hl => match us, hl with | [_], _ => rfl) (fun vs H Q E h => ?_) (fun cdv A outer s H vs Q E hr h => ⟨_, (pss_cons (ps_par (i := 1) (j := 2) (by rfl) sc_law_mixed.nd rfl rfl (by decide) rfl rfl (pa_cons (pe_op op_add (pe_dget (hu_of hr) (pv 0) pe_str (fun _ _ => rfl)) pe_int) (pa_cons pe_int pa_nil)) (by rfl))
    (pss_cons (ps_dput (hu_of hr) (pv 0) pe_str (pv 1) rfl)
    (pss_cons (ps_for PassesOwn.never rfl (pi_list (pe_lst (pa_cons pe_int (pa_cons pe_int (pa_cons pe_int (pa_cons pe_int pa_nil)))))) (pg_name (i := 3) sc_law_mixed.nd rfl (Or.inl rfl)) (pss_cons (ps_set (i := 4) sc_law_mixed.nd rfl (Or.inl rfl) (pe_op op_add (pe_op op_mul pe_int (pv 1)) (pe_op op_fdivN (pv 3) pe_int)))
    (pss_cons (ps_for PassesOwn.never rfl (pi_list (pe_dget (hu_of hr) (pv 0) pe_str (fun _ _ => rfl))) (pg_name (i := 5) sc_law_mixed.nd rfl (Or.inl rfl)) (pss_one (ps_set (i := 4) sc_law_mixed.nd rfl (Or.inl rfl) (pe_op op_modN (pe_callTy call_int1 (by rfl) T.b_int (by decide +kernel) (pa_cons (pe_op op_add (pe_op op_add (pe_op op_mul (pv 4) pe_int) (pv 5)) (pv 1)) pa_nil)) (pv 3)))))
    (pss_one (ps_set (i := 2) sc_law_mixed.nd rfl (Or.inl rfl) (pe_op op_add (pe_op op_mul (pv 2) pe_int) (pe_op op_modN (pe_callTy call_int1 (by rfl) T.b_int (by decide +kernel) (pa_cons (pe_op op_pow (pv 4) pe_int) pa_nil)) (pv 3))))))))
    (pss_one (ps_ret (pv 2)))))), ?_⟩)
  · obtain ⟨e, M, rfl, _⟩ := h
    rfl
  · obtain ⟨e, M, rfl, hD, hM, q⟩ := h
    obtain ⟨⟨r, t, ws, k1, k2, k3, k4, k5⟩, ⟨cs, k6⟩, k7⟩ := id hD
    refine ⟨_, rfl, _, _, rfl, dget_of (k := .inr "turn") k1 (dr_turn ..), _, _, rfl, rfl, _, _, rfl, ?_⟩
    refine ⟨_, rfl, _, rfl, e.d, _, rfl, DPut.k (k := .inr "turn") k1 (by show 4 < sizeLine; decide), ?_⟩
    rw [drput_turn]
    obtain ⟨D1, K1⟩ := hD.put (T' := M + 1) (r := r) (t := t + 1) (by omega) (by omega)
    refine ⟨szl, fun l nl => ⟨l, rfl, ⟨_, SqL.of upd_same⟩, ?_⟩⟩
    have s2 := same_new (o := .lst [V.int 2147483629, .int 2147483587, .int 2147483579, .int 2147483563]) nl
    generalize hH2 : upd (upd H e.d (.dK (drkv e r (t + 1)))) l (.lst [V.int 2147483629, .int 2147483587, .int 2147483579, .int 2147483563]) = H2 at s2
    have D2 : DrAt H2 e (M + 1) := D1.same s2
    have hl2 : H2 l = some (.lst ([2147483629, 2147483587, 2147483579, 2147483563].map V.int)) := by rw [← hH2]; exact upd_same
    refine for_list (K := K) (a := l) (xs := [2147483629, 2147483587, 2147483579, 2147483563].map V.int) (fun i σ H' => H' = H2 ∧ ∃ (f : Int) (x3 x4 x5 : Option V), σ = [some (.ref e.d), some (.int (t + 1)), some (.int f), x3, x4, x5])
      ⟨rfl, 0, none, none, none, rfl⟩ (fun i σ H' _ p => by rw [p.1]; exact SqL.of hl2) ?_ ?_
    · rintro i x σ H' hx ⟨rfl, f, x3, x4, x5, rfl⟩
      obtain ⟨p, rfl, hp1, hp2⟩ : ∃ p : Int, x = .int p ∧ 2000000000 < p ∧ p < 2147483648 := by
        have z := List.mem_of_getElem? hx
        simp only [List.map_cons, List.map_nil, List.mem_cons, List.not_mem_nil, or_false] at z
        rcases z with z | z | z | z <;> exact ⟨_, z, by decide, by decide⟩
      obtain ⟨⟨r', t', ws', j1, j2, j3, j4, j5⟩, ⟨cs', j6⟩, j7⟩ := id D2
      refine ⟨_, rfl, _, _, rfl, rfl, .inl ⟨by decide, by decide⟩, _, rfl, _, _, rfl, rfl, ⟨by decide, by decide⟩, _, _, rfl, rfl, ?_⟩
      refine ⟨_, rfl, _, _, rfl, dget_of (k := .inr "cells") j1 (dr_cells ..), _, rfl, ⟨_, SqL.of j6⟩, ?_⟩
      refine for_list (K := K) (a := e.c) (xs := cs'.map V.int) (fun i σ H3 => H3 = H' ∧ ∃ (b : Int) (x5 : Option V), b.natAbs < 2 ^ 64 ∧ σ = [some (.ref e.d), some (.int (t + 1)), some (.int f), some (.int p), some (.int b), x5])
        ⟨rfl, _, _, ?_, rfl⟩ (fun i σ H3 _ p => by rw [p.1]; exact SqL.of j6) ?_ ?_
      · have z := Int.fdiv_eq_ediv_of_nonneg p (b := 19) (by decide)
        have z2 : 0 ≤ p / 19 := Int.ediv_nonneg (by omega) (by decide)
        have z3 : p / 19 ≤ p := Int.ediv_le_self _ (by omega)
        rw [z]
        omega
      · rintro j y σ H3 hy ⟨rfl, b, x5, hb, rfl⟩
        obtain ⟨c, rfl⟩ : ∃ c : Int, y = .int c := by
          rw [List.getElem?_map] at hy
          cases hq : cs'[j]? with
          | none => rw [hq] at hy; cases hy
          | some c => rw [hq] at hy; exact ⟨c, (Option.some.inj hy).symm⟩
        refine ⟨_, rfl, _, _, rfl, rfl, .inr ⟨by decide, by decide⟩, _, rfl, _, _, rfl, rfl, _, rfl, _, _, rfl, rfl, .inl ⟨_, rfl, ?_⟩⟩
        refine ⟨_, rfl, _, _, rfl, rfl, by omega, rfl, _, _, ?_, rfl⟩
        obtain ⟨z1, z2⟩ := fmod_bd (a := b * 48271 + c + (t + 1)) (b := p) (by omega)
        omega
      · rintro σ H3 ⟨rfl, b, x5, hb, rfl⟩
        refine ⟨_, rfl, _, _, rfl, rfl, .inr ⟨by decide, by decide⟩, _, rfl, _, _, rfl, rfl, ⟨by decide, by decide, hb⟩, .inl ⟨_, rfl, ?_⟩⟩
        refine ⟨_, rfl, _, _, rfl, rfl, by omega, _, _, rfl, rfl, ?_⟩
        exact ⟨rfl, _, _, _, _, rfl⟩
    · rintro σ H' ⟨rfl, f, x3, x4, x5, rfl⟩
      exact ⟨_, rfl, q _ f D2 (K1.trans (.of s2))⟩
end
end HL

set_option Elab.async false
set_option linter.all false
set_option maxRecDepth 100000
set_option maxHeartbeats 4000000
/-! W3: the changes of a world -/
namespace HL
open PySem PySem.Spec PyProof.Rows L2
section
variable {H0 H : Hp} {W W' : WS}
theorem WAt.mutG (h : WAt H W) {a : Addr} {o o' : HO} {M1 M2 N : List (Addr × HO)} (e : cells W = M1 ++ (a, o) :: M2) (e' : cells W' = (M1 ++ (a, o') :: M2) ++ N)
    (hN : ∀ p ∈ N, H p.1 = some p.2 ∧ (∃ kvs, p.2 = .dK kvs) ∧ p.1 ∉ muts W ∧ ∀ b u, Stt W b u → b ≠ p.1) (hn : (N.map (·.1)).Nodup)
    (hs : ∀ b u, Stt W' b u → Stt W b u ∨ ∃ xs, u = .tup xs ∧ H b = some u) : WAt (upd H a o') W' := by
  have em : muts W' = muts W ++ N.map (·.1) := by
    unfold muts
    rw [e, e']
    simp
  have ha : a ∈ muts W := mut_mem e
  have nd := h.nd
  have hnd : ∀ p ∈ M1 ++ M2, p.1 ≠ a := by
    intro p hp q
    unfold muts at nd
    rw [e, List.map_append, List.map_cons, List.nodup_append] at nd
    obtain ⟨n1, n2, n3⟩ := nd
    rw [List.nodup_cons] at n2
    rcases List.mem_append.mp hp with z | z
    · exact n3 p.1 (List.mem_map.mpr ⟨p, z, rfl⟩) a (List.mem_cons_self ..) q
    · exact n2.1 (List.mem_map.mpr ⟨p, z, q⟩)
  have hb : ∀ b u, Stt W' b u → H b = some u ∧ b ∉ muts W ∧ ∀ p ∈ N, b ≠ p.1 := fun b u q => by
    rcases hs b u q with z | ⟨xs, rfl, z⟩
    · exact ⟨h.st b u z, h.sep b u z, fun p hp => (hN p hp).2.2.2 b u z⟩
    · refine ⟨z, h.ntup z, fun p hp y => ?_⟩
      obtain ⟨h1, ⟨kvs, h2⟩, _⟩ := hN p hp
      rw [← y, z, h2] at h1
      cases h1
  refine ⟨fun p hp => ?_, ?_, fun b u q => ?_, fun b u q => ?_⟩
  · rw [e'] at hp
    rcases List.mem_append.mp hp with hp | hp
    · rcases List.mem_append.mp hp with z | z
      · rw [upd_ne (hnd p (List.mem_append_left _ z))]
        exact h.cel p (by rw [e]; exact List.mem_append_left _ z)
      · rcases List.mem_cons.mp z with z | z
        · rw [z]
          exact upd_same
        · rw [upd_ne (hnd p (List.mem_append_right _ z))]
          exact h.cel p (by rw [e]; exact List.mem_append_right _ (List.mem_cons_of_mem _ z))
    · obtain ⟨h1, _, h3, _⟩ := hN p hp
      rw [upd_ne (fun z => h3 (by rw [z]; exact ha))]
      exact h1
  · rw [em, List.nodup_append]
    refine ⟨nd, hn, fun x hx y hy z => ?_⟩
    obtain ⟨p, hp, rfl⟩ := List.mem_map.mp hy
    exact (hN p hp).2.2.1 (by rw [← z]; exact hx)
  · obtain ⟨h1, h2, _⟩ := hb b u q
    rw [upd_ne (fun z => h2 (by rw [z]; exact ha))]
    exact h1
  · obtain ⟨h1, h2, h3⟩ := hb b u q
    rw [em]
    intro z
    rcases List.mem_append.mp z with z | z
    · exact h2 z
    · obtain ⟨p, hp, y⟩ := List.mem_map.mp z
      exact h3 p hp y.symm
theorem Ext.mutG (s : Same H0 H) {a : Addr} {o o' : HO} {M1 M2 N : List (Addr × HO)} (e : cells W = M1 ++ (a, o) :: M2) (e' : cells W' = (M1 ++ (a, o') :: M2) ++ N) (hN : ∀ p ∈ N, H0 p.1 = none) : Ext W H0 W' (L2.upd H a o') := by
  have em : muts W' = muts W ++ N.map (·.1) := by
    unfold muts
    rw [e, e']
    simp
  refine ⟨fun b u hb q => ?_, fun b hb => ?_⟩
  · rw [upd_ne (fun z => hb (by rw [z]; exact mut_mem e))]
    exact s b u q
  · rw [em] at hb
    rcases List.mem_append.mp hb with z | z
    · exact .inl z
    · obtain ⟨p, hp, y⟩ := List.mem_map.mp z
      exact .inr (by rw [← y]; exact hN p hp)
/-- one cell, nothing new -/
theorem WAt.mut1 (h : WAt H W) {a : Addr} {o o' : HO} {M1 M2 : List (Addr × HO)} (e : cells W = M1 ++ (a, o) :: M2) (e' : cells W' = M1 ++ (a, o') :: M2)
    (hs : ∀ b u, Stt W' b u → Stt W b u ∨ ∃ xs, u = .tup xs ∧ H b = some u) : WAt (upd H a o') W' ∧ Ext W H W' (upd H a o') :=
  ⟨h.mutG (N := []) e (by rw [e']; simp) (fun _ z => nomatch z) List.nodup_nil hs, Ext.mutG (N := []) (fun _ _ z => z) e (by rw [e']; simp) (fun _ z => nomatch z)⟩
end
section
variable {H0 H : Hp} {W : WS}
theorem stt_same {V W' : WS} {b : Addr} {u : HO} (h : Stt W' b u) (h1 : W'.c = V.c) (h2 : W'.scs = V.scs) (h3 : W'.ths = V.ths) (h4 : W'.wks = V.wks) : Stt V b u := by
  cases h with
  | fl => rw [h1]; exact .fl
  | mo => rw [h1]; exact .mo
  | part i hi => rw [h1] at hi ⊢; exact .part i hi
  | wts i hi => rw [h1] at hi ⊢; exact .wts i hi
  | want i hi j q e => rw [h1] at hi e ⊢; exact .want i hi j q e
  | scp s hs => rw [h2] at hs; exact .scp s hs
  | hld t ht => rw [h3] at ht; exact .hld t ht
  | wrk x hx => rw [h4] at hx; exact .wrk x hx
  | bk => rw [h1]; exact .bk
  | bT => rw [h1]; exact .bT
theorem w_shut (h : WAt H W) (s : Nat) : WAt (upd H W.c.sh (.lst (W.shut.map natV ++ [natV s]))) { W with shut := W.shut ++ [s] } ∧ Ext W H { W with shut := W.shut ++ [s] } (upd H W.c.sh (.lst (W.shut.map natV ++ [natV s]))) := by
  rw [show W.shut.map natV ++ [natV s] = (W.shut ++ [s]).map natV by simp]
  exact h.mut1 (M1 := [_, _]) rfl rfl fun b u q => .inl (stt_same q rfl rfl rfl rfl)
theorem w_loose (h : WAt H W) (s : Nat) : WAt (upd H W.lo (.lst (W.loose.map natV ++ [natV s]))) { W with loose := W.loose ++ [s] } ∧ Ext W H { W with loose := W.loose ++ [s] } (upd H W.lo (.lst (W.loose.map natV ++ [natV s]))) := by
  rw [show W.loose.map natV ++ [natV s] = (W.loose ++ [s]).map natV by simp]
  exact h.mut1 (M1 := [_, _, _, _, _]) rfl rfl fun b u q => .inl (stt_same q rfl rfl rfl rfl)
theorem w_told (h : WAt H W) (s : Nat) : WAt (upd H W.c.to (.lst (W.told.map natV ++ [natV s]))) { W with told := W.told ++ [s] } ∧ Ext W H { W with told := W.told ++ [s] } (upd H W.c.to (.lst (W.told.map natV ++ [natV s]))) := by
  rw [show W.told.map natV ++ [natV s] = (W.told ++ [s]).map natV by simp]
  exact h.mut1 (M1 := [_, _, _, _, _, _]) rfl rfl fun b u q => .inl (stt_same q rfl rfl rfl rfl)
theorem w_fau (h : WAt H W) (v : V) : WAt (upd H W.c.fa (.lst (W.fau ++ [v]))) { W with fau := W.fau ++ [v] } ∧ Ext W H { W with fau := W.fau ++ [v] } (upd H W.c.fa (.lst (W.fau ++ [v]))) :=
  h.mut1 (M1 := [_, _, _, _, _, _, _]) rfl rfl fun b u q => .inl (stt_same q rfl rfl rfl rfl)
theorem w_line (h : WAt H W) (l : List V) : WAt (upd H W.c.li (.lst l)) { W with line := l } ∧ Ext W H { W with line := l } (upd H W.c.li (.lst l)) :=
  h.mut1 (M1 := [_, _, _, _, _, _, _, _]) rfl rfl fun b u q => .inl (stt_same q rfl rfl rfl rfl)
theorem w_put (h : WAt H W) (k : Nat) : WAt (upd H W.c.w (.dK (putK (wkv W) (.inr "put") (natV k)))) { W with put := k } ∧ Ext W H { W with put := k } (upd H W.c.w (.dK (putK (wkv W) (.inr "put") (natV k)))) := by
  rw [wkput_put]
  exact h.mut1 (M1 := []) rfl rfl fun b u q => .inl (stt_same q rfl rfl rfl rfl)
theorem w_deeds (h : WAt H W) (k : Nat) : WAt (upd H W.c.w (.dK (putK (wkv W) (.inr "deeds") (natV k)))) { W with deeds := k } ∧ Ext W H { W with deeds := k } (upd H W.c.w (.dK (putK (wkv W) (.inr "deeds") (natV k)))) := by
  rw [wkput_deeds]
  exact h.mut1 (M1 := []) rfl rfl fun b u q => .inl (stt_same q rfl rfl rfl rfl)
theorem w_scope (h : WAt H W) (s : Scp) (hs : H s.ad = some (.tup [natV s.lev, optV s.und])) : WAt (upd H W.c.sc (.dK (putK (sckv W.scs) (.inl (W.scs.length : Nat)) (.ref s.ad)))) { W with scs := W.scs ++ [s] } ∧
    Ext W H { W with scs := W.scs ++ [s] } (upd H W.c.sc (.dK (putK (sckv W.scs) (.inl (W.scs.length : Nat)) (.ref s.ad)))) := by
  rw [sc_new]
  refine h.mut1 (M1 := [_]) rfl rfl fun b u q => ?_
  cases q with
  | fl => exact .inl .fl
  | mo => exact .inl .mo
  | part i hi => exact .inl (.part i hi)
  | wts i hi => exact .inl (.wts i hi)
  | want i hi j q e => exact .inl (Stt.want (W := W) i hi j q e)
  | scp s' hs' =>
    rcases List.mem_append.mp hs' with z | z
    · exact .inl (.scp s' z)
    · have e : s' = s := by simpa using z
      rw [e]
      exact .inr ⟨_, rfl, hs⟩
  | hld t ht => exact .inl (.hld t ht)
  | wrk x hx => exact .inl (.wrk x hx)
  | bk => exact .inl .bk
  | bT => exact .inl .bT
theorem w_work (h : WAt H W) (x : Wrk) (hs : H x.ad = some (.tup [natV x.req, .str (nm x.nm), optV x.th])) (hk : ∀ y ∈ W.wks, y.key ≠ x.key) : WAt (upd H W.c.wk (.dK (putK (wokv W.wks) (.inl (x.key : Int)) (.ref x.ad)))) { W with wks := W.wks ++ [x] } ∧
    Ext W H { W with wks := W.wks ++ [x] } (upd H W.c.wk (.dK (putK (wokv W.wks) (.inl (x.key : Int)) (.ref x.ad)))) := by
  rw [wo_new x hk]
  refine h.mut1 (M1 := [_, _, _, _]) rfl rfl fun b u q => ?_
  cases q with
  | fl => exact .inl .fl
  | mo => exact .inl .mo
  | part i hi => exact .inl (.part i hi)
  | wts i hi => exact .inl (.wts i hi)
  | want i hi j q e => exact .inl (Stt.want (W := W) i hi j q e)
  | scp s' hs' => exact .inl (.scp s' hs')
  | hld t ht => exact .inl (.hld t ht)
  | wrk y hy =>
    rcases List.mem_append.mp hy with z | z
    · exact .inl (.wrk y z)
    · have e : y = x := by simpa using z
      rw [e]
      exact .inr ⟨_, rfl, hs⟩
  | bk => exact .inl .bk
  | bT => exact .inl .bT
theorem w_unwork (h : WAt H W) (k : Nat) : WAt (upd H W.c.wk (.dK (dropK (wokv W.wks) (.inl (k : Int))))) { W with wks := W.wks.filter fun x => decide (x.key ≠ k) } ∧
    Ext W H { W with wks := W.wks.filter fun x => decide (x.key ≠ k) } (upd H W.c.wk (.dK (dropK (wokv W.wks) (.inl (k : Int))))) := by
  rw [wo_drop]
  refine h.mut1 (M1 := [_, _, _, _]) rfl rfl fun b u q => ?_
  cases q with
  | fl => exact .inl .fl
  | mo => exact .inl .mo
  | part i hi => exact .inl (.part i hi)
  | wts i hi => exact .inl (.wts i hi)
  | want i hi j q e => exact .inl (Stt.want (W := W) i hi j q e)
  | scp s' hs' => exact .inl (.scp s' hs')
  | hld t ht => exact .inl (.hld t ht)
  | wrk y hy => exact .inl (.wrk y ((List.mem_filter.mp hy).1))
  | bk => exact .inl .bk
  | bT => exact .inl .bT
/-- a new empty list of loose things; H0 is the heap before it -/
theorem w_loose0 (h0 : WAt H0 W) {l : Addr} (nl : H0 l = none) : WAt (upd (upd H0 l (.lst [])) W.c.w (.dK (putK (wkv W) (.inr "loose") (.ref l)))) { W with lo := l, loose := [] } ∧
    Ext W H0 { W with lo := l, loose := [] } (upd (upd H0 l (.lst [])) W.c.w (.dK (putK (wkv W) (.inr "loose") (.ref l)))) := by
  rw [show putK (wkv W) (.inr "loose") (.ref l) = wkv { W with lo := l, loose := [] } from wkput_loose W l]
  have nlm := h0.nnew nl
  have hw : H0 W.c.w = some (.dK (wkv W)) := h0.hw
  have lw : W.c.w ≠ l := ne_of_none hw nl
  have nd := h0.nd
  have ec : cells W = [(W.c.w, .dK (wkv W)), (W.c.sc, .dK (sckv W.scs)), (W.c.sh, .lst (W.shut.map natV)), (W.c.th, .lst (W.ths.map fun t => .ref t.ad)), (W.c.wk, .dK (wokv W.wks))] ++ (W.lo, .lst (W.loose.map natV)) :: ((W.c.to, .lst (W.told.map natV)) :: (W.c.fa, .lst W.fau) :: (W.c.li, .lst W.line) :: thC W.ths) := rfl
  generalize hA : [(W.c.sc, (.dK (sckv W.scs) : HO)), (W.c.sh, .lst (W.shut.map natV)), (W.c.th, .lst (W.ths.map fun t => .ref t.ad)), (W.c.wk, .dK (wokv W.wks))] = A
  generalize hB : ((W.c.to, (.lst (W.told.map natV) : HO)) :: (W.c.fa, .lst W.fau) :: (W.c.li, .lst W.line) :: thC W.ths) = B
  have e1 : cells W = (W.c.w, .dK (wkv W)) :: (A ++ (W.lo, .lst (W.loose.map natV)) :: B) := by rw [← hA, ← hB]; rfl
  have e2 : cells { W with lo := l, loose := [] } = (W.c.w, .dK (wkv { W with lo := l, loose := [] })) :: (A ++ (l, .lst []) :: B) := by rw [← hA, ← hB]; rfl
  have m1 : muts W = W.c.w :: (A.map (·.1) ++ W.lo :: B.map (·.1)) := by unfold muts; rw [e1]; simp
  have m2 : muts { W with lo := l, loose := [] } = W.c.w :: (A.map (·.1) ++ l :: B.map (·.1)) := by unfold muts; rw [e2]; simp
  rw [m1] at nlm nd
  have sub : ∀ b, b ∈ muts { W with lo := l, loose := [] } → b ∈ muts W ∨ b = l := fun b hb => by
    rw [m2] at hb
    rw [m1]
    simp only [List.mem_cons, List.mem_append] at hb ⊢
    rcases hb with z | z | z | z
    · exact .inl (.inl z)
    · exact .inl (.inr (.inl z))
    · exact .inr z
    · exact .inl (.inr (.inr (.inr z)))
  have hst : ∀ b u, Stt { W with lo := l, loose := [] } b u → Stt W b u := fun b u q => stt_same q rfl rfl rfl rfl
  refine ⟨⟨fun p hp => ?_, ?_, fun b u q => ?_, fun b u q z => ?_⟩, fun b u hb q => ?_, fun b hb => ?_⟩
  · rw [e2] at hp
    rcases List.mem_cons.mp hp with z | z
    · rw [z]
      exact upd_same
    · have hne : p.1 ≠ W.c.w := fun y => by
        rw [List.nodup_cons] at nd
        rcases List.mem_append.mp z with z | z
        · exact nd.1 (List.mem_append_left _ (List.mem_map.mpr ⟨p, z, y⟩))
        · rcases List.mem_cons.mp z with z | z
          · rw [z] at y
            exact lw y.symm
          · exact nd.1 (List.mem_append_right _ (List.mem_cons_of_mem _ (List.mem_map.mpr ⟨p, z, y⟩)))
      rw [upd_ne hne]
      rcases List.mem_append.mp z with z | z
      · have k := h0.cel p (by rw [e1]; exact List.mem_cons_of_mem _ (List.mem_append_left _ z))
        rw [upd_ne (ne_of_none k nl)]
        exact k
      · rcases List.mem_cons.mp z with z | z
        · rw [z]
          exact upd_same
        · have k := h0.cel p (by rw [e1]; exact List.mem_cons_of_mem _ (List.mem_append_right _ (List.mem_cons_of_mem _ z)))
          rw [upd_ne (ne_of_none k nl)]
          exact k
  · rw [m2]
    rw [List.nodup_cons, List.nodup_append, List.nodup_cons] at nd ⊢
    obtain ⟨n1, n2, ⟨n3, n4⟩, n5⟩ := nd
    simp only [List.mem_append, List.mem_cons, not_or] at n1 nlm ⊢
    refine ⟨⟨n1.1, lw, n1.2.2⟩, n2, ⟨nlm.2.2.2, n4⟩, fun x hx y hy => ?_⟩
    rcases hy with rfl | hy
    · exact fun z => nlm.2.1 (z ▸ hx)
    · exact n5 x hx y (by simp [hy])
  · have k := h0.st b u (hst b u q)
    rw [upd_ne (fun z => h0.sep b u (hst b u q) (by rw [z, m1]; exact List.mem_cons_self ..)), upd_ne (ne_of_none k nl)]
    exact k
  · rcases sub b z with z | z
    · exact h0.sep b u (hst b u q) z
    · have k := h0.st b u (hst b u q)
      rw [z, nl] at k
      cases k
  · rw [upd_ne (fun z => hb (by rw [z, m1]; exact List.mem_cons_self ..)), upd_ne (ne_of_none q nl)]
    exact q
  · rcases sub b hb with z | z
    · exact .inl z
    · exact .inr (by rw [z]; exact nl)
/-- a new thing, its tuple of held ones not yet got; H0 is the heap before its pieces -/
theorem w_thing (h0 : WAt H0 W) (s : Same H0 H) (t : Thing) (na : H0 t.ad = none) (ha : H t.ad = some (.dK (thkv t))) (hh : H t.ha = some (.tup (t.held.map optV))) :
    WAt (upd H W.c.th (.lst ((W.ths.map fun t => .ref t.ad) ++ [.ref t.ad]))) { W with ths := W.ths ++ [t] } ∧ Ext W H0 { W with ths := W.ths ++ [t] } (upd H W.c.th (.lst ((W.ths.map fun t => .ref t.ad) ++ [.ref t.ad]))) := by
  rw [show (W.ths.map fun t => V.ref t.ad) ++ [.ref t.ad] = (W.ths ++ [t]).map fun t => V.ref t.ad by simp]
  have h := h0.same s
  have e' : cells { W with ths := W.ths ++ [t] } = ([(W.c.w, .dK (wkv W)), (W.c.sc, .dK (sckv W.scs)), (W.c.sh, .lst (W.shut.map natV))] ++ (W.c.th, .lst ((W.ths ++ [t]).map fun t => .ref t.ad)) :: ((W.c.wk, .dK (wokv W.wks)) ::
    (W.lo, .lst (W.loose.map natV)) :: (W.c.to, .lst (W.told.map natV)) :: (W.c.fa, .lst W.fau) :: (W.c.li, .lst W.line) :: thC W.ths)) ++ [(t.ad, .dK (thkv t))] := by
    simp [cells, thC]
    rfl
  refine ⟨h.mutG (M1 := [_, _, _]) rfl e' (fun p hp => ?_) (by simp) (fun b u q => ?_), Ext.mutG s (M1 := [_, _, _]) rfl e' (fun p hp => ?_)⟩
  · have e : p = (t.ad, .dK (thkv t)) := by simpa using hp
    rw [e]
    refine ⟨ha, ⟨_, rfl⟩, h0.nnew na, fun b u q => ne_of_none (h0.st b u q) na⟩
  · cases q with
    | fl => exact .inl .fl
    | mo => exact .inl .mo
    | part i hi => exact .inl (.part i hi)
    | wts i hi => exact .inl (.wts i hi)
    | want i hi j q e => exact .inl (Stt.want (W := W) i hi j q e)
    | scp s' hs' => exact .inl (.scp s' hs')
    | hld t' ht =>
      rcases List.mem_append.mp ht with z | z
      · exact .inl (.hld t' z)
      · have e : t' = t := by simpa using z
        rw [e]
        exact .inr ⟨_, rfl, hh⟩
    | wrk x hx => exact .inl (.wrk x hx)
    | bk => exact .inl .bk
    | bT => exact .inl .bT
  · have e : p = (t.ad, .dK (thkv t)) := by simpa using hp
    rw [e]
    exact na
theorem thC_at {l : List Thing} {k : Nat} {t : Thing} (h : l[k]? = some t) : thC l = thC (l.take k) ++ (t.ad, .dK (thkv t)) :: thC (l.drop (k + 1)) := by
  obtain ⟨hk, e⟩ := List.getElem?_eq_some_iff.mp h
  have := (List.take_append_drop k l).symm
  rw [List.drop_eq_getElem_cons hk, e] at this
  conv => lhs; rw [this]
  unfold thC
  rw [List.map_append, List.map_cons]
theorem set_split {l : List Thing} {k : Nat} {t t' : Thing} (h : l[k]? = some t) : l.set k t' = l.take k ++ t' :: l.drop (k + 1) := by
  obtain ⟨hk, e⟩ := List.getElem?_eq_some_iff.mp h
  rw [List.set_eq_take_append_cons_drop, if_pos hk]
theorem w_change (h : WAt H W) {k : Nat} {t t' : Thing} (ht : W.ths[k]? = some t) (ea : t'.ad = t.ad) (hh : H t'.ha = some (.tup (t'.held.map optV))) :
    WAt (upd H t.ad (.dK (thkv t'))) { W with ths := W.ths.set k t' } ∧ Ext W H { W with ths := W.ths.set k t' } (upd H t.ad (.dK (thkv t'))) := by
  have ep : (W.ths.set k t').map (fun t => V.ref t.ad) = W.ths.map fun t => .ref t.ad := by
    apply List.ext_getElem?
    intro i
    rw [List.getElem?_map, List.getElem?_map, List.getElem?_set]
    by_cases e : k = i
    · subst e
      obtain ⟨hk, _⟩ := List.getElem?_eq_some_iff.mp ht
      rw [if_pos rfl, if_pos hk, ht]
      simp [ea]
    · rw [if_neg e]
  generalize hA : [(W.c.w, (.dK (wkv W) : HO)), (W.c.sc, .dK (sckv W.scs)), (W.c.sh, .lst (W.shut.map natV)), (W.c.th, .lst (W.ths.map fun t => .ref t.ad)), (W.c.wk, .dK (wokv W.wks)), (W.lo, .lst (W.loose.map natV)), (W.c.to, .lst (W.told.map natV)), (W.c.fa, .lst W.fau), (W.c.li, .lst W.line)] = A
  have e1 : cells W = (A ++ thC (W.ths.take k)) ++ (t.ad, .dK (thkv t)) :: thC (W.ths.drop (k + 1)) := by
    rw [List.append_assoc, ← thC_at ht, ← hA]
    rfl
  have e2 : cells { W with ths := W.ths.set k t' } = (A ++ thC (W.ths.take k)) ++ (t.ad, .dK (thkv t')) :: thC (W.ths.drop (k + 1)) := by
    have e3 : thC (W.ths.set k t') = thC (W.ths.take k) ++ (t.ad, .dK (thkv t')) :: thC (W.ths.drop (k + 1)) := by
      rw [set_split ht]
      unfold thC
      rw [List.map_append, List.map_cons, ea]
    rw [List.append_assoc, ← e3, ← hA, ← ep]
    rfl
  refine h.mut1 e1 e2 fun b u q => ?_
  cases q with
  | fl => exact .inl .fl
  | mo => exact .inl .mo
  | part i hi => exact .inl (.part i hi)
  | wts i hi => exact .inl (.wts i hi)
  | want i hi j q e => exact .inl (Stt.want (W := W) i hi j q e)
  | scp s' hs' => exact .inl (.scp s' hs')
  | hld s hs =>
    rcases List.mem_or_eq_of_mem_set hs with z | z
    · exact .inl (.hld s z)
    · rw [z]
      exact .inr ⟨_, rfl, hh⟩
  | wrk x hx => exact .inl (.wrk x hx)
  | bk => exact .inl .bk
  | bT => exact .inl .bT
end
end HL

set_option Elab.async false
set_option linter.all false
set_option maxRecDepth 100000
set_option maxHeartbeats 4000000
/-! M1: the world's laws; stands and what follows, in plain mathematics -/
namespace HL
open PySem PySem.Spec PyProof.Rows L2
structure CInv (c : Cfg) : Prop where
  D1 : 1 ≤ c.D
  D3 : c.D ≤ 3
  n1 : 1 ≤ c.n
  n6 : c.n ≤ 6
  life : ∀ i, i < c.n → -1 ≤ c.life i ∧ c.life i ≤ c.D
  wants : ∀ i, i < c.n → ∀ q ∈ c.wants i, i < q.2 ∧ q.2 < c.n
  wlen : ∀ i, i < c.n → (c.wants i).length + i + 1 ≤ c.n
  held : c.held = "home" ∨ c.held = "now"
  each : c.each = "now" ∨ c.each = "program"
  lifted : c.lifted = "nothing" ∨ c.lifted = "kept"
  ends : c.ends = "holder" ∨ c.ends = "never" ∨ c.ends = "scope"
  works : c.works = "own" ∨ c.works = "same" ∨ c.works = "wait"
/-- the names of the wants that are held -/
def hwt (l : List (Bool × Nat)) : List Nat := (l.filter (·.1)).map (·.2)
def hw (c : Cfg) (i : Nat) : List Nat := hwt (c.wants i)
def srcT (c : Cfg) (t : Thing) : Nat := if c.held = "home" then t.home else t.by_
/-- what is got for a part u from a scope s, for a request b -/
def HOkG (W : WS) (s b u : Nat) : Option Nat → Prop
  | none => W.c.lifted ≠ "kept" ∧ (lv W s : Int) < W.c.life u
  | some k => ∃ x, W.ths[k]? = some x ∧ x.nm = u ∧ (W.c.life u = -1 → x.home = s ∧ x.by_ = b) ∧ (W.c.life u ≠ -1 → x.home = up W s (W.c.life u).toNat ∧ (W.c.lifted = "kept" ∨ W.c.life u ≤ lv W s))
structure TOk (W : WS) (t : Thing) : Prop where
  nm : t.nm < W.c.n
  by1 : t.by_ < W.scs.length
  by2 : lv W t.by_ = W.c.D
  home : t.home = up W t.by_ (lv W t.home)
  low : W.c.life t.nm ≠ -1 → (lv W t.home : Int) ≤ W.c.life t.nm
  held : ∀ (j : Nat) (x : Option Nat), t.held[j]? = some x → ∃ u, (hw W.c t.nm)[j]? = some u ∧ HOkG W (srcT W.c t) t.by_ u x
/-- thing i holds the thing k for one use -/
def Holds (W : WS) (i k : Nat) : Prop := ∃ (t : Thing) (j u : Nat), W.ths[i]? = some t ∧ (hw W.c t.nm)[j]? = some u ∧ t.held[j]? = some (some k) ∧ W.c.life u = -1
inductive Att (W : WS) : Nat → Prop
  | base (k : Nat) (t : Thing) (h : W.ths[k]? = some t) (h0 : t.home = 0) (hl : W.c.life t.nm ≠ -1) : Att W k
  | step (k i : Nat) (t : Thing) (h : W.ths[i]? = some t) (hk : some k ∈ t.held) (a : Att W i) : Att W k
def StandR (W : WS) (t : Thing) (k r : Nat) (S : Stand) : Prop :=
  S.life = W.c.life t.nm ∧ S.level = (lv W t.home : Nat) ∧ (S.rooted = true ↔ t.home = 0 ∧ Att W k) ∧
  ((t.by_ = r ∧ S.own = true ∧ S.common = 0 ∧ S.past = false) ∨
   (t.by_ ≠ r ∧ S.own = false ∧ ∃ c : Nat, S.common = (c : Nat) ∧ c < W.c.D ∧ up W t.by_ c = up W r c ∧ up W t.by_ (c + 1) ≠ up W r (c + 1) ∧ ∀ j, c < j → j ≤ W.c.D → (up W t.by_ j ∈ W.shut ↔ S.past = true)))
section
variable {W : WS}
theorem SInv.lv_min (I : SInv W) {s k : Nat} (h : s < W.scs.length) : lv W (up W s k) = min k (lv W s) := by
  rcases Nat.lt_or_ge k (lv W s) with q | q
  · rw [I.up_lv h (by omega)]
    omega
  · rw [up_ge q]
    omega
theorem SInv.ueq (I : SInv W) {a b c j : Nat} (ha : a < W.scs.length) (hb : b < W.scs.length) (la : c ≤ lv W a) (lb : c ≤ lv W b) (e : up W a c = up W b c) (hj : j ≤ c) : up W a j = up W b j := by
  rw [← I.upup ha la hj, ← I.upup hb lb hj, e]
theorem TOk.hlt {t : Thing} (h : TOk W t) (I : SInv W) : t.home < W.scs.length := by
  rw [h.home]
  exact I.up_lt h.by1
theorem TOk.hle {t : Thing} (h : TOk W t) (I : SInv W) : lv W t.home ≤ W.c.D := I.le (h.hlt I)
/-- an ancestor's ancestor, by its level -/
theorem SInv.anc (I : SInv W) {r s k : Nat} (hr : r < W.scs.length) (hs : s = up W r (lv W s)) (hl : lv W s ≤ lv W r) : up W s k = up W r (lv W (up W s k)) := by
  have hsl : s < W.scs.length := by rw [hs]; exact I.up_lt hr
  rw [I.lv_min hsl]
  rcases Nat.lt_or_ge k (lv W s) with q | q
  · rw [Nat.min_eq_left (by omega)]
    conv => lhs; rw [hs]
    exact I.upup hr hl (by omega)
  · rw [up_ge q, Nat.min_eq_right q]
    exact hs
theorem stand_form (C : CInv W.c) (I : SInv W) {t : Thing} (h : TOk W t) {k r : Nat} {S : Stand} (hS : StandR W t k r S) : isForm W.c.D S := by
  obtain ⟨e1, e2, e3, e4⟩ := hS
  have l1 := C.life _ h.nm
  have l2 := h.hle I
  refine ⟨by rw [e1]; exact l1, ⟨by rw [e2]; omega, ?_⟩, ?_, fun ho => ?_⟩
  · rw [e1, e2]
    split
    · omega
    · rename_i q
      exact h.low q
  · have := C.D1
    rcases e4 with ⟨_, _, z, _⟩ | ⟨_, _, c, z, z2, _⟩
    · rw [z]; omega
    · rw [z]; omega
  · rcases e4 with ⟨_, _, z, y⟩ | ⟨_, z, _⟩
    · exact ⟨z, y⟩
    · rw [z] at ho; cases ho
/-- home is the served request's own ancestor: nothing far -/
theorem far_iff (I : SInv W) {t : Thing} (h : TOk W t) {k r : Nat} {S : Stand} (hS : StandR W t k r S) (hr : r < W.scs.length) (lr : lv W r = W.c.D) : farB S = true ↔ t.home ≠ up W r (lv W t.home) := by
  obtain ⟨e1, e2, e3, e4⟩ := hS
  unfold farB
  rcases e4 with ⟨y1, y2, y3, y4⟩ | ⟨y1, y2, c, y3, y4, y5, y6, y7⟩
  · rw [y2]
    simp only [Bool.not_true, Bool.false_and]
    constructor
    · intro z; cases z
    · intro z
      exact absurd (by rw [← y1]; exact h.home) z
  · rw [y2, y3, e2]
    simp only [Bool.not_false, Bool.true_and, decide_eq_true_eq]
    constructor
    · intro z q
      rw [h.home, I.lv_min h.by1] at q
      have hle := h.hle I
      have hb := h.by2
      rw [Nat.min_eq_left (by omega)] at q
      refine y6 (I.ueq h.by1 hr (c := lv W t.home) (by omega) (by omega) q (by omega))
    · intro z
      rcases Nat.lt_or_ge c (lv W t.home) with q | q
      · omega
      · exfalso
        apply z
        have hb := h.by2
        have q2 := I.ueq h.by1 hr (c := c) (by omega) (by omega) y5 q
        rw [← q2]
        exact h.home
theorem stand_strayed (C : CInv W.c) (I : SInv W) {t : Thing} (h : TOk W t) {k r : Nat} {S : Stand} (hS : StandR W t k r S) (hr : r < W.scs.length) (lr : lv W r = W.c.D) :
    strB S = decide (W.c.life t.nm ≠ -1 ∧ up W r (W.c.life t.nm).toNat ≠ t.home) := by
  have hf := far_iff I h hS hr lr
  obtain ⟨e1, e2, e3, e4⟩ := hS
  have l1 := C.life _ h.nm
  have l3 := h.low
  have l4 := h.hle I
  unfold strB
  rw [e1, e2]
  by_cases q : W.c.life t.nm = -1
  · rw [q]; simp
  · have q2 : decide (W.c.life t.nm ≠ -1) = true := decide_eq_true q
    rw [q2, Bool.true_and]
    apply Bool.eq_iff_iff.mpr
    rw [Bool.or_eq_true, decide_eq_true_eq, decide_eq_true_eq, hf]
    have l5 := l3 q
    by_cases p : (lv W t.home : Int) = W.c.life t.nm
    · have p2 : (W.c.life t.nm).toNat = lv W t.home := by omega
      rw [p2]
      constructor
      · rintro (z | z)
        · exact absurd p z
        · exact ⟨q, fun y => z y.symm⟩
      · rintro ⟨_, z⟩
        exact .inr fun y => z y.symm
    · constructor
      · intro _
        refine ⟨q, fun y => p ?_⟩
        have := I.up_lv (s := r) (k := (W.c.life t.nm).toNat) hr (by omega)
        rw [y] at this
        omega
      · intro _
        exact .inl p
/-- open scopes' ancestors are open -/
theorem up_open (I : SInv W) (op : ∀ s x u, W.scs[s]? = some x → x.und = some u → s ∉ W.shut → u ∉ W.shut) : ∀ (m s k : Nat), lv W s - k = m → s < W.scs.length → s ∉ W.shut → up W s k ∉ W.shut
  | 0, s, k, e, h, q => by
    rw [up_ge (by omega)]
    exact q
  | m + 1, s, k, e, h, q => by
    obtain ⟨x, hx, e1, e2, e3, _⟩ := I.step h (by omega)
    rw [I.up_step h (by omega)]
    exact up_open I op m (pr W s) k (by omega) (by omega) (op s x _ hx e1 q)
theorem stand_ended (C : CInv W.c) (I : SInv W) {t : Thing} (h : TOk W t) {k r : Nat} {S : Stand} (hS : StandR W t k r S) (hr : r < W.scs.length) (lr : lv W r = W.c.D)
    (op : ∀ s x u, W.scs[s]? = some x → x.und = some u → s ∉ W.shut → u ∉ W.shut) (ho : r ∉ W.shut) {b : Bk} (hb : b.ends = W.c.ends)
    (e1 : W.c.life t.nm ≠ -1 ∨ W.c.ends = "scope" → (t.ended = true ↔ t.home ∈ W.shut)) (e2 : W.c.life t.nm = -1 → W.c.ends = "never" → t.ended = false) (hn : ¬ (W.c.life t.nm = -1 ∧ W.c.ends = "holder")) : endB b S = t.ended := by
  have hf := far_iff I h hS hr lr
  obtain ⟨g1, g2, g3, g4⟩ := hS
  unfold endB
  rw [g1, hb]
  by_cases q : W.c.life t.nm ≠ -1 ∨ W.c.ends = "scope"
  · have q2 : (decide (W.c.life t.nm ≠ -1) || decide (W.c.ends = "scope")) = true := by
      rw [Bool.or_eq_true, decide_eq_true_eq, decide_eq_true_eq]
      exact q
    rw [q2, Bool.and_true]
    apply Bool.eq_iff_iff.mpr
    rw [Bool.and_eq_true, hf, e1 q]
    have l4 := h.hle I
    have hb2 := h.by2
    rcases g4 with ⟨y1, y2, y3, y4⟩ | ⟨y1, y2, c, y3, y4, y5, y6, y7⟩
    · constructor
      · rintro ⟨z, _⟩
        exact absurd (by rw [← y1]; exact h.home) z
      · intro z
        rw [h.home, y1] at z
        exact absurd z (up_open I op _ _ _ rfl hr ho)
    · rcases Nat.lt_or_ge c (lv W t.home) with p | p
      · have y8 := y7 _ p l4
        rw [← h.home] at y8
        rw [y8]
        constructor
        · exact fun z => z.2
        · refine fun z => ⟨fun y => ?_, z⟩
          rw [h.home, I.lv_min h.by1, Nat.min_eq_left (by omega)] at y
          exact y6 (I.ueq h.by1 hr (c := lv W t.home) (by omega) (by omega) y (by omega))
      · have q2 := I.ueq h.by1 hr (c := c) (by omega) (by omega) y5 p
        have q3 : t.home = up W r (lv W t.home) := by rw [← q2]; exact h.home
        constructor
        · rintro ⟨z, _⟩
          exact absurd q3 z
        · intro z
          rw [q3] at z
          exact absurd z (up_open I op _ _ _ rfl hr ho)
  · have q1 : W.c.life t.nm = -1 := by
      rcases Decidable.em (W.c.life t.nm = -1) with z | z
      · exact z
      · exact absurd (.inl z) q
    have q2 : W.c.ends = "never" := by
      rcases C.ends with z | z | z
      · exact absurd ⟨q1, z⟩ hn
      · exact z
      · exact absurd (.inr z) q
    have q3 : decide (W.c.ends = "scope") = false := by
      rw [q2]
      decide +kernel
    have q4 : decide (W.c.life t.nm ≠ -1) = false := by
      rw [q1]
      decide
    rw [e2 q1 q2, q3, q4, Bool.or_false, Bool.and_false, Bool.and_false]
theorem stand_kept (I : SInv W) {t : Thing} (h : TOk W t) {k r : Nat} {S : Stand} (hk : W.ths[k]? = some t) (hS : StandR W t k r S) (hr : r < W.scs.length) (lr : lv W r = W.c.D) (hl : W.c.life t.nm ≠ -1) (hh : t.home = up W r (lv W t.home)) :
    S ∈ keptL (W.c.life t.nm) (lv W t.home : Nat) W.c.D := by
  have hf := far_iff I h hS hr lr
  obtain ⟨e1, e2, e3, e4⟩ := hS
  have er : S.rooted = decide (((lv W t.home : Nat) : Int) = 0) := by
    apply Bool.eq_iff_iff.mpr
    rw [e3, decide_eq_true_eq]
    constructor
    · rintro ⟨z, _⟩
      rw [z, I.lv0]
      rfl
    · intro z
      have z1 : t.home = 0 := I.lv_zero (h.hlt I) (by omega)
      exact ⟨z1, .base k t hk z1 hl⟩
  rw [mem_keptL]
  rcases e4 with ⟨y1, y2, y3, y4⟩ | ⟨y1, y2, c, y3, y4, y5, y6, y7⟩
  · left
    cases S
    simp only at e1 e2 er y2 y3 y4
    rw [e1, e2, er, y2, y3, y4]
  · right
    refine ⟨c, S.past, ?_, by omega, ?_⟩
    · rcases Nat.lt_or_ge c (lv W t.home) with q | q
      · exfalso
        have : farB S = true := by
          unfold farB
          rw [y2, y3, e2]
          simp only [Bool.not_false, Bool.true_and, decide_eq_true_eq]
          omega
        exact hf.mp this hh
      · omega
    · cases S
      simp only at e1 e2 er y2 y3
      unfold kOne
      rw [e1, e2, er, y2, y3]
theorem stand_begun (C : CInv W.c) (I : SInv W) {t : Thing} (h : TOk W t) {k r : Nat} {S : Stand} (hk : W.ths[k]? = some t) (hS : StandR W t k r S) (hr : r < W.scs.length) (lr : lv W r = W.c.D)
    (h1 : W.c.life t.nm = -1 → t.home = r ∧ t.by_ = r) (h2 : W.c.life t.nm ≠ -1 → t.home = up W r (W.c.life t.nm).toNat) : S ∈ begunL W.c.D := by
  have l1 := C.life _ h.nm
  have d1 := C.D1
  unfold begunL
  rw [mem_begunM]
  by_cases q : W.c.life t.nm = -1
  · left
    obtain ⟨e1, e2, e3, e4⟩ := hS
    obtain ⟨z1, z2⟩ := h1 q
    have hr0 : ¬ t.home = 0 := fun z => by
      rw [← z1, z, I.lv0] at lr
      omega
    have er : S.rooted = false := by
      cases hb : S.rooted with
      | false => rfl
      | true => exact absurd (e3.mp hb).1 hr0
    rcases e4 with ⟨y1, y2, y3, y4⟩ | ⟨y1, _⟩
    · rw [z1, lr] at e2
      rw [q] at e1
      cases S
      simp only at e1 e2 er y2 y3 y4
      rw [e1, e2, er, y2, y3, y4]
    · exact absurd z2 y1
  · right
    have z := h2 q
    have zl : lv W t.home = (W.c.life t.nm).toNat := by
      rw [z]
      exact I.up_lv hr (by omega)
    refine ⟨(W.c.life t.nm).toNat, by omega, ?_⟩
    have m := stand_kept I h hk hS hr lr q (by rw [zl]; exact z)
    rw [zl] at m
    have ez : (((W.c.life t.nm).toNat : Nat) : Int) = W.c.life t.nm := by omega
    rw [ez] at m ⊢
    exact m
/-- a numbered thing that is got from an ancestor of the holder's request -/
theorem stand_foll (I : SInv W) {t x : Thing} (ht : TOk W t) (hx : TOk W x) {k j r : Nat} {S0 S : Stand} (hj : W.ths[j]? = some x) (h0 : StandR W t k r S0) (hS : StandR W x j r S) (hr : r < W.scs.length) (lr : lv W r = W.c.D)
    (hl : W.c.life x.nm ≠ -1) (hh : x.home = up W t.by_ (lv W x.home)) :
    (S0.own = true ∨ ((lv W x.home : Nat) : Int) ≤ S0.common → S ∈ keptL (W.c.life x.nm) (lv W x.home : Nat) W.c.D) ∧
    (¬ (S0.own = true ∨ ((lv W x.home : Nat) : Int) ≤ S0.common) → S = ⟨W.c.life x.nm, (lv W x.home : Nat), S0.own, S0.common, S0.past, false⟩) := by
  obtain ⟨f1, f2, f3, f4⟩ := h0
  have lt := ht.by2
  have lx := hx.by2
  have hle := hx.hle I
  rcases f4 with ⟨y1, y2, y3, y4⟩ | ⟨y1, y2, c, y3, y4, y5, y6, y7⟩
  · refine ⟨fun _ => stand_kept I hx hj hS hr lr hl (by rw [← y1]; exact hh), fun z => absurd (.inl y2) z⟩
  · refine ⟨fun z => stand_kept I hx hj hS hr lr hl ?_, fun z => ?_⟩
    · have z2 : lv W x.home ≤ c := by
        rcases z with z | z
        · rw [y2] at z; cases z
        · rw [y3] at z; omega
      rw [← I.ueq ht.by1 hr (c := c) (by omega) (by omega) y5 z2]
      exact hh
    · have z2 : c < lv W x.home := by
        rcases Nat.lt_or_ge c (lv W x.home) with q | q
        · exact q
        · exact absurd (.inr (by rw [y3]; omega)) z
      have hbb : up W x.by_ (lv W x.home) = up W t.by_ (lv W x.home) := by rw [← hx.home]; exact hh
      have ub : ∀ i, i ≤ lv W x.home → up W x.by_ i = up W t.by_ i := fun i hi => I.ueq hx.by1 ht.by1 (c := lv W x.home) (by omega) (by omega) hbb hi
      obtain ⟨e1, e2, e3, e4⟩ := hS
      have er : S.rooted = false := by
        cases hb : S.rooted with
        | false => rfl
        | true =>
          have q := (e3.mp hb).1
          rw [q, I.lv0] at z2
          omega
      rcases e4 with ⟨g1, _⟩ | ⟨g1, g2, c', g3, g4, g5, g6, g7⟩
      · exfalso
        apply y6
        rw [← ub (c + 1) (by omega), g1]
      · have ec : c' = c := by
          rcases Nat.lt_trichotomy c' c with q | q | q
          · exfalso
            apply g6
            rw [ub (c' + 1) (by omega)]
            exact I.ueq ht.by1 hr (c := c) (by omega) (by omega) y5 (by omega)
          · exact q
          · exfalso
            apply y6
            rw [← ub (c + 1) (by omega)]
            exact I.ueq hx.by1 hr (c := c') (by omega) (by omega) g5 (by omega)
        subst ec
        have ep : S.past = S0.past := by
          apply Bool.eq_iff_iff.mpr
          rw [← g7 (c' + 1) (by omega) (by omega), ← y7 (c' + 1) (by omega) (by omega), ub (c' + 1) (by omega)]
        cases S
        simp only at e1 e2 er g2 g3 ep
        rw [e1, e2, er, g2, g3, ep, y2, y3]
/-- a want's thing in the follow of its holder's stand: held -/
theorem foll_held (C : CInv W.c) (I : SInv W) {t x : Thing} (ht : TOk W t) (hx : TOk W x) {k j r u : Nat} {S0 S : Stand} {b : Bk} (hj : W.ths[j]? = some x) (h0 : StandR W t k r S0) (hS : StandR W x j r S) (hr : r < W.scs.length) (lr : lv W r = W.c.D)
    (bh : b.held = W.c.held) (bl : b.lifted = W.c.lifted) (eu : x.nm = u) (h1 : W.c.life u = -1 → x.home = srcT W.c t ∧ x.by_ = t.by_) (h2 : W.c.life u ≠ -1 → x.home = up W (srcT W.c t) (W.c.life u).toNat ∧ (W.c.lifted = "kept" ∨ W.c.life u ≤ lv W (srcT W.c t)))
    (ha : W.c.life u = -1 → x.home = 0 → (Att W j ↔ Att W k)) : S ∈ ledL b W.c.D S0 (true, W.c.life u) := by
  have hsl : srcT W.c t < W.scs.length := by
    unfold srcT
    split
    · exact ht.hlt I
    · exact ht.by1
  have ea : askL b W.c.D S0 true = (lv W (srcT W.c t) : Nat) := by
    unfold askL srcT
    rw [bh, if_pos rfl]
    by_cases e : W.c.held = "home"
    · rw [if_pos e, if_pos e]
      exact h0.2.1
    · rw [if_neg e, if_neg e, ht.by2]
  have l1 := C.life _ hx.nm
  rw [eu] at l1
  unfold ledL
  dsimp only
  rw [ea]
  by_cases q : W.c.life u = -1
  · rw [if_pos q, List.mem_singleton]
    obtain ⟨z1, z2⟩ := h1 q
    obtain ⟨e1, e2, e3, e4⟩ := hS
    obtain ⟨f1, f2, f3, f4⟩ := h0
    rw [eu, q] at e1
    rw [z1] at e2 e3
    rw [z2] at e4
    have em : S.own = S0.own ∧ S.common = S0.common ∧ S.past = S0.past := by
      rcases e4 with ⟨y1, y2, y3, y4⟩ | ⟨y1, y2, c, y3, y4, y5, y6, y7⟩
      · rcases f4 with ⟨g1, g2, g3, g4⟩ | ⟨g1, _⟩
        · exact ⟨by rw [y2, g2], by rw [y3, g3], by rw [y4, g4]⟩
        · exact absurd y1 g1
      · rcases f4 with ⟨g1, _⟩ | ⟨g1, g2, c', g3, g4, g5, g6, g7⟩
        · exact absurd g1 y1
        · have tb := ht.by2
          have ec : c = c' := by
            rcases Nat.lt_trichotomy c c' with p | p | p
            · exact absurd (I.ueq ht.by1 hr (c := c') (by omega) (by omega) g5 (by omega)) y6
            · exact p
            · exact absurd (I.ueq ht.by1 hr (c := c) (by omega) (by omega) y5 (by omega)) g6
          subst ec
          refine ⟨by rw [y2, g2], by rw [y3, g3], ?_⟩
          apply Bool.eq_iff_iff.mpr
          rw [← y7 (c + 1) (by omega) (by omega), ← g7 (c + 1) (by omega) (by omega)]
    have er : S.rooted = (S0.rooted && (true && decide (((lv W (srcT W.c t) : Nat) : Int) = 0))) := by
      apply Bool.eq_iff_iff.mpr
      rw [e3, Bool.true_and, Bool.and_eq_true, decide_eq_true_eq, f3]
      constructor
      · rintro ⟨p1, p2⟩
        have p3 := (ha q (by rw [z1, p1])).mp p2
        refine ⟨⟨?_, p3⟩, by rw [p1, I.lv0]; rfl⟩
        unfold srcT at p1
        split at p1
        · exact p1
        · exfalso
          have := ht.by2
          rw [p1, I.lv0] at this
          have := C.D1
          omega
      · rintro ⟨⟨p1, p2⟩, p3⟩
        have p4 : srcT W.c t = 0 := I.lv_zero hsl (by omega)
        exact ⟨p4, (ha q (by rw [z1, p4])).mpr p2⟩
    have ha1 : askO S0 true = S0.own := rfl
    have ha2 : askC S0 true = S0.common := rfl
    have ha3 : askP S0 true = S0.past := rfl
    rw [ha1, ha2, ha3]
    obtain ⟨m1, m2, m3⟩ := em
    cases S
    simp only at e1 e2 er m1 m2 m3
    rw [e1, e2, er, m1, m2, m3]
  · obtain ⟨z1, z2⟩ := h2 q
    have hlv : ((lv W x.home : Nat) : Int) = min (W.c.life u) (lv W (srcT W.c t) : Nat) := by
      rw [z1, I.lv_min hsl]
      omega
    have hc : ¬ (((lv W (srcT W.c t) : Nat) : Int) < W.c.life u ∧ b.lifted = "nothing") := by
      rintro ⟨p1, p2⟩
      rcases z2 with z2 | z2
      · rw [bl, z2] at p2
        revert p2
        decide +kernel
      · omega
    rw [if_neg q, if_neg hc, ← hlv]
    have hsa : srcT W.c t = up W t.by_ (lv W (srcT W.c t)) := by
      unfold srcT
      split
      · exact ht.home
      · exact up_self.symm
    have hh : x.home = up W t.by_ (lv W x.home) := by
      rw [z1]
      refine I.anc ht.by1 hsa ?_
      rw [ht.by2]
      exact I.le hsl
    obtain ⟨k1, k2⟩ := stand_foll I ht hx hj h0 hS hr lr (by rw [eu]; exact q) hh
    rw [eu] at k1 k2
    by_cases p : S0.own = true ∨ ((lv W x.home : Nat) : Int) ≤ S0.common
    · rw [if_pos (show askO S0 true = true ∨ ((lv W x.home : Nat) : Int) ≤ askC S0 true from p)]
      exact k1 p
    · rw [if_neg (show ¬ (askO S0 true = true ∨ ((lv W x.home : Nat) : Int) ≤ askC S0 true) from p), List.mem_singleton]
      exact k2 p
/-- got at each use -/
theorem foll_each (C : CInv W.c) (I : SInv W) {t x : Thing} (hx : TOk W x) {j r u s : Nat} {S0 S : Stand} {b : Bk} (hj : W.ths[j]? = some x) (hS : StandR W x j r S) (hr : r < W.scs.length) (lr : lv W r = W.c.D)
    (be : b.each = W.c.each) (bl : b.lifted = W.c.lifted) (eu : x.nm = u) (es : s = if W.c.each = "now" then r else 0) (h1 : W.c.life u = -1 → x.home = s ∧ x.by_ = r ∧ ¬ Att W j)
    (h2 : W.c.life u ≠ -1 → x.home = up W s (W.c.life u).toNat ∧ (W.c.lifted = "kept" ∨ W.c.life u ≤ lv W s)) : S ∈ ledL b W.c.D S0 (false, W.c.life u) := by
  have hsl : s < W.scs.length := by
    rw [es]
    split
    · exact hr
    · exact I.pos
  have ea : askL b W.c.D S0 false = (lv W s : Nat) := by
    unfold askL
    rw [be, if_neg (fun z => nomatch z), es]
    by_cases e : W.c.each = "now"
    · rw [if_pos e, if_pos e, lr]
    · rw [if_neg e, if_neg e, I.lv0]
      rfl
  have l1 := C.life _ hx.nm
  rw [eu] at l1
  have ho : askO S0 false = true := rfl
  have hc2 : askC S0 false = 0 := rfl
  have hp : askP S0 false = false := rfl
  unfold ledL
  dsimp only
  rw [ea, ho, hc2, hp]
  by_cases q : W.c.life u = -1
  · rw [if_pos q, List.mem_singleton]
    obtain ⟨z1, z2, z3⟩ := h1 q
    obtain ⟨e1, e2, e3, e4⟩ := hS
    rw [eu, q] at e1
    rw [z1] at e2
    have er : S.rooted = false := by
      cases hb : S.rooted with
      | false => rfl
      | true => exact absurd (e3.mp hb).2 z3
    rcases e4 with ⟨y1, y2, y3, y4⟩ | ⟨y1, _⟩
    · cases S
      simp only at e1 e2 er y2 y3 y4
      rw [e1, e2, er, y2, y3, y4]
      simp
    · exact absurd z2 y1
  · obtain ⟨z1, z2⟩ := h2 q
    have hlv : ((lv W x.home : Nat) : Int) = min (W.c.life u) (lv W s : Nat) := by
      rw [z1, I.lv_min hsl]
      omega
    have hc : ¬ (((lv W s : Nat) : Int) < W.c.life u ∧ b.lifted = "nothing") := by
      rintro ⟨p1, p2⟩
      rcases z2 with z2 | z2
      · rw [bl, z2] at p2
        revert p2
        decide +kernel
      · omega
    rw [if_neg q, if_neg hc, ← hlv, if_pos (.inl rfl)]
    have hsa : s = up W r (lv W s) := by
      rw [es]
      split
      · exact up_self.symm
      · rw [I.lv0, I.up0 hr]
    have hh : x.home = up W r (lv W x.home) := by
      rw [z1]
      refine I.anc hr hsa ?_
      rw [lr]
      exact I.le hsl
    have m := stand_kept I hx hj hS hr lr (by rw [eu]; exact q) hh
    rw [eu] at m
    exact m
/-- a want that gets nothing -/
theorem lack_some {b : Bk} {D u : Int} {S : Stand} {way : Bool} (hl : b.lifted ≠ "kept") (h1 : -1 ≤ u) (h2 : u ≤ D) (ha : askL b D S way < u) : (!(lackL b D S).isEmpty) = true := by
  unfold lackL
  rw [if_neg hl]
  have m : (way, u) ∈ (wantsL D).filter fun q => decide (askL b D S q.1 < q.2) := List.mem_filter.mpr ⟨mem_wantsL.mpr ⟨h1, h2⟩, decide_eq_true ha⟩
  cases e : (wantsL D).filter fun q => decide (askL b D S q.1 < q.2) with
  | nil => rw [e] at m; cases m
  | cons _ _ => rfl
end
end HL

set_option Elab.async false
set_option linter.all false
set_option maxRecDepth 100000
set_option maxHeartbeats 4000000
/-! M2: what a world keeps, how it grows -/
namespace HL
open PySem PySem.Spec PyProof.Rows L2
def BegT (W : WS) (t : Thing) (r : Nat) : Prop := (W.c.life t.nm = -1 → t.home = r ∧ t.by_ = r) ∧ (W.c.life t.nm ≠ -1 → t.home = up W r (W.c.life t.nm).toNat)
structure WrOk (W : WS) (x : Wrk) : Prop where
  nm : x.nm < W.c.n
  req : x.req < W.scs.length
  lev : lv W x.req = W.c.D
  th : W.c.works ≠ "own" → ∃ (k : Nat) (t : Thing), x.th = some k ∧ W.ths[k]? = some t ∧ t.nm = x.nm ∧ BegT W t x.req
  op : W.c.works = "wait" → x.req ∉ W.shut
structure WInv (W : WS) : Prop where
  c : CInv W.c
  s : SInv W
  op : ∀ s x u, W.scs[s]? = some x → x.und = some u → s ∉ W.shut → u ∉ W.shut
  sh0 : 0 ∉ W.shut
  shl : ∀ s, s ∈ W.shut → s < W.scs.length
  t : ∀ (i : Nat) (t : Thing), W.ths[i]? = some t → TOk W t
  q : ∀ i j k, Holds W i k → Holds W j k → i = j
  e1 : ∀ (i : Nat) (t : Thing), W.ths[i]? = some t → W.c.life t.nm ≠ -1 ∨ W.c.ends = "scope" → (t.ended = true ↔ t.home ∈ W.shut)
  e2 : ∀ (i : Nat) (t : Thing), W.ths[i]? = some t → W.c.life t.nm = -1 → W.c.ends = "never" → t.ended = false
  w : ∀ x, x ∈ W.wks → WrOk W x
  wn : (W.wks.map (·.key)).Nodup
  wp : ∀ x, x ∈ W.wks → x.key < W.put
  lk : ∀ k, k ∈ W.loose → ∃ t, W.ths[k]? = some t ∧ W.c.life t.nm = -1
def Full (W : WS) (m : Nat) : Prop := ∀ (i : Nat) (t : Thing), W.ths[i]? = some t → m ≤ t.nm → t.held.length = (hw W.c t.nm).length
/-- the later world knows all the earlier one knew -/
structure Onto (W W' : WS) : Prop where
  c : W'.c = W.c
  sl : W.scs.length ≤ W'.scs.length
  lv : ∀ s, s < W.scs.length → lv W' s = lv W s
  up : ∀ s k, s < W.scs.length → up W' s k = up W s k
  pre : ∀ (k : Nat) (t : Thing), W.ths[k]? = some t → ∃ t', W'.ths[k]? = some t' ∧ t'.nm = t.nm ∧ t'.home = t.home ∧ t'.by_ = t.by_
section
variable {W W' W1 W2 : WS}
theorem lv_congr (h : W'.scs = W.scs) : lv W' = lv W := by
  funext s
  unfold lv
  rw [h]
theorem upN_congr (h : W'.scs = W.scs) : ∀ m s, upN W' m s = upN W m s
  | 0, s => rfl
  | m + 1, s => by
    show upN W' m (pr W' s) = upN W m (pr W s)
    rw [upN_congr h m]
    unfold pr
    rw [h]
theorem up_congr (h : W'.scs = W.scs) : up W' = up W := by
  funext s k
  unfold up
  rw [lv_congr h, upN_congr h]
theorem SInv.congr (I : SInv W) (h : W'.scs = W.scs) (hc : W'.c = W.c) : SInv W' := ⟨by rw [h]; exact I.pos, by rw [h]; exact I.zero, by rw [h, hc]; exact I.und⟩
theorem Onto.mk' (hc : W'.c = W.c) (h : W'.scs = W.scs) (p : ∀ (k : Nat) (t : Thing), W.ths[k]? = some t → ∃ t', W'.ths[k]? = some t' ∧ t'.nm = t.nm ∧ t'.home = t.home ∧ t'.by_ = t.by_) : Onto W W' :=
  ⟨hc, by rw [h]; exact Nat.le_refl _, fun s _ => by rw [lv_congr h], fun s k _ => by rw [up_congr h], p⟩
theorem srcT_lt (I : SInv W) {t : Thing} (h : TOk W t) : srcT W.c t < W.scs.length := by
  unfold srcT
  split
  · exact h.hlt I
  · exact h.by1
theorem HOkG.onto (o : Onto W W') {s b u : Nat} {x : Option Nat} (hs : s < W.scs.length) (h : HOkG W s b u x) : HOkG W' s b u x := by
  cases x with
  | none =>
    show W'.c.lifted ≠ "kept" ∧ (HL.lv W' s : Int) < W'.c.life u
    rw [o.c, o.lv s hs]
    exact h
  | some k =>
    obtain ⟨x, h1, h2, h3, h4⟩ := h
    obtain ⟨x', g1, g2, g3, g4⟩ := o.pre k x h1
    refine ⟨x', g1, by rw [g2]; exact h2, ?_, ?_⟩
    · rw [o.c, g3, g4]
      exact h3
    · rw [o.c, g3, o.up _ _ hs, o.lv _ hs]
      exact h4
theorem TOk.onto (o : Onto W W') (I : SInv W) {t : Thing} (h : TOk W t) : TOk W' t := by
  refine ⟨by rw [o.c]; exact h.nm, Nat.lt_of_lt_of_le h.by1 o.sl, by rw [o.c, o.lv _ h.by1]; exact h.by2, ?_, ?_, ?_⟩
  · rw [o.lv _ (h.hlt I), o.up _ _ h.by1]
    exact h.home
  · rw [o.c, o.lv _ (h.hlt I)]
    exact h.low
  · intro j x hx
    obtain ⟨u, h1, h2⟩ := h.held j x hx
    exact ⟨u, by rw [o.c]; exact h1, by rw [o.c]; exact h2.onto o (srcT_lt I h)⟩
theorem BegT.onto (o : Onto W W') {t t' : Thing} {r : Nat} (hr : r < W.scs.length) (e1 : t'.nm = t.nm) (e2 : t'.home = t.home) (e3 : t'.by_ = t.by_) (h : BegT W t r) : BegT W' t' r := by
  unfold BegT
  rw [o.c, e1, e2, e3, o.up _ _ hr]
  exact h
theorem WrOk.onto (o : Onto W W') {x : Wrk} (h : WrOk W x) (hs : W.c.works = "wait" → x.req ∉ W'.shut) : WrOk W' x := by
  refine ⟨by rw [o.c]; exact h.nm, Nat.lt_of_lt_of_le h.req o.sl, by rw [o.c, o.lv _ h.req]; exact h.lev, ?_, by rw [o.c]; exact hs⟩
  rw [o.c]
  intro q
  obtain ⟨k, t, h1, h2, h3, h4⟩ := h.th q
  obtain ⟨t', g1, g2, g3, g4⟩ := o.pre k t h2
  exact ⟨k, t', h1, g1, by rw [g2]; exact h3, h4.onto o h.req g2 g3 g4⟩
/-! ### the held ones of a thing -/
theorem hwt_mem {l : List (Bool × Nat)} {u : Nat} (h : u ∈ hwt l) : (true, u) ∈ l := by
  obtain ⟨q, h1, h2⟩ := List.mem_map.mp h
  obtain ⟨h3, h4⟩ := List.mem_filter.mp h1
  obtain ⟨a, b⟩ := q
  simp only at h2 h4
  rw [← h2, ← h4]
  exact h3
theorem CInv.hw (C : CInv W.c) {i j u : Nat} (hi : i < W.c.n) (h : (hw W.c i)[j]? = some u) : i < u ∧ u < W.c.n := C.wants i hi _ (hwt_mem (List.mem_of_getElem? h))
theorem WInv.holds_lt (h : WInv W) {i k : Nat} (q : Holds W i k) : k < W.ths.length := by
  obtain ⟨t, j, u, h1, h2, h3, h4⟩ := q
  obtain ⟨u', g1, x, g2, _⟩ := (h.t i t h1).held j _ h3
  exact (List.getElem?_eq_some_iff.mp g2).1
/-- what is held is a thing of the want's name -/
theorem WInv.held_at (h : WInv W) {i k : Nat} {t : Thing} (h1 : W.ths[i]? = some t) (hk : some k ∈ t.held) : ∃ (j u : Nat) (x : Thing), (hw W.c t.nm)[j]? = some u ∧ t.held[j]? = some (some k) ∧ W.ths[k]? = some x ∧ x.nm = u ∧ t.nm < u ∧ u < W.c.n ∧ (W.c.life u = -1 → x.home = srcT W.c t ∧ x.by_ = t.by_) := by
  obtain ⟨j, hj, e⟩ := List.getElem_of_mem hk
  have hj2 : t.held[j]? = some (some k) := by rw [List.getElem?_eq_getElem hj, e]
  have ok := h.t i t h1
  obtain ⟨u, g1, x, g2, g3, g4, _⟩ := ok.held j _ hj2
  obtain ⟨z1, z2⟩ := h.c.hw ok.nm g1
  exact ⟨j, u, x, g1, hj2, g2, g3, z1, z2, g4⟩
/-- the one holder of a thing for one use is attached, or it is not -/
theorem att_holder (h : WInv W) {i k : Nat} (q : Holds W i k) : Att W k ↔ Att W i := by
  obtain ⟨t, j, u, h1, h2, h3, h4⟩ := id q
  constructor
  · intro a
    cases a with
    | base _ x g1 g2 g3 =>
      exfalso
      obtain ⟨u', e1, y, e2, e3, _⟩ := (h.t i t h1).held j _ h3
      rw [h2] at e1
      cases e1
      rw [g1] at e2
      cases e2
      rw [e3] at g3
      exact g3 h4
    | step _ i' t' g1 g2 a =>
      obtain ⟨j', u', x', e1, e2, e3, e4, _⟩ := h.held_at g1 g2
      obtain ⟨u2, f1, y, f2, f3, _⟩ := (h.t i t h1).held j _ h3
      rw [h2] at f1
      cases f1
      rw [e3] at f2
      cases f2
      have : Holds W i' k := ⟨t', j', u', g1, e1, e2, by rw [← e4, f3]; exact h4⟩
      rw [h.q i i' k q this]
      exact a
  · intro a
    exact .step k i t h1 (List.mem_of_getElem? h3) a
/-! ### growing -/
structure Grow (W W' : WS) (m : Nat) : Prop where
  c : W'.c = W.c
  scs : W'.scs = W.scs
  shut : W'.shut = W.shut
  wks : W'.wks = W.wks
  put : W'.put = W.put
  lo : W'.lo = W.lo
  told : W'.told = W.told
  deeds : W'.deeds = W.deeds
  line : W'.line = W.line
  pre : ∀ (i : Nat) (t : Thing), W.ths[i]? = some t → W'.ths[i]? = some t
  new1 : ∀ (i : Nat) (t : Thing), W.ths.length ≤ i → W'.ths[i]? = some t → m ≤ t.nm ∧ t.held.length = (hw W.c t.nm).length
  new2 : ∀ i k, W.ths.length ≤ i → Holds W' i k → W.ths.length ≤ k
structure Sz (W W' : WS) (x : Nat) : Prop where
  t : W'.ths.length ≤ W.ths.length + x
  f : W'.fau.length ≤ W.fau.length + x
  l : W'.loose.length ≤ W.loose.length + x
theorem Sz.refl : Sz W W 0 := ⟨by omega, by omega, by omega⟩
theorem Sz.trans {x y : Nat} (a : Sz W W1 x) (b : Sz W1 W2 y) : Sz W W2 (x + y) := ⟨by have := a.t; have := b.t; omega, by have := a.f; have := b.f; omega, by have := a.l; have := b.l; omega⟩
theorem Sz.mono {x y : Nat} (a : Sz W W1 x) (h : x ≤ y) : Sz W W1 y := ⟨by have := a.t; omega, by have := a.f; omega, by have := a.l; omega⟩
theorem lt_of_get {α : Type} {l : List α} {i : Nat} {x : α} (h : l[i]? = some x) : i < l.length := (List.getElem?_eq_some_iff.mp h).1
theorem Grow.len {m : Nat} (g : Grow W W' m) : W.ths.length ≤ W'.ths.length := by
  rcases Nat.eq_zero_or_pos W.ths.length with e | e
  · omega
  · have h1 : W.ths.length - 1 < W.ths.length := by omega
    have := lt_of_get (g.pre _ _ (List.getElem?_eq_getElem h1))
    omega
theorem Grow.refl {m : Nat} : Grow W W m :=
  ⟨rfl, rfl, rfl, rfl, rfl, rfl, rfl, rfl, rfl, fun _ _ h => h, fun i t h1 h2 => absurd (lt_of_get h2) (by omega), fun i k h1 ⟨t, _, _, h2, _⟩ => absurd (lt_of_get h2) (by omega)⟩
theorem Grow.mono {m m' : Nat} (g : Grow W W' m) (h : m' ≤ m) : Grow W W' m' := { g with new1 := fun i t h1 h2 => ⟨Nat.le_trans h (g.new1 i t h1 h2).1, (g.new1 i t h1 h2).2⟩ }
theorem Grow.back {m : Nat} (g : Grow W W' m) {i : Nat} {t : Thing} (hi : i < W.ths.length) (h : W'.ths[i]? = some t) : W.ths[i]? = some t := by
  have e := List.getElem?_eq_getElem hi
  have := g.pre _ _ e
  rw [h] at this
  rw [e, this]
theorem Grow.holds {m : Nat} (g : Grow W W' m) {i k : Nat} (hi : i < W.ths.length) (h : Holds W' i k) : Holds W i k := by
  obtain ⟨t, j, u, h1, h2, h3, h4⟩ := h
  rw [g.c] at h2 h4
  exact ⟨t, j, u, g.back hi h1, h2, h3, h4⟩
theorem Grow.trans {m : Nat} (a : Grow W W1 m) (b : Grow W1 W2 m) : Grow W W2 m := by
  refine ⟨b.c.trans a.c, b.scs.trans a.scs, b.shut.trans a.shut, b.wks.trans a.wks, b.put.trans a.put, b.lo.trans a.lo, b.told.trans a.told, b.deeds.trans a.deeds, b.line.trans a.line, fun i t h => b.pre i t (a.pre i t h), fun i t h1 h2 => ?_, fun i k h1 h2 => ?_⟩
  · rcases Nat.lt_or_ge i W1.ths.length with q | q
    · exact a.new1 i t h1 (b.back q h2)
    · have := b.new1 i t q h2
      rw [a.c] at this
      exact this
  · rcases Nat.lt_or_ge i W1.ths.length with q | q
    · exact a.new2 i k h1 (b.holds q h2)
    · have := b.new2 i k q h2
      have := a.len
      omega
theorem Grow.onto {m : Nat} (g : Grow W W' m) : Onto W W' := .mk' g.c g.scs fun k t h => ⟨t, g.pre k t h, rfl, rfl, rfl⟩
theorem Full.grow {m m' : Nat} (h : Full W m) (g : Grow W W' m') : Full W' m := fun i t h1 h2 => by
  rw [g.c]
  rcases Nat.lt_or_ge i W.ths.length with q | q
  · exact h i t (g.back q h1) h2
  · exact (g.new1 i t q h1).2
theorem Full.mono {m m' : Nat} (h : Full W m) (l : m ≤ m') : Full W m' := fun i t h1 h2 => h i t h1 (Nat.le_trans l h2)
/-- a thing that is new and of the first name is not held -/
theorem unheld {m : Nat} (g : Grow W W' m) (h : WInv W) (h' : WInv W') {k : Nat} {x : Thing} (hk : W.ths.length ≤ k) (hx : W'.ths[k]? = some x) (en : x.nm = m) (i : Nat) : ¬ Holds W' i k := fun q => by
  rcases Nat.lt_or_ge i W.ths.length with z | z
  · have := h.holds_lt (g.holds z q)
    omega
  · obtain ⟨t, j, u, h1, h2, h3, h4⟩ := q
    obtain ⟨u', g1, y, g2, g3, _⟩ := (h'.t i t h1).held j _ h3
    rw [h2] at g1
    cases g1
    rw [hx] at g2
    cases g2
    have := (g.new1 i t z h1).1
    have := (h'.c.hw (h'.t i t h1).nm h2).1
    omega
theorem not_att (h : WInv W) {k : Nat} {x : Thing} (hx : W.ths[k]? = some x) (hl : W.c.life x.nm = -1) (hu : ∀ i, ¬ Holds W i k) : ¬ Att W k := fun a => by
  cases a with
  | base _ y g1 g2 g3 =>
    rw [hx] at g1
    cases g1
    exact g3 hl
  | step _ i t g1 g2 _ =>
    obtain ⟨j, u, y, e1, e2, e3, e4, _⟩ := h.held_at g1 g2
    rw [hx] at e3
    cases e3
    exact hu i ⟨t, j, u, g1, e1, e2, by rw [← e4]; exact hl⟩
theorem att_up {m : Nat} (g : Grow W W' m) {k : Nat} (a : Att W k) : Att W' k := by
  induction a with
  | base k t h h0 hl => exact .base k t (g.pre _ _ h) h0 (by rw [g.c]; exact hl)
  | step k i t h hk _ ih => exact .step k i t (g.pre _ _ h) hk ih
theorem att_down {m : Nat} (g : Grow W W' m) (h : WInv W) (h' : WInv W') {k : Nat} (a : Att W' k) : ∀ t, W.ths[k]? = some t → t.home = 0 → Att W k := by
  induction a with
  | base k t' g1 g2 g3 =>
    intro t e1 e2
    have := g.pre _ _ e1
    rw [g1] at this
    cases this
    exact .base k t' e1 g2 (by rw [g.c] at g3; exact g3)
  | step k i t' g1 g2 _ ih =>
    intro t e1 e2
    by_cases hl : W.c.life t.nm = -1
    · obtain ⟨j, u, y, f1, f2, f3, f4, f5, f6, f7⟩ := h'.held_at g1 g2
      rw [g.pre _ _ e1] at f3
      cases f3
      have hh : Holds W' i k := ⟨t', j, u, g1, f1, f2, by rw [g.c, ← f4]; exact hl⟩
      have hi : i < W.ths.length := by
        rcases Nat.lt_or_ge i W.ths.length with z | z
        · exact z
        · have := g.new2 i k z hh
          have := lt_of_get e1
          omega
      have b := g.back hi g1
      refine .step k i t' b g2 (ih t' b ?_)
      obtain ⟨p1, p2⟩ := f7 (by rw [g.c, ← f4]; exact hl)
      rw [e2] at p1
      unfold srcT at p1
      split at p1
      · exact p1.symm
      · exfalso
        have z := (h.t i t' b).by2
        rw [← p1, h.s.lv0] at z
        have := h.c.D1
        omega
    · exact .base k t e1 e2 hl
theorem StandR.grow {m : Nat} (g : Grow W W' m) (h : WInv W) (h' : WInv W') {t : Thing} {k r : Nat} {S : Stand} (hk : W.ths[k]? = some t) (q : StandR W t k r S) : StandR W' t k r S := by
  obtain ⟨q1, q2, q3, q4⟩ := q
  refine ⟨by rw [g.c]; exact q1, by rw [lv_congr g.scs]; exact q2, ?_, ?_⟩
  · rw [q3]
    constructor
    · rintro ⟨a, b⟩
      exact ⟨a, att_up g b⟩
    · rintro ⟨a, b⟩
      exact ⟨a, att_down g h h' b t hk a⟩
  · rw [up_congr g.scs, g.c, g.shut]
    exact q4
/-- pieces that no law of the world names -/
theorem WInv.misc (h : WInv W) (e1 : W'.c = W.c) (e2 : W'.scs = W.scs) (e3 : W'.shut = W.shut) (e4 : W'.ths = W.ths) (e5 : W'.wks = W.wks) (e6 : W'.put = W.put) (hl : ∀ k, k ∈ W'.loose → ∃ t, W.ths[k]? = some t ∧ W.c.life t.nm = -1) : WInv W' := by
  have o : Onto W W' := .mk' e1 e2 fun k t z => ⟨t, by rw [e4]; exact z, rfl, rfl, rfl⟩
  have hh : ∀ i k, Holds W' i k → Holds W i k := fun i k ⟨t, j, u, z⟩ => ⟨t, j, u, by rw [e4, e1] at z; exact z⟩
  exact ⟨by rw [e1]; exact h.c, h.s.congr e2 e1, by rw [e2, e3]; exact h.op, by rw [e3]; exact h.sh0, by rw [e2, e3]; exact h.shl, fun i t z => (h.t i t (by rw [e4] at z; exact z)).onto o h.s,
    fun i j k a b => h.q i j k (hh _ _ a) (hh _ _ b), fun i t z => by rw [e1, e3]; exact h.e1 i t (by rw [e4] at z; exact z), fun i t z => by rw [e1]; exact h.e2 i t (by rw [e4] at z; exact z),
    fun x z => by rw [e5] at z; exact (h.w x z).onto o fun q => by rw [e3]; exact (h.w x z).op q, by rw [e5]; exact h.wn, fun x z => by rw [e5] at z; rw [e6]; exact h.wp x z, fun k z => by rw [e4, e1]; exact hl k z⟩
end
end HL

set_option Elab.async false
set_option linter.all false
set_option maxRecDepth 100000
set_option maxHeartbeats 4000000
/-! W5: defs that read the world -/
namespace HL
open PySem PySem.Spec PyProof.Rows L2
section
variable {K : PySem.W.Frag} {σ : L2.St} {H : Hp} {Q : VK} {W : WS}
theorem rdPart {i j x : Nat} (hs : σ[i]? = some (some (.ref W.c.w))) (hn : σ[j]? = some (some (.str (nm x)))) (h : WAt H W) (hx : x < W.c.n) (q : Q (.ref (W.c.pA x)) H) : tDGet (tDGet (tVar i) (tC (.str "model"))) (tVar j) σ H Q :=
  rdW hs h (wk_model W) ⟨_, hn, _, _, rfl, dget_of (k := .inr (nm x)) (h.st _ _ .mo) (mo_at _ hx), q⟩
theorem sqPart {x : Nat} (h : WAt H W) (hx : x < W.c.n) : SqT K H (W.c.pA x) [.int (W.c.life x), .ref (W.c.wA x)] := SqT.of (h.st _ _ (.part x hx))
theorem sqTh (h : WAt H W) : SqL K H W.c.th (W.ths.map fun t => .ref t.ad) := SqL.of h.hth
theorem th_at {k : Nat} {t : Thing} (h : W.ths[k]? = some t) : (W.ths.map fun t => V.ref t.ad)[k]? = some (.ref t.ad) := by
  rw [List.getElem?_map, h]
  rfl
theorem th_mem {k : Nat} {t : Thing} (h : W.ths[k]? = some t) : t ∈ W.ths := List.mem_of_getElem? h
/-- things[k] -/
theorem rdTh {i j k : Nat} {t : Thing} (hs : σ[i]? = some (some (.ref W.c.w))) (hk : σ[j]? = some (some (natV k))) (h : WAt H W) (ht : W.ths[k]? = some t) (q : Q (.ref t.ad) H) : tOp (rIxL K) (tDGet (tVar i) (tC (.str "things"))) (tVar j) σ H Q :=
  rdW hs h (wk_things W) ⟨_, hk, _, _, _, _, rfl, rfl, sqTh h, atI_nat (th_at ht), q⟩
/-- things[k][x] -/
theorem rdThF {i j k : Nat} {x : Str} {t : Thing} {v : V} (hs : σ[i]? = some (some (.ref W.c.w))) (hk : σ[j]? = some (some (natV k))) (h : WAt H W) (ht : W.ths[k]? = some t) (hv : valV (thkv t) (.inr x) = some v) (q : Q v H) :
    tDGet (tOp (rIxL K) (tDGet (tVar i) (tC (.str "things"))) (tVar j)) (tC (.str x)) σ H Q :=
  rdTh hs hk h ht ⟨_, _, rfl, dget_of (k := .inr x) (h.htt (th_mem ht)) hv, q⟩
end
section
variable {P : Program} {w : World} {K : PySem.W.Frag} {mg : Str → Option Value} {base : Heap}
def spotO (W : WS) (i s : Nat) : Option Nat := if (lv W s : Int) < W.c.life i ∧ W.c.lifted ≠ "kept" then none else some (up W s (W.c.life i).toNat)
def spSpot : Sp := fun vs H Q _ => ∃ (W : WS) (i s : Nat), vs = [.ref W.c.w, .str (nm i), natV s] ∧ WAt H W ∧ SInv W ∧ i < W.c.n ∧ s < W.scs.length ∧ 0 ≤ W.c.life i ∧ Q (optV (spotO W i s)) H
theorem ok_spot (T : Txt K mg) : OKF P w K mg base 2 "_law_spot" P_law_spot spSpot := by
  have G_law_up := ok_up (P := P) (w := w) (base := base) T
  refine okf T.f_law_spot sc_law_spot (fun _ _ _ _ _ _ us hl => match us, hl with | [_, _, _], _ => rfl) (fun vs H Q E h => ?_) (fun cdv A outer s H vs Q E hr h => ⟨_, (pss_cons (ps_par (i := 3) (j := 4) (by rfl) sc_law_spot.nd rfl rfl (by decide) rfl rfl (pa_cons (pe_ix (ixT K) (pe_dget (hu_of hr) (pe_dget (hu_of hr) (pv 0) pe_str (fun _ _ => rfl)) (pv 1) (fun _ _ => rfl)) pe_int (fun _ _ => rfl)) (pa_cons (pe_ix (ixT K) (pe_dget (hu_of hr) (pe_dget (hu_of hr) (pv 0) pe_str (fun _ _ => rfl)) (pv 2) (fun _ _ => rfl)) pe_int (fun _ _ => rfl)) pa_nil)) (by rfl))
    (pss_cons (ps_if (pt_cmpR op_lt (pv 4) (pv 3) (nomark _)) (pss_one (ps_ret (pe_ifExp (pt_cmpR op_eq (pe_dget (hu_of hr) (pe_dget (hu_of hr) (pv 0) pe_str (fun _ _ => rfl)) pe_str (fun _ _ => rfl)) pe_str (nomark _)) (pv 2) pe_non))) pss_nil)
    (pss_one (ps_ret (pe_callK K G_law_up (hr.mono (by omega)) (by rfl) (pa_cons (pv 0) (pa_cons (pv 2) (pa_cons (pv 3) pa_nil)))))))), ?_⟩)
  · obtain ⟨W, i, s, rfl, _⟩ := h
    rfl
  · obtain ⟨W, i, s, rfl, hW, I, hi, hs, hl, q⟩ := h
    obtain ⟨x, hx⟩ := scp_of hs
    refine rdPart rfl rfl hW hi ⟨_, _, 0, _, rfl, rfl, sqPart hW hi, rfl, ?_⟩
    refine rdW rfl hW (wk_scopes W) ⟨_, rfl, _, _, rfl, dscope hW hx, ?_⟩
    refine ⟨_, _, 0, _, rfl, rfl, tscope hW hx, rfl, ?_⟩
    refine ⟨_, _, rfl, _, rfl, _, rfl, _, _, rfl, rfl, _, rfl, ?_⟩
    have ex := lv_of hx
    refine ite2 (fun c => ?_) (fun c => ?_)
    · have c1 : (lv W s : Int) < W.c.life i := by
        have c2 : ((x.lev : Nat) : Int) < W.c.life i := of_decide_eq_true c
        omega
      refine rdF rfl hW (fl_lifted _) ⟨rfl, _, rfl, ?_⟩
      rw [decstr]
      refine ite2 (fun d => ?_) (fun d => ?_)
      · refine ⟨_, rfl, ?_⟩
        have e : spotO W i s = some s := by
          unfold spotO
          rw [if_neg (fun z => z.2 (of_decide_eq_true d)), up_ge (by omega)]
        rw [e] at q
        exact q
      · have e : spotO W i s = none := by
          unfold spotO
          rw [if_pos ⟨c1, fun z => d (decide_eq_true z)⟩]
        rw [e] at q
        exact q
    · have c1 : ¬ (lv W s : Int) < W.c.life i := fun z => c (decide_eq_true (show ((x.lev : Nat) : Int) < W.c.life i by omega))
      have e : spotO W i s = some (up W s (W.c.life i).toNat) := by
        unfold spotO
        rw [if_neg (fun z => c1 z.1)]
      rw [e] at q
      refine ⟨_, rfl, _, rfl, _, rfl, W, s, (W.c.life i).toNat, ?_, hW, I, hs, q⟩
      have e2 : W.c.life i = (((W.c.life i).toNat : Nat) : Int) := by omega
      conv => lhs; rw [e2]
      rfl
def spIsUse : Sp := fun vs H Q _ => ∃ (W : WS) (k : Nat) (t : Thing), vs = [.ref W.c.w, natV k] ∧ WAt H W ∧ W.ths[k]? = some t ∧ t.nm < W.c.n ∧ Q (.bl (decide (W.c.life t.nm = -1))) H
theorem ok_is_use (T : Txt K mg) : OKF P w K mg base 1 "_law_is_use" P_law_is_use spIsUse := by
  refine okf T.f_law_is_use sc_law_is_use (fun _ _ _ _ _ _ us hl => match us, hl with | [_, _], _ => rfl) (fun vs H Q E h => ?_) (fun cdv A outer s H vs Q E hr h => ⟨_, (pss_one (ps_ret (pe_cmpR op_eq (pe_ix (ixT K) (pe_dget (hu_of hr) (pe_dget (hu_of hr) (pv 0) pe_str (fun _ _ => rfl)) (pe_dget (hu_of hr) (pe_ix (ixL K) (pe_dget (hu_of hr) (pv 0) pe_str (fun _ _ => rfl)) (pv 1) (fun _ _ => rfl)) pe_str (fun _ _ => rfl)) (fun _ _ => rfl)) pe_int (fun _ _ => rfl)) (pe_un un_neg pe_int) (nomark _)))), ?_⟩)
  · obtain ⟨W, k, t, rfl, _⟩ := h
    rfl
  · obtain ⟨W, k, t, rfl, hW, ht, hn, q⟩ := h
    refine rdW rfl hW (wk_model W) (rdThF rfl rfl hW ht (tk_name t) ⟨_, _, rfl, dget_of (k := .inr (nm t.nm)) (hW.st _ _ .mo) (mo_at _ hn), ?_⟩)
    refine ⟨_, _, 0, _, rfl, rfl, sqPart hW hn, rfl, ?_⟩
    refine ⟨_, rfl, rfl, ?_⟩
    have e : decide (V.int (W.c.life t.nm) = V.int (-1)) = decide (W.c.life t.nm = -1) := decint
    exact e ▸ q
theorem nm_ok {i : Nat} (h : i < 6) : PyData.strOk (nm i) = true := by
  have e : i = 0 ∨ i = 1 ∨ i = 2 ∨ i = 3 ∨ i = 4 ∨ i = 5 := by omega
  rcases e with rfl | rfl | rfl | rfl | rfl | rfl <;> decide +kernel
theorem sh2 {i s : Nat} (h : i < 6) : SeqAt.shaped (.tuple [.str (nm i), .int s]) = true := by
  obtain ⟨h1, h2⟩ : Flat1 (.tuple [.str (nm i), .int s]) := flat_tup fun d hd => by
    simp only [List.mem_cons, List.not_mem_nil, or_false] at hd
    rcases hd with rfl | rfl
    · exact ⟨by unfold PyData.canLay0; exact nm_ok h, by unfold PyData.depth; rfl⟩
    · exact ⟨by unfold PyData.canLay0; rfl, by unfold PyData.depth; rfl⟩
  unfold SeqAt.shaped
  rw [h1, decide_eq_true (by omega)]
  rfl
theorem eqv2 {a b i s : Nat} : PyData.eqv (.tuple [.str (nm a), .int b]) (.tuple [.str (nm i), .int s]) = decide (a = i ∧ b = s) := by
  have e : PyData.eqv (.tuple [.str (nm a), .int b]) (.tuple [.str (nm i), .int s]) = ((nm a == nm i) && (((b : Int) == (s : Int)) && true)) := by
    simp only [PyData.eqv, PyData.eqvAll]
  rw [e]
  apply Bool.eq_iff_iff.mpr
  simp only [Bool.and_eq_true, beq_iff_eq, decide_eq_true_eq, and_true]
  constructor
  · rintro ⟨h1, h2⟩
    exact ⟨nm_inj h1, by omega⟩
  · rintro ⟨rfl, rfl⟩
    exact ⟨rfl, rfl⟩
def spThere : Sp := fun vs H Q _ => ∃ (W : WS) (i s : Nat), vs = [.ref W.c.w, .str (nm i), natV s] ∧ WAt H W ∧ i < 6 ∧ (∀ t ∈ W.ths, t.nm < 6) ∧ W.ths.length ≤ 1000000 ∧
  ∀ (H' : Hp) (o : Option Nat), Same H H' → (o = none → ∀ t ∈ W.ths, ¬ (t.nm = i ∧ t.home = s)) → (∀ k, o = some k → ∃ t, W.ths[k]? = some t ∧ t.nm = i ∧ t.home = s) → Q (optV o) H'
theorem ok_there (T : Txt K mg) : OKF P w K mg base 1 "_law_there" P_law_there spThere := by
  refine okf T.f_law_there sc_law_there (fun _ _ _ _ _ _ us hl => match us, hl with | [_, _, _], _ => rfl) (fun vs H Q E h => ?_) (fun cdv A outer s H vs Q E hr h => ⟨_, (pss_cons (ps_set (i := 3) sc_law_there.nd rfl (Or.inr rfl) (pe_dget (hu_of hr) (pv 0) pe_str (fun _ _ => rfl)))
    (pss_cons (ps_setLc (i := 4) (own := [("_law_k", 5)]) (g := (gName 5)) rfl sc_law_there.nd rfl rfl (sw_true rfl rfl rfl (by decide +kernel)) (pi_range1 (by rfl) T.b_range (pa_cons (pe_callB (lenS K) (by rfl) T.b_len (by decide +kernel) (pa_cons (pv 3) pa_nil)) pa_nil)) (blkOk_by (own := [("_law_k", 5)]) (N := N_law_there) (sc := defScope s_law_there) (by decide +kernel)) (fun _ _ _ _ _ => (pg_name (i := 5) sc_law_there.nd rfl (by first | exact Or.inl rfl | exact Or.inr rfl) (by first | exact .inl rfl | exact .inr rfl))) (fun _ _ _ _ _ => (pts_one (pt_cmpR (eqD K hr.units) (pe_tup (pa_cons (pe_dget (hu_of hr) (pe_ix (ixL K) (pv 3) (pv 5) (fun _ _ => rfl)) pe_str (fun _ _ => rfl)) (pa_cons (pe_dget (hu_of hr) (pe_ix (ixL K) (pv 3) (pv 5) (fun _ _ => rfl)) pe_str (fun _ _ => rfl)) pa_nil))) (pe_tup (pa_cons (pv 1) (pa_cons (pv 2) pa_nil))) (nomark _)))) (fun _ _ _ _ _ => (pv 5)))
    (pss_one (ps_ret (pe_ifExp (pt_cmpR (neD K hr.units) (pv 4) (pe_lst pa_nil) (nomark _)) (pe_ix (ixL K) (pv 4) pe_int (fun _ _ => rfl)) pe_non))))), ?_⟩)
  · obtain ⟨W, i, s, rfl, _⟩ := h
    rfl
  · obtain ⟨W, i, s, rfl, hW, hi, hn, hz, q⟩ := h
    refine rdW rfl hW (wk_things W) ⟨_, rfl, _, _, rfl, .inl (sqTh hW), _, rfl, by rw [List.length_map]; omega, by rw [List.length_map]; omega, fun D nD => ?_⟩
    have hn0 : ((W.ths.map fun t => V.ref t.ad).length : Int).toNat = W.ths.length := by rw [List.length_map]; omega
    rw [hn0]
    refine lc_range (fun j H' => ∃ L : List Nat, H' D = some (.lst (L.map natV)) ∧ L.length ≤ j ∧ KeepD D H H' ∧ ∀ k, k ∈ L ↔ k < j ∧ ∃ t, W.ths[k]? = some t ∧ t.nm = i ∧ t.home = s)
      ⟨[], upd_same, Nat.le_refl _, KeepD.of (same_new nD), fun k => ⟨(fun z => nomatch z), (fun z => absurd z.1 (by omega))⟩⟩ ?_ ?_
    · rintro j H1 hj ⟨L, e1, e2, e3, e4⟩
      have ht := List.getElem?_eq_getElem hj
      have sH := e3.same nD
      have hW1 := hW.same sH
      generalize W.ths[j] = t at ht
      refine ⟨rfl, ?_⟩
      rw [Int.zero_add]
      refine ⟨_, rfl, _, rfl, _, _, _, _, rfl, rfl, sqTh hW1, atI_nat (th_at ht), _, _, rfl, dget_of (k := .inr "name") (hW1.htt (th_mem ht)) (tk_name t), ?_⟩
      refine ⟨_, rfl, _, rfl, _, _, _, _, rfl, rfl, sqTh hW1, atI_nat (th_at ht), _, _, rfl, dget_of (k := .inr "home") (hW1.htt (th_mem ht)) (tk_home t), szl, fun p np => ?_⟩
      refine ⟨_, rfl, _, rfl, szl, fun r nr => ?_⟩
      have s1 := same_new (o := .tup [.str (nm t.nm), natV t.home]) np
      have s2 := same_new (o := .tup [.str (nm i), natV s]) nr
      refine ⟨.tuple [.str (nm t.nm), .int t.home], .tuple [.str (nm i), .int s], .tup (SqT.of (s2 _ _ upd_same)) (.cons (.str _) (.cons (.int _) .nil)), .tup (SqT.of upd_same) (.cons (.str _) (.cons (.int _) .nil)), sh2 (hn t (th_mem ht)), sh2 hi, _, rfl, ?_⟩
      rw [eqv2]
      have nDp : D ≠ p := ne_of_none e1 np
      have nDr : D ≠ r := ne_of_none (s1 _ _ e1) nr
      have k3 : KeepD D H (upd (upd H1 p (.tup [.str (nm t.nm), natV t.home])) r (.tup [.str (nm i), natV s])) := e3.trans (KeepD.of (s1.trans s2))
      refine ite2 (fun c => ?_) (fun c => ?_)
      · have c1 := of_decide_eq_true c
        refine ⟨_, rfl, _, by rw [upd_ne nDr, upd_ne nDp]; exact e1, by rw [List.length_map]; have := sizeLine_eq; omega, L ++ [j], by rw [upd_same, List.map_append]; rfl, by simp; omega, k3.trans KeepD.upd, fun k => ?_⟩
        rw [List.mem_append, e4, List.mem_singleton]
        constructor
        · rintro (⟨z1, z2⟩ | rfl)
          · exact ⟨by omega, z2⟩
          · exact ⟨by omega, t, ht, c1⟩
        · rintro ⟨z1, z2⟩
          rcases Nat.lt_or_ge k j with z | z
          · exact .inl ⟨z, z2⟩
          · exact .inr (by omega)
      · refine ⟨L, by rw [upd_ne nDr, upd_ne nDp]; exact e1, by omega, k3, fun k => ?_⟩
        rw [e4]
        constructor
        · rintro ⟨z1, z2⟩
          exact ⟨by omega, z2⟩
        · rintro ⟨z1, t', z2, z3⟩
          rcases Nat.lt_or_ge k j with z | z
          · exact ⟨z, t', z2, z3⟩
          · have : k = j := by omega
            subst this
            rw [ht] at z2
            cases z2
            exact absurd (decide_eq_true z3) c
    · rintro H1 ⟨L, e1, e2, e3, e4⟩
      have sH := e3.same nD
      refine ⟨_, rfl, szl, fun l nl => rd_ne0 (f := natV) (fun k => .int k) (l := L) (same_new nl _ _ e1) upd_same (fun k _ => .int _) (fun k _ => flat_int _) ⟨_, rfl, ?_⟩⟩
      have s2 := sH.trans (same_new (o := .lst []) nl)
      cases L with
      | nil => exact q _ none s2 (fun _ t ht z => by
          obtain ⟨k, hk, e⟩ := List.getElem_of_mem ht
          have := (e4 k).mpr ⟨hk, t, by rw [List.getElem?_eq_getElem hk, e], z⟩
          cases this) (fun k z => nomatch z)
      | cons k L =>
        refine ⟨_, rfl, _, _, 0, _, rfl, rfl, SqL.of (same_new nl _ _ e1), atI_nat (j := 0) (v := natV k) rfl, ?_⟩
        refine q _ (some k) s2 (fun z => nomatch z) (fun k' z => ?_)
        cases z
        obtain ⟨_, t, h1, h2, h3⟩ := (e4 k).mp (List.mem_cons_self ..)
        exact ⟨t, h1, h2, h3⟩
end
end HL

set_option Elab.async false
set_option linter.all false
set_option maxRecDepth 100000
set_option maxHeartbeats 4000000
/-! W6: open scopes, requests, attached things -/
namespace HL
open PySem PySem.Spec PyProof.Rows L2
theorem natV_eqV {a b : Nat} : eqV (natV a) (natV b) = decide (a = b) := by
  show ((a : Int) == (b : Int)) = decide (a = b)
  apply Bool.eq_iff_iff.mpr
  rw [beq_iff_eq, decide_eq_true_eq]
  omega
theorem inV_nat {s : Nat} {l : List Nat} : inV (natV s) (l.map natV) = decide (s ∈ l) := by
  unfold inV
  rw [List.any_map]
  apply Bool.eq_iff_iff.mpr
  rw [List.any_eq_true, decide_eq_true_eq]
  constructor
  · rintro ⟨x, hx, e⟩
    simp only [Function.comp_apply, natV_eqV, decide_eq_true_eq] at e
    rw [← e]
    exact hx
  · intro h
    exact ⟨s, h, by simp [natV_eqV]⟩
theorem flat_nat {l : List Nat} : (l.map natV).all flatV = true := by
  rw [List.all_eq_true]
  intro v hv
  obtain ⟨x, _, rfl⟩ := List.mem_map.mp hv
  rfl
theorem inV_opt {s : Nat} {l : List (Option Nat)} : inV (natV s) (l.map optV) = decide (some s ∈ l) := by
  unfold inV
  rw [List.any_map]
  apply Bool.eq_iff_iff.mpr
  rw [List.any_eq_true, decide_eq_true_eq]
  constructor
  · rintro ⟨x, hx, e⟩
    cases x with
    | none => exact absurd e (by simp [optV, natV, eqV])
    | some y =>
      have e2 : eqV (natV y) (natV s) = true := e
      rw [natV_eqV, decide_eq_true_eq] at e2
      rw [← e2]
      exact hx
  · intro h
    exact ⟨some s, h, by show eqV (natV s) (natV s) = true; simp [natV_eqV]⟩
theorem flat_opt {l : List (Option Nat)} : (l.map optV).all flatV = true := by
  rw [List.all_eq_true]
  intro v hv
  obtain ⟨x, _, rfl⟩ := List.mem_map.mp hv
  cases x <;> rfl
theorem sckv_keys_aux : ∀ (l : List Scp) (j : Nat), ((l.zipIdx j).map fun p => ((.inl (p.2 : Int) : Key), V.ref p.1.ad)).map (·.1) = ((List.range' j l.length).map fun (i : Nat) => (i : Int)).map Sum.inl
  | [], j => rfl
  | x :: l, j => by
    rw [List.zipIdx_cons, List.map_cons, List.map_cons, sckv_keys_aux l (j + 1), List.length_cons, List.range'_succ, List.map_cons, List.map_cons]
theorem sckv_keys (l : List Scp) : (sckv l).map (·.1) = ((List.range l.length).map fun (i : Nat) => (i : Int)).map Sum.inl := by
  rw [List.range_eq_range']
  exact sckv_keys_aux l 0
theorem perm_nats {ys : List Int} {l : List Nat} (h : ys.Perm (l.map fun (i : Nat) => (i : Int))) : ∃ L : List Nat, ys = L.map (fun (i : Nat) => (i : Int)) ∧ ∀ x, x ∈ L ↔ x ∈ l := by
  refine ⟨ys.map Int.toNat, ?_, fun x => ?_⟩
  · rw [List.map_map]
    conv => lhs; rw [← List.map_id ys]
    refine List.map_congr_left fun y hy => ?_
    obtain ⟨z, _, rfl⟩ := List.mem_map.mp (h.mem_iff.mp hy)
    simp
  · rw [List.mem_map]
    constructor
    · rintro ⟨y, hy, rfl⟩
      obtain ⟨z, hz, rfl⟩ := List.mem_map.mp (h.mem_iff.mp hy)
      simpa using hz
    · intro hx
      exact ⟨(x : Int), h.mem_iff.mpr (List.mem_map.mpr ⟨x, hx, rfl⟩), by simp⟩
theorem map_nat_int (L : List Nat) : (L.map fun (i : Nat) => (i : Int)).map V.int = L.map natV := by
  rw [List.map_map]
  rfl
section
variable {P : Program} {w : World} {K : PySem.W.Frag} {mg : Str → Option Value} {base : Heap}
/-- a def without a promise -/
theorem okf0 {x : Str} {st : Stmt} {ps : List Str} (h : mg x = some (.ref (He.ga K x)) ∧ ∃ fd, FunD K x x (defArgs st) (defBody st) (defScope st) [] [] (He.ga K x) fd)
    (hb : ∀ (kV doc pm : Value) (an : Option Addr) (cdv ct : Value) (us : List Value), us.length = ps.length → bindArgs (PySem.W.fnOf x x (defArgs st) (defBody st) (defScope st) .none kV doc pm an cdv ct) ⟨us, []⟩ = pure (ps.zip us)) {k : Nat} {sp : Sp} (hs : ∀ vs H Q E, ¬ sp vs H Q E) : OKF P w K mg base k x ps sp := by
  obtain ⟨g, fd, F⟩ := h
  exact ⟨⟨fd, ⟨fun vs H Q E z => absurd z (hs vs H Q E), fun _ _ _ _ _ _ vs Q E _ _ _ _ z => absurd z (hs vs _ Q E)⟩, F.bindsN hb⟩, F.kp, g⟩
def spOpen : Sp := fun vs H Q _ => ∃ (W : WS), vs = [.ref W.c.w] ∧ WAt H W ∧ W.scs.length < 64 ∧
  ∀ (H' : Hp) (p : Addr) (L : List Nat), Same H H' → H p = none → H' p = some (.lst (L.map natV)) → L.length < 64 → (∀ s, s ∈ L ↔ s < W.scs.length ∧ s ∉ W.shut) → Q (.ref p) H'
theorem ok_open_ones (T : Txt K mg) : OKF P w K mg base 1 "_law_open_ones" P_law_open_ones spOpen := by
  refine okf T.f_law_open_ones sc_law_open_ones (fun _ _ _ _ _ _ us hl => match us, hl with | [_], _ => rfl) (fun vs H Q E h => ?_) (fun cdv A outer s H vs Q E hr h => ⟨_, (pss_one (ps_ret (pe_lc (own := [("_law_scope", 1)]) (g := (gName 1)) rfl sc_law_open_ones.nd (pi_list (pe_callB (call_sortedDI rfl) (by rfl) T.b_sorted (by decide +kernel) (pa_cons (pe_dget (hu_of hr) (pv 0) pe_str (fun _ _ => rfl)) pa_nil))) (blkOk_by (own := [("_law_scope", 1)]) (N := N_law_open_ones) (sc := defScope s_law_open_ones) (by decide +kernel)) (fun _ _ _ _ _ => (pg_name (i := 1) sc_law_open_ones.nd rfl (by first | exact Or.inl rfl | exact Or.inr rfl) (by first | exact .inl rfl | exact .inr rfl))) (fun _ _ _ _ _ => (pts_one (pt_cmpR (ninS K) (pv 1) (pe_dget (hu_of hr) (pv 0) pe_str (fun _ _ => rfl)) (by rfl)))) (fun _ _ _ _ _ => (pv 1))))), ?_⟩)
  · obtain ⟨W, rfl, _⟩ := h
    rfl
  · obtain ⟨W, rfl, hW, hz, q⟩ := h
    refine rdW rfl hW (wk_scopes W) ⟨_, _, (List.range W.scs.length).map fun (i : Nat) => (i : Int), rfl, .of hW.hsc, sckv_keys _, by rw [List.length_map, List.length_range]; exact hz, fun ys p hy _ np => ?_⟩
    have hyl : ys.length = W.scs.length := by rw [hy.length_eq, List.length_map, List.length_range]
    obtain ⟨Y, rfl, hY⟩ := perm_nats hy
    rw [List.length_map] at hyl
    rw [map_nat_int]
    refine ⟨p, rfl, ⟨_, SqL.of upd_same⟩, fun D nD => ?_⟩
    have s1 := same_new (o := .lst (Y.map natV)) np
    generalize hH1 : upd H p (.lst (Y.map natV)) = H1 at nD s1
    have e0 : H1 p = some (.lst (Y.map natV)) := by rw [← hH1]; exact upd_same
    refine lc_list (K := K) (a := p) (xs := Y.map natV) (fun j H' => ∃ L : List Nat, H' D = some (.lst (L.map natV)) ∧ L.length ≤ j ∧ KeepD D H1 H' ∧ ∀ k, k ∈ L ↔ k ∈ Y.take j ∧ k ∉ W.shut)
      ⟨[], upd_same, Nat.le_refl _, KeepD.of (same_new nD), fun k => ⟨(fun z => nomatch z), (fun z => nomatch z.1)⟩⟩ (fun j H' _ ⟨L, _, _, e3, _⟩ => SqL.of (e3 _ _ (ne_of_none e0 nD) e0)) ?_ ?_
    · rintro j x H2 hx ⟨L, e1, e2, e3, e4⟩
      obtain ⟨y, hy, rfl⟩ : ∃ y, Y[j]? = some y ∧ x = natV y := by
        rw [List.getElem?_map] at hx
        cases hq : Y[j]? with
        | none => rw [hq] at hx; cases hx
        | some y => rw [hq] at hx; exact ⟨y, rfl, (Option.some.inj hx).symm⟩
      have hW2 := hW.same (s1.trans (e3.same nD))
      refine ⟨rfl, ?_⟩
      have hj : j < Y.length := (List.getElem?_eq_some_iff.mp hy).1
      refine ⟨_, rfl, rdW rfl hW2 (wk_shut W) ⟨_, _, rfl, .inl (SqL.of hW2.hsh), rfl, flat_nat, _, rfl, ?_⟩⟩
      rw [inV_nat]
      have tk : Y.take (j + 1) = Y.take j ++ [y] := by rw [List.take_add_one, hy]; rfl
      by_cases c : y ∈ W.shut
      · rw [decide_eq_true c]
        refine ⟨L, e1, by omega, e3, fun k => ?_⟩
        rw [e4, tk, List.mem_append, List.mem_singleton]
        constructor
        · rintro ⟨a, b⟩
          exact ⟨.inl a, b⟩
        · rintro ⟨a | rfl, b⟩
          · exact ⟨a, b⟩
          · exact absurd c b
      · rw [decide_eq_false c]
        refine ⟨_, rfl, _, e1, by rw [List.length_map]; have := sizeLine_eq; omega, L ++ [y], by rw [upd_same, List.map_append]; rfl, by simp; omega, e3.trans KeepD.upd, fun k => ?_⟩
        rw [List.mem_append, e4, tk, List.mem_append, List.mem_singleton]
        constructor
        · rintro (⟨a, b⟩ | rfl)
          · exact ⟨.inl a, b⟩
          · exact ⟨.inr rfl, c⟩
        · rintro ⟨a | rfl, b⟩
          · exact .inl ⟨a, b⟩
          · exact .inr rfl
    · rintro H2 ⟨L, e1, e2, e3, e4⟩
      have nDH : H D = none := by
        cases z : H D with
        | none => rfl
        | some o => rw [s1 _ _ z] at nD; cases nD
      refine q H2 D L (s1.trans (e3.same nD)) nDH e1 (by rw [List.length_map] at e2; omega) fun s => ?_
      rw [e4, List.length_map, List.take_length, hY, List.mem_range]
def spReqs : Sp := fun vs H Q _ => ∃ (W : WS), vs = [.ref W.c.w] ∧ WAt H W ∧ W.scs.length < 64 ∧
  ∀ (H' : Hp) (p : Addr) (L : List Nat), Same H H' → H p = none → H' p = some (.lst (L.map natV)) → L.length < 64 → (∀ s, s ∈ L ↔ s < W.scs.length ∧ s ∉ W.shut ∧ lv W s = W.c.D) → Q (.ref p) H'
theorem ok_requests (T : Txt K mg) : OKF P w K mg base 2 "_law_requests" P_law_requests spReqs := by
  have G_law_open_ones := ok_open_ones (P := P) (w := w) (base := base) T
  refine okf T.f_law_requests sc_law_requests (fun _ _ _ _ _ _ us hl => match us, hl with | [_], _ => rfl) (fun vs H Q E h => ?_) (fun cdv A outer s H vs Q E hr h => ⟨_, (pss_one (ps_ret (pe_lc (own := [("_law_scope", 1)]) (g := (gName 1)) rfl sc_law_requests.nd (pi_list (pe_callK K G_law_open_ones (hr.mono (by omega)) (by rfl) (pa_cons (pv 0) pa_nil))) (blkOk_by (own := [("_law_scope", 1)]) (N := N_law_requests) (sc := defScope s_law_requests) (by decide +kernel)) (fun _ _ _ _ _ => (pg_name (i := 1) sc_law_requests.nd rfl (by first | exact Or.inl rfl | exact Or.inr rfl) (by first | exact .inl rfl | exact .inr rfl))) (fun _ _ _ _ _ => (pts_one (pt_cmpR op_eq (pe_ix (ixT K) (pe_dget (hu_of hr) (pe_dget (hu_of hr) (pv 0) pe_str (fun _ _ => rfl)) (pv 1) (fun _ _ => rfl)) pe_int (fun _ _ => rfl)) (pe_dget (hu_of hr) (pv 0) pe_str (fun _ _ => rfl)) (nomark _)))) (fun _ _ _ _ _ => (pv 1))))), ?_⟩)
  · obtain ⟨W, rfl, _⟩ := h
    rfl
  · obtain ⟨W, rfl, hW, hz, q⟩ := h
    refine ⟨_, rfl, W, rfl, hW, hz, fun H1 p Y s1 np e0 hyl hY => ?_⟩
    refine ⟨p, rfl, ⟨_, SqL.of e0⟩, fun D nD => ?_⟩
    refine lc_list (K := K) (a := p) (xs := Y.map natV) (fun j H' => ∃ L : List Nat, H' D = some (.lst (L.map natV)) ∧ L.length ≤ j ∧ KeepD D H1 H' ∧ ∀ k, k ∈ L ↔ k ∈ Y.take j ∧ lv W k = W.c.D)
      ⟨[], upd_same, Nat.le_refl _, KeepD.of (same_new nD), fun k => ⟨(fun z => nomatch z), (fun z => nomatch z.1)⟩⟩ (fun j H' _ ⟨L, _, _, e3, _⟩ => SqL.of (e3 _ _ (ne_of_none e0 nD) e0)) ?_ ?_
    · rintro j x H2 hx ⟨L, e1, e2, e3, e4⟩
      obtain ⟨y, hy, rfl⟩ : ∃ y, Y[j]? = some y ∧ x = natV y := by
        rw [List.getElem?_map] at hx
        cases hq : Y[j]? with
        | none => rw [hq] at hx; cases hx
        | some y => rw [hq] at hx; exact ⟨y, rfl, (Option.some.inj hx).symm⟩
      have hW2 := hW.same (s1.trans (e3.same nD))
      have hj : j < Y.length := (List.getElem?_eq_some_iff.mp hy).1
      obtain ⟨x, hx⟩ := scp_of ((hY y).mp (List.mem_of_getElem? hy)).1
      refine ⟨rfl, rdW rfl hW2 (wk_scopes W) ⟨_, rfl, _, _, rfl, dscope hW2 hx, ?_⟩⟩
      refine ⟨_, _, 0, _, rfl, rfl, tscope hW2 hx, rfl, rdW rfl hW2 (wk_depth W) ⟨rfl, _, rfl, ?_⟩⟩
      rw [natV_dec, ← lv_of hx]
      have tk : Y.take (j + 1) = Y.take j ++ [y] := by rw [List.take_add_one, hy]; rfl
      refine ite2 (fun c => ?_) (fun c => ?_)
      · have c1 := of_decide_eq_true c
        refine ⟨_, rfl, _, e1, by rw [List.length_map]; have := sizeLine_eq; omega, L ++ [y], by rw [upd_same, List.map_append]; rfl, by simp; omega, e3.trans KeepD.upd, fun k => ?_⟩
        rw [List.mem_append, e4, tk, List.mem_append, List.mem_singleton]
        constructor
        · rintro (⟨a, b⟩ | rfl)
          · exact ⟨.inl a, b⟩
          · exact ⟨.inr rfl, c1⟩
        · rintro ⟨a | rfl, b⟩
          · exact .inl ⟨a, b⟩
          · exact .inr rfl
      · refine ⟨L, e1, by omega, e3, fun k => ?_⟩
        rw [e4, tk, List.mem_append, List.mem_singleton]
        constructor
        · rintro ⟨a, b⟩
          exact ⟨.inl a, b⟩
        · rintro ⟨a | rfl, b⟩
          · exact ⟨a, b⟩
          · exact absurd (decide_eq_true b) c
    · rintro H2 ⟨L, e1, e2, e3, e4⟩
      have nDH : H D = none := by
        cases z : H D with
        | none => rfl
        | some o => rw [s1 _ _ z] at nD; cases nD
      refine q H2 D L (s1.trans (e3.same nD)) nDH e1 (by rw [List.length_map] at e2; omega) fun s => ?_
      rw [e4, List.length_map, List.take_length, hY, and_assoc]
def spAtt (i : Nat) : Sp := fun vs H Q _ => ∃ (W : WS) (k : Nat) (t : Thing), vs = [.ref W.c.w, natV k] ∧ WAt H W ∧ WInv W ∧ W.ths[k]? = some t ∧ t.nm < i ∧ W.ths.length ≤ 1000000 ∧
  ∀ (H' : Hp) (b : Bool), Same H H' → (b = true ↔ Att W k) → Q (.bl b) H'
theorem ok_att (T : Txt K mg) : ∀ i, OKF P w K mg base (i + 2) "_law_is_attached" P_law_is_attached (spAtt i)
  | 0 => okf0 T.f_law_is_attached (fun _ _ _ _ _ _ us hl => match us, hl with | [_, _], _ => rfl) fun vs H Q E ⟨_, _, _, _, _, _, _, z, _⟩ => absurd z (by omega)
  | i + 1 => by
    have G_law_is_use := ok_is_use (P := P) (w := w) (base := base) T
    have G_law_is_attached := ok_att T i
    refine okf T.f_law_is_attached sc_law_is_attached (fun _ _ _ _ _ _ us hl => match us, hl with | [_, _], _ => rfl) (fun vs H Q E h => ?_) (fun cdv A outer s H vs Q E hr h => ⟨_, (C8.pss_cut (ps_if (PW.pt (pw_and (pt_cmpR op_eq (pe_dget (hu_of hr) (pe_ix (ixL K) (pe_dget (hu_of hr) (pv 0) pe_str (fun _ _ => rfl)) (pv 1) (fun _ _ => rfl)) pe_str (fun _ _ => rfl)) pe_int (nomark _)) (pw_and1 (pt_not (pt_val (pe_callK K G_law_is_use (hr.mono (by omega)) (by rfl) (pa_cons (pv 0) (pa_cons (pv 1) pa_nil)))))))) (pss_one (ps_ret pe_bl)) pss_nil)
    (pss_cons (ps_setLc (i := 2) (own := [("_law_k", 3)]) (g := (gName 3)) rfl sc_law_is_attached.nd rfl rfl (sw_true rfl rfl rfl (by decide +kernel)) (pi_range1 (by rfl) T.b_range (pa_cons (pe_callB (lenS K) (by rfl) T.b_len (by decide +kernel) (pa_cons (pe_dget (hu_of hr) (pv 0) pe_str (fun _ _ => rfl)) pa_nil)) pa_nil)) (blkOk_by (own := [("_law_k", 3)]) (N := N_law_is_attached) (sc := defScope s_law_is_attached) (by decide +kernel)) (fun _ _ _ _ _ => (pg_name (i := 3) sc_law_is_attached.nd rfl (by first | exact Or.inl rfl | exact Or.inr rfl) (by first | exact .inl rfl | exact .inr rfl))) (fun _ _ _ _ _ => (pts_one (pt_cmpR (inS K) (pv 1) (pe_dget (hu_of hr) (pe_ix (ixL K) (pe_dget (hu_of hr) (pv 0) pe_str (fun _ _ => rfl)) (pv 3) (fun _ _ => rfl)) pe_str (fun _ _ => rfl)) (by rfl)))) (fun _ _ _ _ _ => (pv 3)))
    (pss_one (ps_ret (pe_cmpR (neD K hr.units) (pe_lc (own := [("_law_k", 3)]) (g := (gName 3)) rfl sc_law_is_attached.nd (pi_list (pv 2)) (blkOk_by (own := [("_law_k", 3)]) (N := N_law_is_attached) (sc := defScope s_law_is_attached) (by decide +kernel)) (fun _ _ _ _ _ => (pg_name (i := 3) sc_law_is_attached.nd rfl (by first | exact Or.inl rfl | exact Or.inr rfl) (by first | exact .inl rfl | exact .inr rfl))) (fun _ _ _ _ _ => (pts_one (pt_val (pe_callK K G_law_is_attached (hr.mono (by omega)) (by rfl) (pa_cons (pv 0) (pa_cons (pv 3) pa_nil)))))) (fun _ _ _ _ _ => (pv 3))) (pe_lst pa_nil) (nomark _)))))), ?_⟩)
    · obtain ⟨W, k, t, rfl, _⟩ := h
      rfl
    · obtain ⟨W, k, t, rfl, hW, hI, ht, hn, hz, q⟩ := h
      refine ⟨fun σ' H' => σ' = L2.start N_law_is_attached [V.ref W.c.w, natV k] ∧ H' = H ∧ ¬ (t.home = 0 ∧ W.c.life t.nm ≠ -1), ?_, ?_⟩
      · refine rdThF rfl rfl hW ht (tk_home t) ⟨rfl, _, rfl, ?_⟩
        rw [show decide (natV t.home = V.int 0) = decide (t.home = 0) from natV_dec]
        refine ite2 (fun c => ?_) (fun c => ?_)
        · refine ⟨_, rfl, _, rfl, W, k, t, rfl, hW, ht, (hI.t k t ht).nm, _, rfl, ?_⟩
          refine ite2 (fun d => ?_) (fun d => ?_)
          · have d1 : W.c.life t.nm ≠ -1 := fun z => by rw [decide_eq_true z] at d; cases d
            exact q H true (fun _ _ z => z) ⟨fun _ => .base k t ht (of_decide_eq_true c) d1, fun _ => rfl⟩
          · refine ⟨rfl, rfl, fun z => d ?_⟩
            rw [decide_eq_false z.2]
            rfl
        · exact ⟨rfl, rfl, fun z => c (decide_eq_true z.1)⟩
      · rintro σ' H' ⟨rfl, rfl, hna⟩
        refine rdW rfl hW (wk_things W) ⟨_, _, rfl, .inl (sqTh hW), _, rfl, by rw [List.length_map]; omega, by rw [List.length_map]; omega, fun D nD => ?_⟩
        have hn0 : ((W.ths.map fun t => V.ref t.ad).length : Int).toNat = W.ths.length := by rw [List.length_map]; omega
        rw [hn0]
        refine lc_range (fun j H1 => ∃ L : List Nat, H1 D = some (.lst (L.map natV)) ∧ L.length ≤ j ∧ KeepD D H' H1 ∧ ∀ i, i ∈ L ↔ i < j ∧ ∃ t, W.ths[i]? = some t ∧ some k ∈ t.held)
          ⟨[], upd_same, Nat.le_refl _, KeepD.of (same_new nD), fun k => ⟨(fun z => nomatch z), (fun z => absurd z.1 (by omega))⟩⟩ ?_ ?_
        · rintro j H1 hj ⟨L, e1, e2, e3, e4⟩
          have hx := List.getElem?_eq_getElem hj
          have hW1 := hW.same (e3.same nD)
          generalize W.ths[j] = x at hx
          refine ⟨rfl, ?_⟩
          rw [Int.zero_add]
          refine ⟨_, rfl, rdThF rfl rfl hW1 hx (tk_held x) ⟨_, _, rfl, .inr (SqT.of (hW1.st _ _ (.hld x (th_mem hx)))), rfl, flat_opt, _, rfl, ?_⟩⟩
          rw [inV_opt]
          refine ite2 (fun c => ?_) (fun c => ?_)
          · have c1 := of_decide_eq_true c
            refine ⟨_, rfl, _, e1, by rw [List.length_map]; have := sizeLine_eq; omega, L ++ [j], by rw [upd_same, List.map_append]; rfl, by simp; omega, e3.trans KeepD.upd, fun i => ?_⟩
            rw [List.mem_append, e4, List.mem_singleton]
            constructor
            · rintro (⟨z1, z2⟩ | rfl)
              · exact ⟨by omega, z2⟩
              · exact ⟨by omega, x, hx, c1⟩
            · rintro ⟨z1, z2⟩
              rcases Nat.lt_or_ge i j with z | z
              · exact .inl ⟨z, z2⟩
              · exact .inr (by omega)
          · refine ⟨L, e1, by omega, e3, fun i => ?_⟩
            rw [e4]
            constructor
            · rintro ⟨z1, z2⟩
              exact ⟨by omega, z2⟩
            · rintro ⟨z1, t', z2, z3⟩
              rcases Nat.lt_or_ge i j with z | z
              · exact ⟨z, t', z2, z3⟩
              · have : i = j := by omega
                subst this
                rw [hx] at z2
                cases z2
                exact absurd (decide_eq_true z3) c
        · rintro H1 ⟨L, e1, e2, e3, e4⟩
          have s1 := e3.same nD
          refine ⟨_, rfl, D, rfl, ⟨_, SqL.of e1⟩, fun F nF => ?_⟩
          have nFD : D ≠ F := ne_of_none e1 nF
          refine lc_list (K := K) (a := D) (xs := L.map natV) (fun j H2 => ∃ M : List Nat, H2 F = some (.lst (M.map natV)) ∧ M.length ≤ j ∧ KeepD F H1 H2 ∧ ∀ i, i ∈ M ↔ i ∈ L.take j ∧ Att W i)
            ⟨[], upd_same, Nat.le_refl _, KeepD.of (same_new nF), fun k => ⟨(fun z => nomatch z), (fun z => nomatch z.1)⟩⟩ (fun j H2 _ ⟨M, _, _, f3, _⟩ => SqL.of (f3 _ _ nFD e1)) ?_ ?_
          · rintro j x H2 hx ⟨M, f1, f2, f3, f4⟩
            obtain ⟨y, hy, rfl⟩ : ∃ y, L[j]? = some y ∧ x = natV y := by
              rw [List.getElem?_map] at hx
              cases hq : L[j]? with
              | none => rw [hq] at hx; cases hx
              | some y => rw [hq] at hx; exact ⟨y, rfl, (Option.some.inj hx).symm⟩
            have hj : j < L.length := (List.getElem?_eq_some_iff.mp hy).1
            have hW2 := hW.same (s1.trans (f3.same nF))
            obtain ⟨hyl, u, hu, hku⟩ := (e4 y).mp (List.mem_of_getElem? hy)
            have hun : u.nm < i := by
              obtain ⟨_, v, x, _, _, g3, g4, g5, _⟩ := hI.held_at hu hku
              rw [ht] at g3
              cases g3
              omega
            refine ⟨rfl, ?_⟩
            refine ⟨_, rfl, _, rfl, W, y, u, rfl, hW2, hI, hu, hun, hz, fun H3 b s3 hb => ⟨_, rfl, ?_⟩⟩
            have k3 : KeepD F H1 H3 := f3.trans (KeepD.of s3)
            have f1' := s3 _ _ f1
            have tk : L.take (j + 1) = L.take j ++ [y] := by rw [List.take_add_one, hy]; rfl
            refine ite2 (fun c => ?_) (fun c => ?_)
            · refine ⟨_, rfl, _, f1', by rw [List.length_map]; have := sizeLine_eq; have := Nat.lt_of_lt_of_le hj e2; rw [List.length_map] at hn0; omega, M ++ [y], by rw [upd_same, List.map_append]; rfl, by simp; omega, k3.trans KeepD.upd, fun i => ?_⟩
              rw [List.mem_append, f4, tk, List.mem_append, List.mem_singleton]
              constructor
              · rintro (⟨a, b⟩ | rfl)
                · exact ⟨.inl a, b⟩
                · exact ⟨.inr rfl, hb.mp c⟩
              · rintro ⟨a | rfl, b⟩
                · exact .inl ⟨a, b⟩
                · exact .inr rfl
            · refine ⟨M, f1', by omega, k3, fun i => ?_⟩
              rw [f4, tk, List.mem_append, List.mem_singleton]
              constructor
              · rintro ⟨a, b⟩
                exact ⟨.inl a, b⟩
              · rintro ⟨a | rfl, b⟩
                · exact ⟨a, b⟩
                · exact absurd (hb.mpr b) c
          · rintro H2 ⟨M, f1, f2, f3, f4⟩
            have s2 := f3.same nF
            refine ⟨szl, fun l nl => rd_ne0 (f := natV) (fun k => .int k) (l := M) (same_new nl _ _ f1) upd_same (fun k _ => .int _) (fun k _ => flat_int _) ?_⟩
            refine q _ _ (s1.trans (s2.trans (same_new nl))) ?_
            rw [List.length_map, List.take_length] at f4
            constructor
            · intro z
              cases M with
              | nil => cases z
              | cons i M =>
                obtain ⟨g1, g2⟩ := (f4 i).mp (List.mem_cons_self ..)
                obtain ⟨_, u, g3, g4⟩ := (e4 i).mp g1
                exact .step k i u g3 g4 g2
            · intro a
              cases a with
              | base _ t' g1 g2 g3 =>
                rw [ht] at g1
                cases g1
                exact absurd ⟨g2, g3⟩ hna
              | step _ i u g1 g2 g3 =>
                have := (f4 i).mpr ⟨(e4 i).mpr ⟨lt_of_get g1, u, g1, g2⟩, g3⟩
                cases M with
                | nil => cases this
                | cons _ _ => rfl
end
end HL

set_option Elab.async false
set_option linter.all false
set_option maxRecDepth 100000
set_option maxHeartbeats 4000000
/-! G1: getting: got, wanted, new -/
namespace HL
open PySem PySem.Spec PyProof.Rows L2
/-- what one getting costs, by rank -/
def cG : Nat → Nat
  | 0 => 0
  | r + 1 => 1 + r * (cG r + 1)
def GotR (W W' : WS) (m s b : Nat) (o : Option Nat) : Prop := (o = none ∧ b ∈ W.shut) ∨ (HOkG W' s b m o ∧ ∀ k, o = some k → W.c.life m = -1 → W.ths.length ≤ k)
/-- room for so many more -/
structure Rm (W : WS) (x : Nat) : Prop where
  t : W.ths.length + x ≤ 1000000
  f : W.fau.length + x ≤ 10000000
  l : W.loose.length + x ≤ 10000000
theorem Rm.mono {W : WS} {x y : Nat} (h : Rm W x) (l : y ≤ x) : Rm W y := ⟨by have := h.t; omega, by have := h.f; omega, by have := h.l; omega⟩
theorem Rm.sub {W W' : WS} {x y : Nat} (h : Rm W (x + y)) (z : Sz W W' x) : Rm W' y := ⟨by have := h.t; have := z.t; omega, by have := h.f; have := z.f; omega, by have := h.l; have := z.l; omega⟩
section
variable {P : Program} {w : World} {K : PySem.W.Frag} {mg : Str → Option Value} {base : Heap}
theorem tyL {K : PySem.W.Frag} {H : Hp} {p : Addr} {xs : List V} (h : H p = some (.lst xs)) : tyV K "list" (.ref p) H := .inl ⟨rfl, _, SqL.of h⟩
def spGot (r : Nat) : Sp := fun vs H Q _ => ∃ (W : WS) (m s b : Nat) (tr : Addr) (l : List V), vs = [.ref W.c.w, .str (nm m), natV s, natV b, .ref tr] ∧ m < W.c.n ∧ W.c.n ≤ m + r ∧ WAt H W ∧ WInv W ∧ Full W m ∧
  s < W.scs.length ∧ s = up W b (lv W s) ∧ b < W.scs.length ∧ lv W b = W.c.D ∧ H tr = some (.tup l) ∧ l ≠ [] ∧ l.length + r ≤ 100 ∧ Rm W (cG r) ∧
  ∀ H' W' o, WAt H' W' → Ext W H W' H' → WInv W' → Grow W W' m → Sz W W' (cG r) → GotR W W' m s b o → Q (optV o) H'
def spWanted (r : Nat) : Sp := fun vs H Q _ => ∃ (W : WS) (a m s b : Nat) (tr : Addr) (l : List V), vs = [.ref W.c.w, natV a, .str (nm m), natV s, natV b, .ref tr] ∧ m < W.c.n ∧ W.c.n ≤ m + r ∧ WAt H W ∧ WInv W ∧ Full W m ∧
  s < W.scs.length ∧ s = up W b (lv W s) ∧ b < W.scs.length ∧ lv W b = W.c.D ∧ H tr = some (.tup l) ∧ l ≠ [] ∧ l.length + r + 1 ≤ 100 ∧ Rm W (cG r + 1) ∧
  ∀ H' W' o, WAt H' W' → Ext W H W' H' → WInv W' → Grow W W' m → Sz W W' (cG r + 1) → GotR W W' m s b o → Q (optV o) H'
theorem GotR.misc {W W' W'' : WS} {m s b : Nat} {o : Option Nat} (h : GotR W W' m s b o) (hs : s < W'.scs.length) (e : Onto W' W'') : GotR W W'' m s b o := by
  rcases h with h | ⟨h1, h2⟩
  · exact .inl h
  · exact .inr ⟨h1.onto e hs, h2⟩
theorem ok_wanted_of (T : Txt K mg) (r : Nat) (G_law_got : OKF P w K mg base (3 * r + 3) "_law_got" P_law_got (spGot r)) : OKF P w K mg base (3 * r + 4) "_law_wanted" P_law_wanted (spWanted r) := by
  refine okf T.f_law_wanted sc_law_wanted (fun _ _ _ _ _ _ us hl => match us, hl with | [_, _, _, _, _, _], _ => rfl) (fun vs H Q E h => ?_) (fun cdv A outer s H vs Q E hr h => ⟨_, (pss_cons (ps_set (i := 6) sc_law_wanted.nd rfl (Or.inl rfl) (pe_callK K G_law_got (hr.mono (by omega)) (by rfl) (pa_cons (pv 0) (pa_cons (pv 2) (pa_cons (pv 3) (pa_cons (pv 4) (pa_cons (pe_op (catT K) (pv 5) (pe_tup (pa_cons (pv 2) pa_nil))) pa_nil)))))))
    (C8.pss_cut (ps_if (pt_cmpR op_isN (pv 6) pe_non (nomark _)) (pss_one (ps_expr (pe_bm PySem.F.plainAttrs_list PySem.F.slot_list_append PySem.F.type_list_append mt_append (pe_dget (hu_of hr) (pv 0) pe_str (fun _ _ => rfl)) (pa_cons (pe_tup (pa_cons (pe_dget (hu_of hr) (pv 0) pe_str (fun _ _ => rfl)) (pa_cons pe_str (pa_cons (pv 1) (pa_cons (pe_op (catT K) (pv 5) (pe_tup (pa_cons (pv 2) pa_nil))) pa_nil))))) pa_nil)))) pss_nil)
    (pss_one (ps_ret (pv 6))))), ?_⟩)
  · obtain ⟨W, a, m, s, b, tr, l, rfl, _⟩ := h
    rfl
  · obtain ⟨W, a, m, s, b, tr, l, rfl, hm, hr2, hW, hI, hF, hs, hsu, hb, hbl, htr, hl, hln, hR, q⟩ := h
    have sz := sizeLine_eq
    refine ⟨_, rfl, _, rfl, _, rfl, _, rfl, _, rfl, _, rfl, szl, fun p np => ⟨tr, p, l, [.str (nm m)], rfl, rfl, SqT.of (same_new np _ _ htr), SqT.of upd_same, hl, ?_, (fun z => nomatch z), fun _ t2 nt2 => ?_⟩⟩
    · simp only [List.length_cons, List.length_nil]
      omega
    have s1 := same_new (o := .tup [.str (nm m)]) np
    have s2 := same_new (o := .tup (l ++ [.str (nm m)])) nt2
    have s12 := s1.trans s2
    refine ⟨W, m, s, b, t2, _, rfl, hm, hr2, hW.same s12, hI, hF, hs, hsu, hb, hbl, upd_same, by simp, by rw [List.length_append]; simp only [List.length_cons, List.length_nil]; omega, hR.mono (by omega), fun H1 W1 o hW1 hE hI1 hG hZ hO => ?_⟩
    have hE0 : Ext W H W1 H1 := Ext.trans (.of_same s12) hE
    have htr1 : H1 tr = some (.tup l) := hE0.tup hW htr
    refine ⟨fun σ H' => ∃ W', σ = (L2.start N_law_wanted [V.ref W.c.w, natV a, V.str (nm m), natV s, natV b, V.ref tr]).set 6 (some (optV o)) ∧ WAt H' W' ∧ Ext W H W' H' ∧ WInv W' ∧ Grow W W' m ∧ Sz W W' (cG r + 1) ∧ GotR W W' m s b o, ?_, ?_⟩
    · refine ⟨_, rfl, rfl, _, rfl, ?_⟩
      cases o with
      | some k => exact ⟨W1, rfl, hW1, hE0, hI1, hG, hZ.mono (by omega), hO⟩
      | none =>
        refine ite2 (fun c => ?_) (fun c => absurd (decide_eq_true rfl) c)
        have ew : W1.c.w = W.c.w := by rw [hG.c]
        refine rdW (W := W1) (by rw [ew]; rfl) hW1 (wk_faults W1) ⟨tyL hW1.hfa, rdW (W := W1) (by rw [ew]; rfl) hW1 (wk_deeds W1) ⟨_, rfl, _, rfl, _, rfl, szl, fun p3 np3 => ?_⟩⟩
        have s3 := same_new (o := .tup [.str (nm m)]) np3
        refine ⟨tr, p3, l, [.str (nm m)], rfl, rfl, SqT.of (s3 _ _ htr1), SqT.of upd_same, hl, ?_, (fun z => nomatch z), fun _ t4 nt4 => ⟨szl, fun t5 nt5 => ?_⟩⟩
        · simp only [List.length_cons, List.length_nil]
          omega
        have s4 := same_new (o := .tup (l ++ [.str (nm m)])) nt4
        have s5 := same_new (o := .tup [natV W1.deeds, .str "missing", natV a, .ref t4]) nt5
        have s35 := s3.trans (s4.trans s5)
        have hfl := hR.f
        have hzf := hZ.f
        obtain ⟨hW2, hE2⟩ := w_fau (hW1.same s35) (.ref t5)
        refine ⟨W1.c.fa, W1.fau, .ref t5, rfl, rfl, (hW1.same s35).hfa, by omega, { W1 with fau := W1.fau ++ [.ref t5] }, rfl, hW2, (hE0.trans (.of_same s35)).trans hE2, hI1.misc rfl rfl rfl rfl rfl rfl hI1.lk, ?_, ?_, ?_⟩
        · exact ⟨hG.c, hG.scs, hG.shut, hG.wks, hG.put, hG.lo, hG.told, hG.deeds, hG.line, hG.pre, hG.new1, fun i k h1 h2 => hG.new2 i k h1 h2⟩
        · exact ⟨by have := hZ.t; show W1.ths.length ≤ _; omega, by show (W1.fau ++ [_]).length ≤ _; simp; omega, by have := hZ.l; show W1.loose.length ≤ _; omega⟩
        · exact hO.misc (by rw [hG.scs]; exact hs) (.mk' rfl rfl fun k t z => ⟨t, z, rfl, rfl, rfl⟩)
    · rintro σ H' ⟨W', rfl, h1, h2, h3, h4, h5, h6⟩
      exact ⟨_, rfl, q H' W' o h1 h2 h3 h4 h5 h6⟩
/-- own laws of a new thing -/
structure TNew (W : WS) (t : Thing) : Prop where
  nm : t.nm < W.c.n
  by1 : t.by_ < W.scs.length
  by2 : lv W t.by_ = W.c.D
  home : t.home = up W t.by_ (lv W t.home)
  low : W.c.life t.nm ≠ -1 → (lv W t.home : Int) ≤ W.c.life t.nm
  held : t.held = []
  ended : t.ended = false
  op : t.home ∉ W.shut
theorem get_push {α : Type} {l : List α} {x y : α} {i : Nat} (h : (l ++ [x])[i]? = some y) : l[i]? = some y ∨ (i = l.length ∧ y = x) := by
  rcases Nat.lt_trichotomy i l.length with q | q | q
  · left
    rw [List.getElem?_append_left q] at h
    exact h
  · right
    subst q
    rw [List.getElem?_append_right (Nat.le_refl _), Nat.sub_self] at h
    exact ⟨rfl, by simpa using h.symm⟩
  · exfalso
    have := lt_of_get h
    rw [List.length_append] at this
    simp at this
    omega
theorem push_pre {W : WS} {t : Thing} {k : Nat} {x : Thing} (h : W.ths[k]? = some x) : (W.ths ++ [t])[k]? = some x := by
  rw [List.getElem?_append_left (lt_of_get h)]
  exact h
theorem push_at {W : WS} {t : Thing} : (W.ths ++ [t])[W.ths.length]? = some t := by
  rw [List.getElem?_append_right (Nat.le_refl _), Nat.sub_self]
  rfl
theorem winv_push {W : WS} (h : WInv W) {t : Thing} (n : TNew W t) : WInv { W with ths := W.ths ++ [t] } := by
  have o : Onto W { W with ths := W.ths ++ [t] } := .mk' rfl rfl fun k x z => ⟨x, push_pre z, rfl, rfl, rfl⟩
  have hh : ∀ i k, Holds { W with ths := W.ths ++ [t] } i k → Holds W i k := by
    rintro i k ⟨x, j, u, h1, h2, h3, h4⟩
    rcases get_push h1 with z | ⟨z1, z2⟩
    · exact ⟨x, j, u, z, h2, h3, h4⟩
    · rw [z2, n.held] at h3
      cases h3
  have hT : TOk W t := ⟨n.nm, n.by1, n.by2, n.home, n.low, fun j x z => by rw [n.held] at z; cases z⟩
  refine ⟨h.c, h.s.congr rfl rfl, h.op, h.sh0, h.shl, fun i x z => ?_, fun i j k a b => h.q i j k (hh _ _ a) (hh _ _ b), fun i x z => ?_, fun i x z => ?_, fun x z => (h.w x z).onto o (h.w x z).op, h.wn, h.wp, fun k z => ?_⟩
  · rcases get_push z with z | ⟨_, z⟩
    · exact (h.t i x z).onto o h.s
    · rw [z]
      exact hT.onto o h.s
  · rcases get_push z with z | ⟨_, z⟩
    · exact h.e1 i x z
    · rw [z]
      refine fun _ => ⟨fun y => ?_, fun y => absurd y n.op⟩
      rw [n.ended] at y
      cases y
  · rcases get_push z with z | ⟨_, z⟩
    · exact h.e2 i x z
    · rw [z]
      exact fun _ _ => n.ended
  · obtain ⟨x, z1, z2⟩ := h.lk k z
    exact ⟨x, push_pre z1, z2⟩
theorem get_set {α : Type} {l : List α} {x y : α} {i k : Nat} (h : (l.set k x)[i]? = some y) : (i ≠ k ∧ l[i]? = some y) ∨ (i = k ∧ y = x) := by
  rw [List.getElem?_set] at h
  by_cases e : k = i
  · subst e
    rw [if_pos rfl] at h
    split at h
    · exact .inr ⟨rfl, (Option.some.inj h).symm⟩
    · cases h
  · rw [if_neg e] at h
    exact .inl ⟨fun z => e z.symm, h⟩
theorem set_at {α : Type} {l : List α} {x y : α} {k : Nat} (h : l[k]? = some y) : (l.set k x)[k]? = some x := by
  rw [List.getElem?_set, if_pos rfl, if_pos (lt_of_get h)]
theorem set_ne {α : Type} {l : List α} {x y : α} {i k : Nat} (h : l[i]? = some y) (e : i ≠ k) : (l.set k x)[i]? = some y := by
  rw [List.getElem?_set, if_neg (fun z => e z.symm)]
  exact h
theorem winv_held {W : WS} (h : WInv W) {k : Nat} {t : Thing} (hk : W.ths[k]? = some t) {G : List (Option Nat)} {a : Addr} (hG : ∀ (j : Nat) (x : Option Nat), G[j]? = some x → ∃ u, (hw W.c t.nm)[j]? = some u ∧ HOkG W (srcT W.c t) t.by_ u x)
    (hu : ∀ (j u k' : Nat), G[j]? = some (some k') → (hw W.c t.nm)[j]? = some u → W.c.life u = -1 → ∀ i, ¬ Holds W i k') : WInv { W with ths := W.ths.set k { t with held := G, ha := a } } := by
  have o : Onto W { W with ths := W.ths.set k { t with held := G, ha := a } } := .mk' rfl rfl fun i x z => by
    by_cases e : i = k
    · subst e
      rw [hk] at z
      cases z
      exact ⟨_, set_at hk, rfl, rfl, rfl⟩
    · exact ⟨x, set_ne z e, rfl, rfl, rfl⟩
  have hh : ∀ i k', Holds { W with ths := W.ths.set k { t with held := G, ha := a } } i k' → (i ≠ k ∧ Holds W i k') ∨ (i = k ∧ ∃ (j u : Nat), G[j]? = some (some k') ∧ (hw W.c t.nm)[j]? = some u ∧ W.c.life u = -1) := by
    rintro i k' ⟨x, j, u, h1, h2, h3, h4⟩
    rcases get_set h1 with ⟨z1, z2⟩ | ⟨z1, z2⟩
    · exact .inl ⟨z1, x, j, u, z2, h2, h3, h4⟩
    · rw [z2] at h2 h3
      exact .inr ⟨z1, j, u, h3, h2, h4⟩
  have hT := h.t k t hk
  refine ⟨h.c, h.s.congr rfl rfl, h.op, h.sh0, h.shl, fun i x z => ?_, fun i j k' a b => ?_, fun i x z => ?_, fun i x z => ?_, fun x z => (h.w x z).onto o (h.w x z).op, h.wn, h.wp, fun k' z => ?_⟩
  · rcases get_set z with ⟨_, z⟩ | ⟨_, z⟩
    · exact (h.t i x z).onto o h.s
    · rw [z]
      exact TOk.onto o h.s (t := { t with held := G, ha := a }) ⟨hT.nm, hT.by1, hT.by2, hT.home, hT.low, hG⟩
  · rcases hh _ _ a with ⟨a1, a2⟩ | ⟨a1, j1, u1, a2, a3, a4⟩
    · rcases hh _ _ b with ⟨b1, b2⟩ | ⟨b1, j2, u2, b2, b3, b4⟩
      · exact h.q i j k' a2 b2
      · exact absurd a2 (hu j2 u2 k' b2 b3 b4 i)
    · rcases hh _ _ b with ⟨b1, b2⟩ | ⟨b1, j2, u2, b2, b3, b4⟩
      · exact absurd b2 (hu j1 u1 k' a2 a3 a4 j)
      · rw [a1, b1]
  · rcases get_set z with ⟨_, z⟩ | ⟨_, z⟩
    · exact h.e1 i x z
    · rw [z]
      exact h.e1 k t hk
  · rcases get_set z with ⟨_, z⟩ | ⟨_, z⟩
    · exact h.e2 i x z
    · rw [z]
      exact h.e2 k t hk
  · obtain ⟨x, z1, z2⟩ := h.lk k' z
    by_cases e : k' = k
    · subst e
      rw [hk] at z1
      cases z1
      exact ⟨_, set_at hk, z2⟩
    · exact ⟨x, set_ne z1 e, z2⟩
theorem WAt.priv {H : Hp} {W : WS} (h : WAt H W) {a : Addr} {xs ys : List V} (n : a ∉ muts W) (e : H a = some (.lst xs)) : WAt (upd H a (.lst ys)) W := by
  have hs : ∀ b u, Stt W b u → b ≠ a := by
    rintro b u q rfl
    have := h.st _ _ q
    rw [e] at this
    cases this
    cases q
  refine ⟨fun p hp => ?_, h.nd, fun b u q => ?_, h.sep⟩
  · rw [upd_ne (fun z => n (by rw [← z]; exact List.mem_map.mpr ⟨p, hp, rfl⟩))]
    exact h.cel p hp
  · rw [upd_ne (hs b u q)]
    exact h.st b u q
theorem Ext.priv {H0 H : Hp} {W0 W : WS} (x : Ext W0 H0 W H) {a : Addr} {o : HO} (n : H0 a = none) : Ext W0 H0 W (L2.upd H a o) := ⟨fun b u hb e => by
  rw [upd_ne (ne_of_none e n)]
  exact x.keep b u hb e, x.new⟩
theorem rdStart {σ : L2.St} {H : Hp} {Q : VK} {W : WS} {t : Thing} (hs : σ[0]? = some (some (.ref W.c.w))) (h2 : σ[2]? = some (some (natV t.home))) (h3 : σ[3]? = some (some (natV t.by_))) (hW : WAt H W) (q : Q (natV (srcT W.c t)) H) :
    tIf (tTest (tOp rEq (tDGet (tDGet (tVar 0) (tC (.str "fields"))) (tC (.str "held"))) (tC (.str "home")))) (tVar 2) (tVar 3) σ H Q := by
  refine rdF hs hW (fl_held _) ⟨rfl, _, rfl, ?_⟩
  rw [decstr]
  unfold srcT at q
  refine ite2 (fun c => ⟨_, h2, ?_⟩) (fun c => ⟨_, h3, ?_⟩)
  · rw [if_pos (of_decide_eq_true c)] at q
    exact q
  · rw [if_neg (fun z => c (decide_eq_true z))] at q
    exact q
theorem hwt_take {l : List (Bool × Nat)} {j : Nat} {q : Bool × Nat} (h : l[j]? = some q) : hwt (l.take (j + 1)) = hwt (l.take j) ++ (if q.1 = true then [q.2] else []) := by
  rw [List.take_add_one, h]
  unfold hwt
  rw [List.filter_append, List.map_append]
  cases hq : q.1 <;> simp [hq]
def spNew (r : Nat) : Sp := fun vs H Q _ => ∃ (W : WS) (m h b : Nat) (tr : Addr) (l : List V), vs = [.ref W.c.w, .str (nm m), natV h, natV b, .ref tr] ∧ m < W.c.n ∧ W.c.n ≤ m + r + 1 ∧ WAt H W ∧ WInv W ∧ Full W m ∧
  h < W.scs.length ∧ h = up W b (lv W h) ∧ b < W.scs.length ∧ lv W b = W.c.D ∧ b ∉ W.shut ∧ (W.c.life m ≠ -1 → (lv W h : Int) ≤ W.c.life m) ∧ H tr = some (.tup l) ∧ l ≠ [] ∧ l.length + r + 1 ≤ 100 ∧ Rm W (cG (r + 1)) ∧
  ∀ H' W', WAt H' W' → Ext W H W' H' → WInv W' → Grow W W' m → Sz W W' (cG (r + 1)) → (∃ t, W'.ths[W.ths.length]? = some t ∧ t.nm = m ∧ t.home = h ∧ t.by_ = b) → Q (natV W.ths.length) H'
theorem ok_new_of (T : Txt K mg) (r : Nat) (G_law_wanted : OKF P w K mg base (3 * r + 4) "_law_wanted" P_law_wanted (spWanted r)) : OKF P w K mg base (3 * r + 5) "_law_new" P_law_new (spNew r) := by
  refine okf T.f_law_new sc_law_new (fun _ _ _ _ _ _ us hl => match us, hl with | [_, _, _, _, _], _ => rfl) (fun vs H Q E h => ?_) (fun cdv A outer s H vs Q E hr h => ⟨_, (pss_cons (ps_par (i := 5) (j := 6) (by rfl) sc_law_new.nd rfl rfl (by decide) rfl rfl (pa_cons (pe_callB (lenS K) (by rfl) T.b_len (by decide +kernel) (pa_cons (pe_dget (hu_of hr) (pv 0) pe_str (fun _ _ => rfl)) pa_nil)) (pa_cons (pe_disp (pps_cons pe_str (pv 1) (pps_cons pe_str (pv 2) (pps_cons pe_str (pe_tup pa_nil) (pps_cons pe_str pe_bl (pps_cons pe_str (pv 3) pps_nil))))) (by rfl) (by rfl) (fun z => by cases z) (by decide)) pa_nil)) (by rfl))
    (pss_cons (ps_expr (pe_bm PySem.F.plainAttrs_list PySem.F.slot_list_append PySem.F.type_list_append mt_append (pe_dget (hu_of hr) (pv 0) pe_str (fun _ _ => rfl)) (pa_cons (pv 6) pa_nil)))
    (pss_cons (ps_set (i := 7) sc_law_new.nd rfl (Or.inl rfl) (pe_ifExp (pt_cmpR op_eq (pe_dget (hu_of hr) (pe_dget (hu_of hr) (pv 0) pe_str (fun _ _ => rfl)) pe_str (fun _ _ => rfl)) pe_str (nomark _)) (pv 2) (pv 3)))
    (pss_cons (ps_set (i := 8) sc_law_new.nd rfl (Or.inl rfl) (pe_lst pa_nil))
    (pss_cons (ps_for PassesOwn.never rfl (pi_tup (pe_ix (ixT K) (pe_dget (hu_of hr) (pe_dget (hu_of hr) (pv 0) pe_str (fun _ _ => rfl)) (pv 1) (fun _ _ => rfl)) pe_int (fun _ _ => rfl))) (pg_tup rfl (pgs_cons (pg_name (i := 9) sc_law_new.nd rfl (Or.inl rfl)) (pgs_cons (pg_name (i := 10) sc_law_new.nd rfl (Or.inl rfl)) pgs_nil))) (pss_one (ps_if (pt_cmpR op_eq (pv 9) pe_str (nomark _)) (pss_one (ps_expr (pe_bm PySem.F.plainAttrs_list PySem.F.slot_list_append PySem.F.type_list_append mt_append (pv 8) (pa_cons (pe_callK K G_law_wanted (hr.mono (by omega)) (by rfl) (pa_cons (pv 0) (pa_cons (pv 5) (pa_cons (pv 10) (pa_cons (pv 7) (pa_cons (pv 3) (pa_cons (pv 4) pa_nil))))))) pa_nil)))) pss_nil)))
    (pss_cons (ps_dput (hu_of hr) (pv 6) pe_str (pe_callTy (tupO K) (by rfl) T.b_tuple (by decide +kernel) (pa_cons (pv 8) pa_nil)) rfl)
    (pss_one (ps_ret (pv 5))))))))), ?_⟩)
  · obtain ⟨W, m, h, b, tr, l, rfl, _⟩ := h
    rfl
  · obtain ⟨W, m, h, b, tr, l, rfl, hm, hr2, hW, hI, hF, hh, hsu, hb, hbl, hbo, hlo, htr, hl, hln, hR, q⟩ := h
    have sz := sizeLine_eq
    refine rdW rfl hW (wk_things W) ⟨_, _, rfl, .inl (sqTh hW), fun p np => ?_⟩
    rw [List.length_map]
    refine ⟨_, rfl, _, rfl, szl, fun e ne => ⟨_, rfl, ?_⟩⟩
    have npe : p ≠ e := fun z => by rw [← z, upd_same] at ne; cases ne
    have neH : H e = none := by
      rw [upd_ne (fun z => npe z.symm)] at ne
      exact ne
    refine ⟨by rw [upd_ne npe]; exact upd_same, [(.inr "name", .str (nm m)), (.inr "home", natV h), (.inr "held", .ref e), (.inr "ended", .bl false), (.inr "by", natV b)], rfl, (by show 5 ≤ 15; decide), _, _, rfl, ?_⟩
    let own : Thing := ⟨m, h, b, false, [], p, e⟩
    rw [show mergeK [] [((.inr "name" : Key), V.str (nm m)), (.inr "home", natV h), (.inr "held", .ref e), (.inr "ended", .bl false), (.inr "by", natV b)] = thkv own by kernel_rfl]
    generalize hH3 : upd (upd (upd H p (.dK [])) e (.tup [])) p (.dK (thkv own)) = H3
    have s3 : Same H H3 := fun a o z => by
      rw [← hH3, upd_ne (ne_of_none z np), upd_ne (ne_of_none z neH), upd_ne (ne_of_none z np)]
      exact z
    have h3p : H3 p = some (.dK (thkv own)) := by rw [← hH3]; exact upd_same
    have h3e : H3 e = some (.tup (own.held.map optV)) := by rw [← hH3, upd_ne (fun z => npe z.symm)]; exact upd_same
    obtain ⟨hW4, hE4⟩ := w_thing hW s3 own np h3p h3e
    have hW3 := hW.same s3
    have hRt := hR.t
    refine rdW rfl hW3 (wk_things W) ⟨tyL hW3.hth, _, rfl, W.c.th, _, .ref p, rfl, rfl, hW3.hth, by rw [List.length_map]; omega, ?_⟩
    have hho : h ∉ W.shut := by
      rw [hsu]
      exact up_open hI.s hI.op _ _ _ rfl hb hbo
    have hN : TNew W own := ⟨hm, hb, hbl, hsu, hlo, rfl, rfl, hho⟩
    have hI4 := winv_push hI hN
    generalize hH4 : upd H3 W.c.th (.lst ((W.ths.map fun t => V.ref t.ad) ++ [.ref p])) = H4 at hW4 hE4
    generalize hW1 : ({ W with ths := W.ths ++ [own] } : WS) = W1 at hW4 hE4 hI4
    have e1c : W1.c = W.c := by rw [← hW1]
    have e1s : W1.scs = W.scs := by rw [← hW1]
    have e1h : W1.shut = W.shut := by rw [← hW1]
    have e1t : W1.ths = W.ths ++ [own] := by rw [← hW1]
    have htr4 : H4 tr = some (.tup l) := hE4.tup hW htr
    refine rdStart (W := W1) (t := own) (by rw [e1c]; rfl) rfl rfl hW4 ⟨szl, ?_⟩
    intro ga nga
    have ngaH : H ga = none := by
      cases z : H ga with
      | none => rfl
      | some o =>
        rw [← hH4] at nga
        by_cases y : ga = W.c.th
        · rw [y, upd_same] at nga
          cases nga
        · rw [upd_ne y, s3 _ _ z] at nga
          cases nga
    have s5 := same_new (o := .lst []) nga
    have ngam : ga ∉ muts W1 := hW4.nnew nga
    generalize hH5 : upd H4 ga (.lst []) = H5 at s5
    have h5g : H5 ga = some (.lst []) := by rw [← hH5]; exact upd_same
    have hW5 := hW4.same s5
    have hE5 : Ext W H W1 H5 := hE4.trans (.of_same s5)
    have sq1 : SqT K H5 (W.c.pA m) [.int (W.c.life m), .ref (W.c.wA m)] := by
      have z := sqPart (K := K) (x := m) hW5 (by rw [e1c]; exact hm)
      rw [e1c] at z
      exact z
    have hwn := hI.c.wlen m hm
    have stW : ∀ {H' : Hp} {W' : WS}, WAt H' W' → W'.c = W.c → SqT K H' (W.c.wA m) ((List.range (W.c.wants m).length).map fun j => .ref (W.c.qA m j)) := fun {H' W'} a ec => by
      have z := a.st _ _ (.wts m (by rw [ec]; exact hm))
      rw [ec] at z
      exact SqT.of z
    have hr1 : SqT K H5 (W.c.wA m) ((List.range (W.c.wants m).length).map fun j => .ref (W.c.qA m j)) := stW hW5 e1c
    have hlen : ((List.range (W.c.wants m).length).map fun j => V.ref (W.c.qA m j)).length = (W.c.wants m).length := by rw [List.length_map, List.length_range]
    have hsl : srcT W.c own < W.scs.length := by
      unfold srcT
      split
      · exact hh
      · exact hb
    have hsu2 : srcT W.c own = up W b (lv W (srcT W.c own)) := by
      unfold srcT
      split
      · exact hsu
      · exact up_self.symm
    have hF1 : Full W1 (m + 1) := fun i t z1 z2 => by
      rw [e1t] at z1
      rw [e1c]
      rcases get_push z1 with z | ⟨_, z⟩
      · exact hF i t z (by omega)
      · rw [z] at z2
        exact absurd z2 (Nat.not_succ_le_self m)
    have hK1 : W1.ths[W.ths.length]? = some own := by rw [e1t]; exact push_at
    refine rdPart (W := W1) (x := m) (by rw [e1c]; rfl) rfl hW5 (by rw [e1c]; exact hm) ⟨_, _, 1, _, rfl, rfl, by rw [e1c]; exact sq1, rfl, _, rfl, ⟨_, hr1⟩, ?_⟩
    refine for_tup (K := K) (a := W.c.wA m) (xs := (List.range (W.c.wants m).length).map fun j => .ref (W.c.qA m j)) (fun j σ H' => ∃ (W2 : WS) (G : List (Option Nat)) (x9 x10 : Option V),
        σ = [some (.ref W.c.w), some (.str (nm m)), some (natV h), some (natV b), some (.ref tr), some (natV W.ths.length), some (.ref p), some (natV (srcT W.c own)), some (.ref ga), x9, x10] ∧ WAt H' W2 ∧ Ext W H W2 H' ∧ ga ∉ muts W2 ∧ H' ga = some (.lst (G.map optV)) ∧
        H' tr = some (.tup l) ∧ WInv W2 ∧ Grow W1 W2 (m + 1) ∧ Sz W1 W2 (j * (cG r + 1)) ∧ G.length = (hwt ((W.c.wants m).take j)).length ∧
        ∀ (i : Nat) (x : Option Nat), G[i]? = some x → ∃ u, (hwt ((W.c.wants m).take j))[i]? = some u ∧ HOkG W2 (srcT W.c own) b u x ∧ ∀ k, x = some k → W.c.life u = -1 → W.ths.length < k ∧ ∀ i', ¬ Holds W2 i' k) ?_ ?_ ?_ ?_
    · refine ⟨W1, [], none, none, ?_, hW5, hE5, ngam, h5g, s5 _ _ htr4, hI4, .refl, by rw [Nat.zero_mul]; exact .refl, rfl, fun i x z => by cases z⟩
      rw [e1c]
      rfl
    · rintro j σ H' _ ⟨W2, G, x9, x10, rfl, g1, g2, g3, g4, g5, g6, g7, _⟩
      exact stW g1 (g7.c.trans e1c)
    · rintro j x σ H' hx ⟨W2, G, x9, x10, rfl, g1, g2, g3, g4, g5, g6, g7, g8, g9, g10⟩
      obtain ⟨q, hq, rfl⟩ : ∃ q, (W.c.wants m)[j]? = some q ∧ x = V.ref (W.c.qA m j) := by
        have hj : j < (W.c.wants m).length := by
          have := lt_of_get hx
          rw [hlen] at this
          exact this
        refine ⟨_, List.getElem?_eq_getElem hj, ?_⟩
        rw [List.getElem?_map, List.getElem?_range hj] at hx
        exact (Option.some.inj hx).symm
      have hjl := lt_of_get hq
      have e2c : W2.c = W.c := g7.c.trans e1c
      have e2s : W2.scs = W.scs := g7.scs.trans e1s
      have e2h : W2.shut = W.shut := g7.shut.trans e1h
      have hqt : H' (W.c.qA m j) = some (.tup [.str (wayS q.1), .str (nm q.2)]) := by
        have z := g1.st _ _ (.want m (by rw [e2c]; exact hm) j q (by rw [e2c]; exact hq))
        rw [e2c] at z
        exact z
      have htk := hwt_take hq
      have hqm := List.mem_of_getElem? hq
      obtain ⟨hq1, hq2⟩ := hI.c.wants m hm q hqm
      refine ⟨_, _, rfl, SqT.of hqt, rfl, _, _, rfl, _, _, rfl, rfl, ?_⟩
      refine ⟨_, rfl, rfl, _, rfl, ?_⟩
      rw [ways_ne]
      cases hqb : q.1 with
      | false =>
        refine ⟨W2, G, _, _, rfl, g1, g2, g3, g4, g5, g6, g7, g8.mono (Nat.mul_le_mul_right _ (Nat.le_succ j)), ?_, ?_⟩
        · rw [htk, hqb]
          simp only [Bool.false_eq_true, if_false, List.append_nil]
          exact g9
        · rw [htk, hqb]
          simp only [Bool.false_eq_true, if_false, List.append_nil]
          exact g10
      | true =>
        refine ⟨_, rfl, tyL g4, _, rfl, _, rfl, _, rfl, _, rfl, _, rfl, _, rfl, W2, W.ths.length, q.2, srcT W.c own, b, tr, l, by rw [e2c]; rfl, ?_⟩
        have z1 : Sz W W1 1 := by
          rw [← hW1]
          exact ⟨by simp, by show W.fau.length ≤ _; omega, by show W.loose.length ≤ _; omega⟩
        have z2 := z1.trans g8
        have z3 : (j + 1) * (cG r + 1) ≤ r * (cG r + 1) := Nat.mul_le_mul_right _ (by omega)
        have z4 : (j + 1) * (cG r + 1) = j * (cG r + 1) + (cG r + 1) := Nat.succ_mul ..
        have hR2 : Rm W2 (cG r + 1) := by
          refine Rm.sub (hR.mono ?_) z2
          show _ ≤ 1 + r * (cG r + 1)
          omega
        refine ⟨by rw [e2c]; exact hq2, by rw [e2c]; omega, g1, g6, (hF1.grow g7).mono hq1, by rw [e2s]; exact hsl, by rw [up_congr e2s, lv_congr e2s]; exact hsu2, by rw [e2s]; exact hb, by rw [lv_congr e2s, e2c]; exact hbl, g5, hl, by omega, hR2, ?_⟩
        intro H'' W3 o hW3 hE3 hI3 hG3 hZ3 hO3
        have n3 : ga ∉ muts W3 := fun z => by
          rcases hE3.new ga z with y | y
          · exact g3 y
          · rw [g4] at y; cases y
        have k3 : H'' ga = some (.lst (G.map optV)) := hE3.keep ga _ g3 g4
        have t3 : H'' tr = some (.tup l) := hE3.tup g1 g5
        have hO4 : HOkG W3 (srcT W.c own) b q.2 o ∧ ∀ k, o = some k → W2.c.life q.2 = -1 → W2.ths.length ≤ k := by
          rcases hO3 with ⟨_, z⟩ | z
          · rw [e2h] at z
            exact absurd z hbo
          · exact z
        have hle2 := g7.len
        have hW1l : W1.ths.length = W.ths.length + 1 := by rw [e1t]; simp
        have hGl : G.length ≤ 10 := by
          have z5 : (hwt ((W.c.wants m).take j)).length ≤ ((W.c.wants m).take j).length := by
            unfold hwt
            rw [List.length_map]
            exact List.length_filter_le ..
          rw [List.length_take] at z5
          have := hI.c.n6
          omega
        refine ⟨ga, _, optV o, rfl, rfl, k3, by rw [List.length_map]; omega, ?_⟩
        refine ⟨W3, G ++ [o], _, _, rfl, hW3.priv n3 k3, (g2.trans hE3).priv ngaH, n3, by rw [upd_same, List.map_append]; rfl, by rw [upd_ne (ne_of t3 k3 (fun z => nomatch z))]; exact t3, hI3, g7.trans (hG3.mono hq1), ?_, ?_, ?_⟩
        · rw [z4]
          exact g8.trans hZ3
        · rw [htk, hqb, if_pos rfl, List.length_append, List.length_append, g9]
          rfl
        · intro i x hx
          rw [htk, hqb, if_pos rfl]
          rcases get_push hx with z | ⟨z, y⟩
          · obtain ⟨u, y1, y2, y3⟩ := g10 i x z
            refine ⟨u, by rw [List.getElem?_append_left (lt_of_get y1)]; exact y1, y2.onto hG3.onto (by rw [e2s]; exact hsl), fun k y4 y5 => ?_⟩
            obtain ⟨y6, y7⟩ := y3 k y4 y5
            refine ⟨y6, fun i' y8 => ?_⟩
            rcases Nat.lt_or_ge i' W2.ths.length with y9 | y9
            · exact y7 i' (hG3.holds y9 y8)
            · have y10 := hG3.new2 i' k y9 y8
              subst y4
              obtain ⟨x, y11, _⟩ := y2
              have := lt_of_get y11
              omega
          · subst y
            refine ⟨q.2, by rw [z, g9, List.getElem?_append_right (Nat.le_refl _), Nat.sub_self]; rfl, hO4.1, fun k y4 y5 => ?_⟩
            have y6 := hO4.2 k y4 (by rw [e2c]; exact y5)
            subst y4
            obtain ⟨x, y7, y8, _⟩ := hO4.1
            exact ⟨by omega, unheld hG3 g6 hI3 y6 y7 y8⟩
    · rintro σ H' ⟨W2, G, x9, x10, rfl, g1, g2, g3, g4, g5, g6, g7, g8, g9, g10⟩
      rw [hlen] at g8 g9 g10
      rw [List.take_length] at g9 g10
      have e2c : W2.c = W.c := g7.c.trans e1c
      have e2s : W2.scs = W.scs := g7.scs.trans e1s
      refine ⟨_, rfl, ga, _, rfl, .inl ⟨SqL.of g4, fun l2 nl2 => ?_⟩⟩
      have s6 := same_new (o := .tup (G.map optV)) nl2
      have hW6 := g1.same s6
      have hK2 := g7.pre _ _ hK1
      obtain ⟨hW7, hE7⟩ := w_change (t' := { own with held := G, ha := l2 }) hW6 hK2 rfl upd_same
      refine ⟨_, rfl, p, _, rfl, DPut.k (k := .inr "held") (hW6.htt (th_mem hK2)) (by show 5 < sizeLine; decide), ?_⟩
      rw [tkput_held own G l2]
      have z1 : Sz W W1 1 := by
        rw [← hW1]
        exact ⟨by simp, by show W.fau.length ≤ _; omega, by show W.loose.length ≤ _; omega⟩
      have z2 := z1.trans g8
      have hGl : ∀ (j : Nat) (x : Option Nat), G[j]? = some x → ∃ u, (hw W2.c own.nm)[j]? = some u ∧ HOkG W2 (srcT W2.c own) own.by_ u x := fun j x z => by
        obtain ⟨u, y1, y2, _⟩ := g10 j x z
        rw [e2c]
        exact ⟨u, y1, y2⟩
      have hI7 := winv_held (a := l2) g6 hK2 hGl fun j u k' y1 y2 y3 i => by
        obtain ⟨u', y4, y5, y6⟩ := g10 j _ y1
        rw [e2c] at y2 y3
        have y7 : (hwt (W.c.wants m))[j]? = some u := y2
        rw [y7] at y4
        cases y4
        exact (y6 k' rfl y3).2 i
      have hlK : W.ths.length < W2.ths.length := by
        have := g7.len
        rw [e1t] at this
        simp at this
        omega
      refine ⟨_, rfl, q _ _ hW7 ((g2.trans (.of_same s6)).trans hE7) hI7 ?_ ?_ ⟨_, set_at hK2, rfl, rfl, rfl⟩⟩
      · have f1 : W1.wks = W.wks ∧ W1.put = W.put ∧ W1.lo = W.lo ∧ W1.told = W.told ∧ W1.deeds = W.deeds ∧ W1.line = W.line := by rw [← hW1]; exact ⟨rfl, rfl, rfl, rfl, rfl, rfl⟩
        obtain ⟨f2, f3, f4, f5, f6, f7⟩ := f1
        refine ⟨e2c, e2s, g7.shut.trans e1h, g7.wks.trans f2, g7.put.trans f3, g7.lo.trans f4, g7.told.trans f5, g7.deeds.trans f6, g7.line.trans f7, fun i t y1 => ?_, fun i t y1 y2 => ?_, fun i k y1 y2 => ?_⟩
        · refine set_ne (g7.pre _ _ (by rw [e1t]; exact push_pre y1)) ?_
          have := lt_of_get y1
          omega
        · rcases get_set y2 with ⟨y3, y4⟩ | ⟨y3, y4⟩
          · have y5 := g7.new1 i t (by rw [e1t]; simp; omega) y4
            rw [e1c] at y5
            exact ⟨by omega, y5.2⟩
          · rw [y4]
            exact ⟨Nat.le_refl _, g9⟩
        · obtain ⟨x, j, u, y3, y4, y5, y6⟩ := y2
          rcases get_set y3 with ⟨y7, y8⟩ | ⟨y7, y8⟩
          · have := g7.new2 i k (by rw [e1t]; simp; omega) ⟨x, j, u, y8, y4, y5, y6⟩
            rw [e1t] at this
            simp at this
            omega
          · rw [y8] at y4 y5
            obtain ⟨u', y9, _, y10⟩ := g10 j _ y5
            have y11 : (hw W2.c m)[j]? = some u := y4
            have y12 : W2.c.life u = -1 := y6
            rw [e2c] at y11 y12
            have y13 : (hwt (W.c.wants m))[j]? = some u := y11
            rw [y13] at y9
            cases y9
            exact Nat.le_of_lt (y10 k rfl y12).1
      · have z3 : (W.c.wants m).length * (cG r + 1) ≤ r * (cG r + 1) := Nat.mul_le_mul_right _ (by omega)
        have z4 : Sz W W2 (cG (r + 1)) := z2.mono (by show _ ≤ 1 + r * (cG r + 1); omega)
        exact ⟨by show (W2.ths.set _ _).length ≤ _; rw [List.length_set]; exact z4.t, z4.f, z4.l⟩
theorem ok_got_of (T : Txt K mg) (r : Nat) (G_law_new : OKF P w K mg base (3 * r + 5) "_law_new" P_law_new (spNew r)) : OKF P w K mg base (3 * r + 6) "_law_got" P_law_got (spGot (r + 1)) := by
  have G_law_spot := ok_spot (P := P) (w := w) (base := base) T
  have G_law_there := ok_there (P := P) (w := w) (base := base) T
  refine okf T.f_law_got sc_law_got (fun _ _ _ _ _ _ us hl => match us, hl with | [_, _, _, _, _], _ => rfl) (fun vs H Q E h => ?_) (fun cdv A outer s H vs Q E hr h => ⟨_, (pss_cons (ps_set (i := 5) sc_law_got.nd rfl (Or.inl rfl) (pe_cmpR (inS K) (pv 3) (pe_dget (hu_of hr) (pv 0) pe_str (fun _ _ => rfl)) (by rfl)))
    (pss_cons (ps_if (pt_cmpR op_eq (pe_ix (ixT K) (pe_dget (hu_of hr) (pe_dget (hu_of hr) (pv 0) pe_str (fun _ _ => rfl)) (pv 1) (fun _ _ => rfl)) pe_int (fun _ _ => rfl)) (pe_un un_neg pe_int) (nomark _)) (pss_one (ps_ret (pe_ifExp (pt_val (pv 5)) pe_non (pe_callK K G_law_new (hr.mono (by omega)) (by rfl) (pa_cons (pv 0) (pa_cons (pv 1) (pa_cons (pv 2) (pa_cons (pv 3) (pa_cons (pv 4) pa_nil))))))))) pss_nil)
    (pss_cons (ps_set (i := 6) sc_law_got.nd rfl (Or.inl rfl) (pe_callK K G_law_spot (hr.mono (by omega)) (by rfl) (pa_cons (pv 0) (pa_cons (pv 1) (pa_cons (pv 2) pa_nil)))))
    (pss_cons (ps_if (pt_cmpR op_isN (pv 6) pe_non (nomark _)) (pss_one (ps_ret pe_non)) pss_nil)
    (pss_cons (ps_set (i := 7) sc_law_got.nd rfl (Or.inl rfl) (pe_callK K G_law_there (hr.mono (by omega)) (by rfl) (pa_cons (pv 0) (pa_cons (pv 1) (pa_cons (pv 6) pa_nil)))))
    (pss_cons (ps_if (pt_val (pv 5)) (pss_one (ps_ret (pe_ifExp (pt_cmpR (inS K) (pv 6) (pe_dget (hu_of hr) (pv 0) pe_str (fun _ _ => rfl)) (by rfl)) pe_non (pv 7)))) pss_nil)
    (pss_one (ps_ret (pe_ifExp (pt_cmpR op_isN (pv 7) pe_non (nomark _)) (pe_callK K G_law_new (hr.mono (by omega)) (by rfl) (pa_cons (pv 0) (pa_cons (pv 1) (pa_cons (pv 6) (pa_cons (pv 3) (pa_cons (pv 4) pa_nil)))))) (pv 7)))))))))), ?_⟩)
  · obtain ⟨W, m, s, b, tr, l, rfl, _⟩ := h
    rfl
  · obtain ⟨W, m, s, b, tr, l, rfl, hm, hr2, hW, hI, hF, hs, hsu, hb, hbl, htr, hl, hln, hR, q⟩ := h
    have hlf := hI.c.life m hm
    refine ⟨_, rfl, rdW rfl hW (wk_shut W) ⟨_, _, rfl, .inl (SqL.of hW.hsh), rfl, flat_nat, ?_⟩⟩
    dsimp only
    rw [inV_nat]
    refine rdPart rfl rfl hW hm ⟨_, _, 0, _, rfl, rfl, sqPart hW hm, rfl, ?_⟩
    refine ⟨_, rfl, rfl, _, rfl, ?_⟩
    rw [show decide (V.int (W.c.life m) = (fun i => V.int (-i)) 1) = decide (W.c.life m = -1) from decint]
    refine ite2 (fun c => ?_) (fun c => ?_)
    · have c1 := of_decide_eq_true c
      refine ⟨_, rfl, _, rfl, ?_⟩
      refine ite2 (fun d => ?_) (fun d => ?_)
      · have d1 : b ∈ W.shut := of_decide_eq_true (show decide (b ∈ W.shut) = true from d)
        exact q H W none hW .refl hI .refl (Sz.refl.mono (Nat.zero_le _)) (.inl ⟨rfl, d1⟩)
      · have d1 : b ∉ W.shut := fun z => d (decide_eq_true (p := b ∈ W.shut) z)
        refine ⟨_, rfl, _, rfl, _, rfl, _, rfl, _, rfl, W, m, s, b, tr, l, rfl, hm, by omega, hW, hI, hF, hs, hsu, hb, hbl, d1, fun z => absurd c1 z, htr, hl, by omega, hR, fun H' W' h1 h2 h3 h4 h5 ⟨t, h6, h7, h8, h9⟩ => ?_⟩
        exact q H' W' (some W.ths.length) h1 h2 h3 h4 h5 (.inr ⟨⟨t, h6, h7, fun _ => ⟨h8, h9⟩, fun z => absurd (by rw [h4.c]; exact c1) z⟩, fun k e _ => by cases e; exact Nat.le_refl _⟩)
    · have c1 : W.c.life m ≠ -1 := fun z => c (decide_eq_true z)
      refine ⟨_, rfl, _, rfl, _, rfl, W, m, s, rfl, hW, hI.s, hm, hs, by omega, ?_⟩
      by_cases e : (lv W s : Int) < W.c.life m ∧ W.c.lifted ≠ "kept"
      · have eo : spotO W m s = none := if_pos e
        rw [eo]
        refine ⟨_, rfl, rfl, _, rfl, ?_⟩
        refine ite2 (fun d => ?_) (fun d => absurd (decide_eq_true rfl) d)
        exact q H W none hW .refl hI .refl (Sz.refl.mono (Nat.zero_le _)) (.inr ⟨⟨e.2, e.1⟩, fun k z => nomatch z⟩)
      · have eo : spotO W m s = some (up W s (W.c.life m).toNat) := if_neg e
        have e2 : W.c.lifted = "kept" ∨ W.c.life m ≤ lv W s := by
          by_cases z : W.c.lifted = "kept"
          · exact .inl z
          · right
            rcases Decidable.em ((lv W s : Int) < W.c.life m) with y | y
            · exact absurd ⟨y, z⟩ e
            · omega
        rw [eo]
        generalize hsp : up W s (W.c.life m).toNat = sp
        have hspl : sp < W.scs.length := by rw [← hsp]; exact hI.s.up_lt hs
        have hspu : sp = up W b (lv W sp) := by
          rw [← hsp]
          exact hI.s.anc hb hsu (by rw [hbl]; exact hI.s.le hs)
        have hspv : (lv W sp : Int) ≤ W.c.life m := by
          rw [← hsp, hI.s.lv_min hs]
          omega
        have n6 := hI.c.n6
        refine ⟨_, rfl, rfl, _, rfl, ?_⟩
        refine ite2 (fun d => absurd (of_decide_eq_true d) (fun z => nomatch z)) (fun d => ?_)
        refine ⟨_, rfl, _, rfl, _, rfl, W, m, sp, rfl, hW, by omega, fun t ht => ?_, by have := hR.t; omega, fun H1 o s1 ho1 ho2 => ?_⟩
        · obtain ⟨k, hk, ek⟩ := List.getElem_of_mem ht
          have := (hI.t k t (by rw [List.getElem?_eq_getElem hk, ek])).nm
          omega
        have hW1 := hW.same s1
        have hG1 : ∀ k, o = some k → HOkG W s b m (some k) := fun k z => by
          obtain ⟨t, t1, t2, t3⟩ := ho2 k z
          exact ⟨t, t1, t2, fun y => absurd y c1, fun _ => ⟨by rw [hsp]; exact t3, e2⟩⟩
        have hG2 : ∀ k, o = some k → Q (optV o) H1 := fun k z => q H1 W o hW1 (.of_same s1) hI .refl (Sz.refl.mono (Nat.zero_le _)) (.inr ⟨by rw [z]; exact hG1 k z, fun _ _ y => absurd y c1⟩)
        refine ⟨_, rfl, _, rfl, ?_⟩
        refine ite2 (fun d => ?_) (fun d => ?_)
        · have d1 : b ∈ W.shut := of_decide_eq_true (show decide (b ∈ W.shut) = true from d)
          have hN : Q .non H1 := q H1 W none hW1 (.of_same s1) hI .refl (Sz.refl.mono (Nat.zero_le _)) (.inl ⟨rfl, d1⟩)
          refine ⟨_, rfl, rdW rfl hW1 (wk_shut W) ⟨_, _, rfl, .inl (SqL.of hW1.hsh), rfl, flat_nat, _, rfl, ?_⟩⟩
          refine ite2 (fun _ => hN) (fun _ => ⟨_, rfl, ?_⟩)
          cases ho : o with
          | none => exact hN
          | some k => rw [← ho]; exact hG2 k ho
        · have d1 : b ∉ W.shut := fun z => d (decide_eq_true (p := b ∈ W.shut) z)
          refine ⟨_, rfl, rfl, _, rfl, ?_⟩
          cases ho : o with
          | some k =>
            refine ite2 (fun d => absurd (of_decide_eq_true d) (fun z => nomatch z)) (fun _ => ⟨_, rfl, ?_⟩)
            rw [← ho]
            exact hG2 k ho
          | none =>
            refine ite2 (fun _ => ?_) (fun d => absurd (decide_eq_true rfl) d)
            refine ⟨_, rfl, _, rfl, _, rfl, _, rfl, _, rfl, W, m, sp, b, tr, l, rfl, hm, by omega, hW1, hI, hF, hspl, hspu, hb, hbl, d1, fun _ => hspv, s1 _ _ htr, hl, by omega, hR, fun H' W' h1 h2 h3 h4 h5 ⟨t, h6, h7, h8, h9⟩ => ?_⟩
            refine q H' W' (some W.ths.length) h1 (Ext.trans (.of_same s1) h2) h3 h4 h5 (.inr ⟨⟨t, h6, h7, fun z => absurd (by rw [h4.c] at z; exact z) c1, fun _ => ?_⟩, fun k e y => absurd y c1⟩)
            rw [up_congr h4.scs, lv_congr h4.scs, h4.c, hsp]
            exact ⟨h8, e2⟩
theorem ok_got (T : Txt K mg) : ∀ r, OKF P w K mg base (3 * r + 3) "_law_got" P_law_got (spGot r)
  | 0 => okf0 T.f_law_got (fun _ _ _ _ _ _ us hl => match us, hl with | [_, _, _, _, _], _ => rfl) fun vs H Q E ⟨_, _, _, _, _, _, _, z1, z2, _⟩ => absurd z1 (by omega)
  | r + 1 => ok_got_of T r (ok_new_of T r (ok_wanted_of T r (ok_got T r)))
end
end HL

set_option Elab.async false
set_option linter.all false
set_option maxRecDepth 100000
set_option maxHeartbeats 4000000
/-! U1: stand_of, seen, led_right, lack_right -/
namespace HL
open PySem PySem.Spec PyProof.Rows L2
def bkOf (c : Cfg) : Bk := ⟨c.held, c.each, c.lifted, c.ends, c.works⟩
theorem inV_bool {b : Bool} {l : List Bool} : inV (.bl b) (l.map V.bl) = decide (b ∈ l) := by
  unfold inV
  rw [List.any_map]
  apply Bool.eq_iff_iff.mpr
  rw [List.any_eq_true, decide_eq_true_eq]
  constructor
  · rintro ⟨x, hx, e⟩
    have e2 : (x == b) = true := e
    rw [beq_iff_eq] at e2
    rw [← e2]
    exact hx
  · intro h
    exact ⟨b, h, by show (b == b) = true; simp⟩
theorem flat_bool2 {l : List Bool} : (l.map V.bl).all flatV = true := by
  rw [List.all_eq_true]
  intro v hv
  obtain ⟨x, _, rfl⟩ := List.mem_map.mp hv
  rfl
section
variable {P : Program} {w : World} {K : PySem.W.Frag} {mg : Str → Option Value} {base : Heap}
def spStandOf : Sp := fun vs H Q _ => ∃ (W : WS) (k r : Nat) (t : Thing), vs = [.ref W.c.w, natV k, natV r] ∧ WAt H W ∧ WInv W ∧ W.ths[k]? = some t ∧ r < W.scs.length ∧ lv W r = W.c.D ∧ W.ths.length ≤ 1000000 ∧
  ∀ H' v, Same H H' → (v = .non ∨ ∃ a S, v = .ref a ∧ StAt H' a S ∧ StandR W t k r S) → Q v H'
theorem rdRooted {σ : L2.St} {H : Hp} {Q : VK} {W : WS} {k : Nat} {t : Thing} (h0 : σ[0]? = some (some (.ref W.c.w))) (h1 : σ[1]? = some (some (natV k))) (h3 : σ[3]? = some (some (.ref t.ad))) (hW : WAt H W) (hI : WInv W) (ht : W.ths[k]? = some t) (hz : W.ths.length ≤ 1000000)
    (q : ∀ (H' : Hp) (b : Bool), Same H H' → (b = true ↔ t.home = 0 ∧ Att W k) → Q (.bl b) H') :
    tAndV (tOp rEq (tDGet (tVar 3) (tC (.str "home"))) (tC (.int 0))) (tCall (spAtt 6) [] E0 (tCons (tVar 0) (tCons (tVar 1) tNil))) σ H Q := by
  refine rdT h3 hW (th_mem ht) (tk_home t) ⟨rfl, ?_⟩
  rw [show decide (natV t.home = V.int 0) = decide (t.home = 0) from natV_dec]
  refine ⟨_, rfl, ?_⟩
  refine ite2 (fun c => ?_) (fun c => ?_)
  · have c1 := of_decide_eq_true c
    have n6 := hI.c.n6
    have := (hI.t k t ht).nm
    exact ⟨_, h0, _, h1, W, k, t, rfl, hW, hI, ht, by omega, hz, fun H' b s hb => q H' b s ⟨fun z => ⟨c1, hb.mp z⟩, fun z => hb.mpr z.2⟩⟩
  · exact q H false (fun _ _ z => z) ⟨fun z => (nomatch z), fun z => absurd (decide_eq_true z.1) c⟩
theorem ok_stand_of (T : Txt K mg) : OKF P w K mg base 9 "_law_stand_of" P_law_stand_of spStandOf := by
  have G_law_is_attached := ok_att (P := P) (w := w) (base := base) T 6
  have G_law_up := ok_up (P := P) (w := w) (base := base) T
  refine okf T.f_law_stand_of sc_law_stand_of (fun _ _ _ _ _ _ us hl => match us, hl with | [_, _, _], _ => rfl) (fun vs H Q E h => ?_) (fun cdv A outer s H vs Q E hr h => ⟨_, (pss_cons (ps_set (i := 3) sc_law_stand_of.nd rfl (Or.inr rfl) (pe_ix (ixL K) (pe_dget (hu_of hr) (pv 0) pe_str (fun _ _ => rfl)) (pv 1) (fun _ _ => rfl)))
    (pss_cons (ps_set (i := 4) sc_law_stand_of.nd rfl (Or.inl rfl) (pe_ix (ixT K) (pe_dget (hu_of hr) (pe_dget (hu_of hr) (pv 0) pe_str (fun _ _ => rfl)) (pe_dget (hu_of hr) (pv 3) pe_str (fun _ _ => rfl)) (fun _ _ => rfl)) pe_int (fun _ _ => rfl)))
    (pss_cons (ps_set (i := 5) sc_law_stand_of.nd rfl (Or.inl rfl) (pe_ix (ixT K) (pe_dget (hu_of hr) (pe_dget (hu_of hr) (pv 0) pe_str (fun _ _ => rfl)) (pe_dget (hu_of hr) (pv 3) pe_str (fun _ _ => rfl)) (fun _ _ => rfl)) pe_int (fun _ _ => rfl)))
    (pss_cons (ps_set (i := 6) sc_law_stand_of.nd rfl (Or.inl rfl) (pe_and (pe_cmpR op_eq (pe_dget (hu_of hr) (pv 3) pe_str (fun _ _ => rfl)) pe_int (nomark _)) (pe_one (pe_callK K G_law_is_attached (hr.mono (by omega)) (by rfl) (pa_cons (pv 0) (pa_cons (pv 1) pa_nil))))))
    (pss_cons (ps_if (pt_cmpR op_eq (pe_dget (hu_of hr) (pv 3) pe_str (fun _ _ => rfl)) (pv 2) (nomark _)) (pss_one (ps_ret (pe_tup (pa_cons (pv 4) (pa_cons (pv 5) (pa_cons pe_str (pa_cons pe_int (pa_cons pe_bl (pa_cons (pv 6) pa_nil))))))))) pss_nil)
    (pss_cons (ps_set (i := 7) sc_law_stand_of.nd rfl (Or.inl rfl) (pe_callB (maxL K rfl) (by rfl) T.b_max (by decide +kernel) (pa_cons (pe_lc (own := [("_law_k", 9)]) (g := (gName 9)) rfl sc_law_stand_of.nd (pi_range1 (by rfl) T.b_range (pa_cons (pe_dget (hu_of hr) (pv 0) pe_str (fun _ _ => rfl)) pa_nil)) (blkOk_by (own := [("_law_k", 9)]) (N := N_law_stand_of) (sc := defScope s_law_stand_of) (by decide +kernel)) (fun _ _ _ _ _ => (pg_name (i := 9) sc_law_stand_of.nd rfl (by first | exact Or.inl rfl | exact Or.inr rfl) (by first | exact .inl rfl | exact .inr rfl))) (fun _ _ _ _ _ => (pts_one (pt_cmpR op_eq (pe_callK K G_law_up (hr.mono (by omega)) (by rfl) (pa_cons (pv 0) (pa_cons (pe_dget (hu_of hr) (pv 3) pe_str (fun _ _ => rfl)) (pa_cons (pv 9) pa_nil)))) (pe_callK K G_law_up (hr.mono (by omega)) (by rfl) (pa_cons (pv 0) (pa_cons (pv 2) (pa_cons (pv 9) pa_nil)))) (nomark _)))) (fun _ _ _ _ _ => (pv 9))) pa_nil)))
    (pss_cons (ps_setLc (i := 8) (own := [("_law_k", 9)]) (g := (gName 9)) (tt := tYes) rfl sc_law_stand_of.nd rfl rfl (sw_true rfl rfl rfl (by decide +kernel)) (pi_range2 (by rfl) T.b_range (pa_cons (pe_op op_add (pv 7) pe_int) (pa_cons (pe_op op_add (pe_dget (hu_of hr) (pv 0) pe_str (fun _ _ => rfl)) pe_int) pa_nil))) (blkOk_by (own := [("_law_k", 9)]) (N := N_law_stand_of) (sc := defScope s_law_stand_of) (by decide +kernel)) (fun _ _ _ _ _ => (pg_name (i := 9) sc_law_stand_of.nd rfl (by first | exact Or.inl rfl | exact Or.inr rfl) (by first | exact .inl rfl | exact .inr rfl))) (fun _ _ _ _ _ => pts_nil) (fun _ _ _ _ _ => (pe_cmpR (inS K) (pe_callK K G_law_up (hr.mono (by omega)) (by rfl) (pa_cons (pv 0) (pa_cons (pe_dget (hu_of hr) (pv 3) pe_str (fun _ _ => rfl)) (pa_cons (pv 9) pa_nil)))) (pe_dget (hu_of hr) (pv 0) pe_str (fun _ _ => rfl)) (by rfl))))
    (pss_cons (ps_if (PW.pt (pw_and (pt_cmpR (inS K) pe_bl (pv 8) (by rfl)) (pw_and1 (pt_cmpR (inS K) pe_bl (pv 8) (by rfl))))) (pss_one (ps_ret pe_non)) pss_nil)
    (pss_one (ps_ret (pe_tup (pa_cons (pv 4) (pa_cons (pv 5) (pa_cons pe_str (pa_cons (pv 7) (pa_cons (pe_cmpR (inS K) pe_bl (pv 8) (by rfl)) (pa_cons (pv 6) pa_nil))))))))))))))))), ?_⟩)
  · obtain ⟨W, k, r, t, rfl, _⟩ := h
    rfl
  · obtain ⟨W, k, r, t, rfl, hW, hI, ht, hr2, lr, hz, q⟩ := h
    have ok := hI.t k t ht
    have hhl := ok.hlt hI.s
    obtain ⟨x, hx⟩ := scp_of hhl
    have ex := lv_of hx
    have n6 := hI.c.n6
    refine rdTh rfl rfl hW ht (rdW rfl hW (wk_model W) ⟨_, rfl, _, _, rfl, dget_of (k := .inr "name") (hW.htt (th_mem ht)) (tk_name t), _, _, rfl, dget_of (k := .inr (nm t.nm)) (hW.st _ _ .mo) (mo_at _ ok.nm), ?_⟩)
    refine ⟨_, _, 0, _, rfl, rfl, sqPart hW ok.nm, rfl, ?_⟩
    refine rdW rfl hW (wk_scopes W) ⟨_, rfl, _, _, rfl, dget_of (k := .inr "home") (hW.htt (th_mem ht)) (tk_home t), _, _, rfl, dscope hW hx, ?_⟩
    refine ⟨_, _, 0, _, rfl, rfl, tscope hW hx, rfl, ?_⟩
    refine rdRooted rfl rfl rfl hW hI ht hz fun H1 rb s1 hrb => ?_
    have hW1 := hW.same s1
    refine rdT rfl hW1 (th_mem ht) (tk_by t) ⟨_, rfl, rfl, _, rfl, ?_⟩
    rw [natV_dec]
    refine ite2 (fun c => ?_) (fun c => ?_)
    · have c1 := of_decide_eq_true c
      refine ⟨_, rfl, _, rfl, _, rfl, szl, fun p np => ?_⟩
      exact q _ _ (s1.trans (same_new np)) (.inr ⟨p, ⟨W.c.life t.nm, (x.lev : Nat), true, 0, false, rb⟩, rfl, upd_same, rfl, by rw [ex], hrb, .inl ⟨c1, rfl, rfl, rfl⟩⟩)
    · have c1 : t.by_ ≠ r := fun z => c (decide_eq_true z)
      have hD3 := hI.c.D3
      have hD1 := hI.c.D1
      have hb2 := ok.by2
      refine rdW rfl hW1 (wk_depth W) ⟨_, rfl, by omega, by omega, fun D nD => ?_⟩
      rw [show ((W.c.D : Nat) : Int).toNat = W.c.D by omega]
      refine lc_range (fun j H2 => ∃ L : List Nat, H2 D = some (.lst (L.map natV)) ∧ L.length ≤ j ∧ KeepD D H1 H2 ∧ ∀ i, i ∈ L ↔ i < j ∧ up W t.by_ i = up W r i)
        ⟨[], upd_same, Nat.le_refl _, KeepD.of (same_new nD), fun k => ⟨(fun z => nomatch z), (fun z => absurd z.1 (by omega))⟩⟩ ?_ ?_
      · rintro j H2 hj ⟨L, e1, e2, e3, e4⟩
        have hW2 := hW1.same (e3.same nD)
        refine ⟨rfl, ?_⟩
        rw [Int.zero_add]
        refine ⟨_, rfl, rdT rfl hW2 (th_mem ht) (tk_by t) ⟨_, rfl, W, t.by_, j, rfl, hW2, hI.s, ok.by1, ⟨_, rfl, _, rfl, _, rfl, W, r, j, rfl, hW2, hI.s, hr2, rfl, _, rfl, ?_⟩⟩⟩
        rw [natV_dec]
        refine ite2 (fun d => ?_) (fun d => ?_)
        · have d1 := of_decide_eq_true d
          refine ⟨_, rfl, _, e1, by rw [List.length_map]; have := sizeLine_eq; omega, L ++ [j], by rw [upd_same, List.map_append]; rfl, by simp; omega, e3.trans KeepD.upd, fun i => ?_⟩
          rw [List.mem_append, e4, List.mem_singleton]
          constructor
          · rintro (⟨z1, z2⟩ | rfl)
            · exact ⟨by omega, z2⟩
            · exact ⟨by omega, d1⟩
          · rintro ⟨z1, z2⟩
            rcases Nat.lt_or_ge i j with z | z
            · exact .inl ⟨z, z2⟩
            · exact .inr (by omega)
        · refine ⟨L, e1, by omega, e3, fun i => ?_⟩
          rw [e4]
          constructor
          · rintro ⟨z1, z2⟩
            exact ⟨by omega, z2⟩
          · rintro ⟨z1, z2⟩
            rcases Nat.lt_or_ge i j with z | z
            · exact ⟨z, z2⟩
            · have : i = j := by omega
              subst this
              exact absurd (decide_eq_true z2) d
      · rintro H2 ⟨L, e1, e2, e3, e4⟩
        have s2 := e3.same nD
        have hW2 := hW1.same s2
        have hL0 : 0 ∈ L := (e4 0).mpr ⟨by omega, by rw [hI.s.up0 ok.by1, hI.s.up0 hr2]⟩
        refine ⟨D, L.map fun (i : Nat) => (i : Int), rfl, by rw [map_nat_int]; exact SqL.of e1, by rw [List.length_map]; exact List.length_pos_of_mem hL0, fun m hm hmax => ?_⟩
        obtain ⟨cc, hc, rfl⟩ := List.mem_map.mp hm
        obtain ⟨hc1, hc2⟩ := (e4 cc).mp hc
        have hc3 : up W t.by_ (cc + 1) ≠ up W r (cc + 1) := fun z => by
          rcases Nat.lt_or_ge (cc + 1) W.c.D with y | y
          · have y2 := hmax _ (List.mem_map.mpr ⟨cc + 1, (e4 _).mpr ⟨y, z⟩, rfl⟩)
            omega
          · rw [up_ge (by omega), up_ge (by omega)] at z
            exact c1 z
        refine ⟨_, rfl, _, _, rfl, rfl, rdW rfl hW2 (wk_depth W) ⟨_, _, rfl, rfl, _, _, rfl, ⟨by omega, by omega, by omega, by omega⟩, fun F nF => ?_⟩⟩
        rw [show ((W.c.D : Int) + 1 - ((cc : Int) + 1)).toNat = W.c.D - cc by omega]
        refine lc_range (fun j H3 => H3 F = some (.lst (((List.range j).map fun i => decide (up W t.by_ (cc + 1 + i) ∈ W.shut)).map V.bl)) ∧ KeepD F H2 H3) ⟨upd_same, KeepD.of (same_new nF)⟩ ?_ ?_
        · rintro j H3 hj ⟨f1, f2⟩
          have hW3 := hW2.same (f2.same nF)
          refine ⟨rfl, ?_⟩
          rw [show (cc : Int) + 1 + (j : Int) = ((cc + 1 + j : Nat) : Int) by omega]
          refine ⟨_, rfl, rdT rfl hW3 (th_mem ht) (tk_by t) ⟨_, rfl, W, t.by_, cc + 1 + j, rfl, hW3, hI.s, ok.by1, rdW rfl hW3 (wk_shut W) ⟨_, _, rfl, .inl (SqL.of hW3.hsh), rfl, flat_nat, _, f1, ?_, ?_, ?_⟩⟩⟩
          · rw [List.length_map, List.length_map, List.length_range]
            have := sizeLine_eq
            omega
          · rw [upd_same, List.range_succ, List.map_append, List.map_append]
            rw [inV_nat]
            rfl
          · exact f2.trans KeepD.upd
        · rintro H3 ⟨f1, f2⟩
          have s3 := f2.same nF
          have hW3 := hW2.same s3
          generalize hB : (List.range (W.c.D - cc)).map (fun i => decide (up W t.by_ (cc + 1 + i) ∈ W.shut)) = B at f1
          have memB : ∀ b, b ∈ B ↔ ∃ j, cc < j ∧ j ≤ W.c.D ∧ decide (up W t.by_ j ∈ W.shut) = b := fun b => by
            rw [← hB, List.mem_map]
            constructor
            · rintro ⟨i, hi, e⟩
              rw [List.mem_range] at hi
              exact ⟨cc + 1 + i, by omega, by omega, e⟩
            · rintro ⟨j, h1, h2, e⟩
              exact ⟨j - (cc + 1), List.mem_range.mpr (by omega), by rw [show cc + 1 + (j - (cc + 1)) = j by omega]; exact e⟩
          have last : ∀ (y : ¬ (true ∈ B ∧ false ∈ B)), tRet (tTup (tCons (tVar 4) (tCons (tVar 5) (tCons (tC (V.str "other")) (tCons (tVar 7) (tCons (tOp (rIn K false) (tC (V.bl true)) (tVar 8)) (tCons (tVar 6) tNil)))))))
              { nx := fun x H' => Q V.non H', rt := Q } (((((List.set (L2.start N_law_stand_of [V.ref W.c.w, natV k, natV r]) 3 (some (V.ref t.ad))).set 4 (some (V.int (W.c.life t.nm)))).set 5 (some (natV x.lev))).set 6 (some (V.bl rb))).set 7 (some (.int (cc : Int))) |>.set 8 (some (.ref F))) H3 := fun y => by
            refine ⟨_, rfl, _, rfl, _, rfl, _, rfl, _, _, rfl, .inl (SqL.of f1), rfl, flat_bool2, ?_⟩
            dsimp only
            rw [inV_bool]
            refine ⟨_, rfl, szl, fun p np => ?_⟩
            refine q _ _ (s1.trans (s2.trans (s3.trans (same_new np)))) (.inr ⟨p, ⟨W.c.life t.nm, (x.lev : Nat), false, cc, decide (true ∈ B), rb⟩, rfl, upd_same, rfl, by rw [ex], hrb, .inr ⟨c1, rfl, cc, rfl, hc1, hc2, hc3, fun j h1 h2 => ?_⟩⟩)
            rw [decide_eq_true_eq]
            constructor
            · intro z
              exact (memB true).mpr ⟨j, h1, h2, decide_eq_true z⟩
            · intro z
              rcases Decidable.em (up W t.by_ j ∈ W.shut) with z2 | z2
              · exact z2
              · exact absurd ⟨z, (memB false).mpr ⟨j, h1, h2, decide_eq_false z2⟩⟩ y
          refine ⟨_, rfl, _, _, rfl, .inl (SqL.of f1), rfl, flat_bool2, _, rfl, ?_⟩
          rw [inV_bool]
          refine ite2 (fun d => ?_) (fun d => last (fun z => d (decide_eq_true z.1)))
          refine ⟨_, rfl, _, _, rfl, .inl (SqL.of f1), rfl, flat_bool2, _, rfl, ?_⟩
          rw [inV_bool]
          refine ite2 (fun d2 => ?_) (fun d2 => last (fun z => d2 (decide_eq_true z.2)))
          exact q _ _ (s1.trans (s2.trans s3)) (.inl rfl)
end
end HL

set_option Elab.async false
set_option linter.all false
set_option maxRecDepth 100000
set_option maxHeartbeats 4000000
/-! U2: seen, led_right, lack_right -/
namespace HL
open PySem PySem.Spec PyProof.Rows L2
theorem inV_str {x : Str} {l : List Str} : inV (.str x) (l.map V.str) = decide (x ∈ l) := by
  unfold inV
  rw [List.any_map]
  apply Bool.eq_iff_iff.mpr
  rw [List.any_eq_true, decide_eq_true_eq]
  constructor
  · rintro ⟨y, hy, e⟩
    have e2 : (y == x) = true := e
    rw [beq_iff_eq] at e2
    rw [← e2]
    exact hy
  · intro h
    exact ⟨x, h, by show (x == x) = true; simp⟩
theorem flat_str2 {l : List Str} : (l.map V.str).all flatV = true := by
  rw [List.all_eq_true]
  intro v hv
  obtain ⟨x, _, rfl⟩ := List.mem_map.mp hv
  rfl
theorem rdAnd {ta tb : TE} {σ : L2.St} {H : Hp} {Q : VK} (c d : Bool) (ha : ∀ R : VK, R (.bl c) H → ta σ H R) (hb : c = true → ∀ R : VK, R (.bl d) H → tb σ H R) (q : Q (.bl (c && d)) H) : tAndV ta tb σ H Q := by
  refine ha _ ⟨_, rfl, ?_⟩
  cases c with
  | true => exact hb rfl Q q
  | false => exact q
section
variable {P : Program} {w : World} {K : PySem.W.Frag} {mg : Str → Option Value} {base : Heap}
theorem bkAt_of {H : Hp} {W : WS} (h : WAt H W) (hc : W.c.bC = He.ga K "Book") : BkAt K H W.c.bk (bkOf W.c) := by
  refine ⟨W.c.bD, W.c.bT, ?_, h.st _ _ .bT⟩
  have z := h.st _ _ .bk
  rw [hc] at z
  exact z
def spSeen (K : PySem.W.Frag) : Sp := fun vs H Q _ => ∃ (W : WS) (k r : Nat) (nl : Addr) (L : List Str) (t : Thing), vs = [.ref W.c.w, natV k, natV r, .ref nl] ∧ W.c.bC = He.ga K "Book" ∧ WAt H W ∧ WInv W ∧ W.ths[k]? = some t ∧ r < W.scs.length ∧ lv W r = W.c.D ∧ W.ths.length ≤ 1000000 ∧
  (W.c.works ≠ "same" → r ∉ W.shut) ∧ H nl = some (.lst (L.map V.str)) ∧ (("strayed" : Str) ∈ L ↔ (W.c.life t.nm ≠ -1 ∧ up W r (W.c.life t.nm).toNat ≠ t.home)) ∧ (("ended" : Str) ∈ L ↔ t.ended = true) ∧
  ∀ H' v, Same H H' → (v = .non ∨ ∃ a S, v = .ref a ∧ StAt H' a S ∧ StandR W t k r S) → Q v H'
theorem ok_seen (T : Txt K mg) : OKF P w K mg base 10 "_law_seen" P_law_seen (spSeen K) := by
  have G_law_stand_of := ok_stand_of (P := P) (w := w) (base := base) T
  have G_is_wrong := ok_is_wrong (P := P) (w := w) (base := base) T
  refine okf T.f_law_seen sc_law_seen (fun _ _ _ _ _ _ us hl => match us, hl with | [_, _, _, _], _ => rfl) (fun vs H Q E h => ?_) (fun cdv A outer s H vs Q E hr h => ⟨_, (pss_cons (ps_par (i := 4) (j := 5) (by rfl) sc_law_seen.nd rfl rfl (by decide) rfl rfl (pa_cons (pe_callK K G_law_stand_of (hr.mono (by omega)) (by rfl) (pa_cons (pv 0) (pa_cons (pv 1) (pa_cons (pv 2) pa_nil)))) (pa_cons (pe_dget (hu_of hr) (pe_dget (hu_of hr) (pv 0) pe_str (fun _ _ => rfl)) pe_str (fun _ _ => rfl)) pa_nil)) (by rfl))
    (pss_cons (ps_if (pt_cmpR op_isN (pv 4) pe_non (nomark _)) (pss_one (ps_ret pe_non)) pss_nil)
    (pss_cons (ps_par (i := 6) (j := 7) (by rfl) sc_law_seen.nd rfl rfl (by decide) rfl rfl (pa_cons (pe_dget (hu_of hr) (pv 0) pe_str (fun _ _ => rfl)) (pa_cons (pe_dget (hu_of hr) (pv 0) pe_str (fun _ _ => rfl)) pa_nil)) (by rfl))
    (C8.pss_cut (ps_if (pt_cmpR op_ne (pe_cmpR (inS K) pe_str (pv 3) (by rfl)) (pe_callK K G_is_wrong (hr.mono (by omega)) (by rfl) (pa_cons (pv 6) (pa_cons (pv 7) (pa_cons pe_str (pa_cons (pv 4) pa_nil))))) (nomark _)) (pss_one (ps_dput (hu_of hr) (pv 0) pe_str pe_bl rfl)) pss_nil)
    (pss_cons (ps_set (i := 8) sc_law_seen.nd rfl (Or.inl rfl) (pe_and (pe_cmpR op_eq (pe_ix (ixT K) (pv 4) pe_int (fun _ _ => rfl)) (pe_un un_neg pe_int) (nomark _)) (pe_one (pe_cmpR op_eq (pe_dget (hu_of hr) (pe_dget (hu_of hr) (pv 0) pe_str (fun _ _ => rfl)) pe_str (fun _ _ => rfl)) pe_str (nomark _)))))
    (C8.pss_cut (ps_if (PW.pt (pw_and (pt_cmpR op_ne (pv 5) pe_str (nomark _)) (pw_and (pt_not (pt_val (pv 8))) (pw_and1 (pt_cmpR op_ne (pe_cmpR (inS K) pe_str (pv 3) (by rfl)) (pe_callK K G_is_wrong (hr.mono (by omega)) (by rfl) (pa_cons (pv 6) (pa_cons (pv 7) (pa_cons pe_str (pa_cons (pv 4) pa_nil))))) (nomark _)))))) (pss_one (ps_dput (hu_of hr) (pv 0) pe_str pe_bl rfl)) pss_nil)
    (pss_one (ps_ret (pv 4))))))))), ?_⟩)
  · obtain ⟨W, k, r, nl, L, t, rfl, _⟩ := h
    rfl
  · obtain ⟨W, k, r, nl, L, t, rfl, hC, hW, hI, ht, hr2, lr, hz, hsh, hnl, hst, hen, q⟩ := h
    have ok := hI.t k t ht
    refine ⟨_, rfl, _, rfl, _, rfl, W, k, r, t, rfl, hW, hI, ht, hr2, lr, hz, fun H1 v s1 hv => ?_⟩
    have hW1 := hW.same s1
    refine rdF rfl hW1 (fl_works _) ⟨_, _, rfl, ?_⟩
    refine ⟨_, rfl, rfl, _, rfl, ?_⟩
    rcases hv with rfl | ⟨a, S, rfl, hS, hR⟩
    · refine ite2 (fun _ => q H1 _ s1 (.inl rfl)) (fun d => absurd (decide_eq_true rfl) d)
    · refine ite2 (fun d => absurd (of_decide_eq_true d) (fun z => nomatch z)) (fun _ => ?_)
      refine rdW rfl hW1 (wk_book W) (rdW rfl hW1 (wk_depth W) ⟨_, _, rfl, ?_⟩)
      have hf := stand_form hI.c hI.s ok hR
      have hb := bkAt_of hW1 hC
      have hD1 := hI.c.D1
      have hD3 := hI.c.D3
      have hstr := stand_strayed hI.c hI.s ok hR hr2 lr
      have est : strB S = decide (("strayed" : Str) ∈ L) := by
        rw [hstr]
        exact decide_eq_decide.mpr hst.symm
      refine ⟨fun σ' H' => σ' = [some (.ref W.c.w), some (natV k), some (natV r), some (.ref nl), some (.ref a), some (.str W.c.works), some (.ref W.c.bk), some (natV W.c.D), none] ∧ Same H1 H', ?_, ?_⟩
      · refine ⟨_, rfl, _, _, rfl, .inl (SqL.of (s1 _ _ hnl)), rfl, flat_str2, _, rfl, _, rfl, _, rfl, W.c.bk, bkOf W.c, W.c.D, "strayed", a, S, rfl, hb, by omega, by omega, hS, hf, .inl ⟨rfl, fun H2 s2 => ?_⟩⟩
        rw [inV_str, est]
        refine ⟨rfl, _, rfl, ?_⟩
        refine ite2 (fun d => absurd d (by simp)) (fun _ => ⟨rfl, s2⟩)
      · rintro σ' H2 ⟨rfl, s2⟩
        have hW2 := hW1.same s2
        refine rdAnd (decide (W.c.life t.nm = -1)) (decide (W.c.ends = "holder")) (fun R z => ⟨_, rfl, a, stV S, 0, _, rfl, rfl, SqT.of (s2 _ _ hS), rfl, _, rfl, rfl, ?_⟩) (fun _ R z => rdF rfl hW2 (fl_ends _) ⟨rfl, ?_⟩) ?_
        · rw [show decide (V.int S.life = (fun i => V.int (-i)) 1) = decide (W.c.life t.nm = -1) by rw [← hR.1]; exact decint]
          exact z
        · rw [decstr]
          exact z
        refine ⟨fun σ' H' => σ' = [some (.ref W.c.w), some (natV k), some (natV r), some (.ref nl), some (.ref a), some (.str W.c.works), some (.ref W.c.bk), some (natV W.c.D), some (.bl (decide (W.c.life t.nm = -1) && decide (W.c.ends = "holder")))] ∧ Same H2 H', ?_, ?_⟩
        · refine ⟨_, rfl, rfl, _, rfl, ?_⟩
          rw [decstr]
          refine ite2 (fun d1 => ?_) (fun _ => ⟨rfl, fun _ _ z => z⟩)
          have e1 : W.c.works ≠ "same" := fun z => by
            rw [decide_eq_true z] at d1
            cases d1
          refine ⟨_, rfl, _, rfl, ?_⟩
          refine ite2 (fun d2 => ?_) (fun _ => ⟨rfl, fun _ _ z => z⟩)
          have e2 : ¬ (W.c.life t.nm = -1 ∧ W.c.ends = "holder") := fun z => by
            rw [decide_eq_true z.1, decide_eq_true z.2] at d2
            cases d2
          have hend := stand_ended hI.c hI.s ok hR hr2 lr hI.op (hsh e1) (b := bkOf W.c) rfl (hI.e1 k t ht) (hI.e2 k t ht) e2
          have een : endB (bkOf W.c) S = decide (("ended" : Str) ∈ L) := by
            rw [hend]
            apply Bool.eq_iff_iff.mpr
            rw [decide_eq_true_eq, hen]
          refine ⟨_, rfl, _, _, rfl, .inl (SqL.of (s2 _ _ (s1 _ _ hnl))), rfl, flat_str2, _, rfl, _, rfl, _, rfl, W.c.bk, bkOf W.c, W.c.D, "ended", a, S, rfl, hb.same s2, by omega, by omega, s2 _ _ hS, hf, .inr ⟨rfl, fun H3 s3 => ?_⟩⟩
          rw [inV_str, een]
          refine ⟨rfl, _, rfl, ?_⟩
          refine ite2 (fun d => absurd d (by simp)) (fun _ => ⟨rfl, s3⟩)
        · rintro σ' H3 ⟨rfl, s3⟩
          exact ⟨_, rfl, q H3 _ (s1.trans (s2.trans s3)) (.inr ⟨a, S, rfl, s3 _ _ (s2 _ _ hS), hR⟩)⟩
def spLackR (K : PySem.W.Frag) : Sp := fun vs H Q _ => ∃ (W : WS) (v : V), vs = [.ref W.c.w, v] ∧ W.c.bC = He.ga K "Book" ∧ WAt H W ∧ CInv W.c ∧ (v = .non ∨ ∃ a S, v = .ref a ∧ StAt H a S ∧ isForm W.c.D S ∧ (W.c.works = "same" ∨ (!(lackL (bkOf W.c) W.c.D S).isEmpty) = true)) ∧ ∀ H', Same H H' → Q (.bl true) H'
theorem ok_lack_right (T : Txt K mg) : OKF P w K mg base 6 "_law_lack_right" P_law_lack_right (spLackR K) := by
  have G_lacks := ok_lacks (P := P) (w := w) (base := base) T
  refine okf T.f_law_lack_right sc_law_lack_right (fun _ _ _ _ _ _ us hl => match us, hl with | [_, _], _ => rfl) (fun vs H Q E h => ?_) (fun cdv A outer s H vs Q E hr h => ⟨_, (pss_cons (ps_if (PW.pt (pw_or (pt_cmpR op_isN (pv 1) pe_non (nomark _)) (pw_or1 (pt_cmpR op_eq (pe_dget (hu_of hr) (pe_dget (hu_of hr) (pv 0) pe_str (fun _ _ => rfl)) pe_str (fun _ _ => rfl)) pe_str (nomark _))))) (pss_one (ps_ret pe_bl)) pss_nil)
    (pss_one (ps_ret (pe_cmpR op_isBl (pe_callK K G_lacks (hr.mono (by omega)) (by rfl) (pa_cons (pe_dget (hu_of hr) (pv 0) pe_str (fun _ _ => rfl)) (pa_cons (pe_dget (hu_of hr) (pv 0) pe_str (fun _ _ => rfl)) (pa_cons (pv 1) pa_nil)))) pe_bl (nomark _))))), ?_⟩)
  · obtain ⟨W, v, rfl, _⟩ := h
    rfl
  · obtain ⟨W, v, rfl, hC, hW, hI, hv, q⟩ := h
    refine ⟨_, rfl, rfl, _, rfl, ?_⟩
    rcases hv with rfl | ⟨a, S, rfl, hS, hf, hl⟩
    · refine ite2 (fun _ => ?_) (fun d => absurd (decide_eq_true rfl) d)
      exact q H fun _ _ z => z
    · refine ite2 (fun d => absurd (of_decide_eq_true d) (fun z => nomatch z)) (fun _ => ?_)
      refine rdF rfl hW (fl_works _) ⟨rfl, _, rfl, ?_⟩
      rw [decstr]
      refine ite2 (fun _ => q H fun _ _ z => z) (fun d => ?_)
      have hl2 : (!(lackL (bkOf W.c) W.c.D S).isEmpty) = true := by
        rcases hl with z | z
        · exact absurd (decide_eq_true z) d
        · exact z
      have hD1 := hI.D1
      have hD3 := hI.D3
      refine rdW rfl hW (wk_book W) (rdW rfl hW (wk_depth W) ⟨_, rfl, W.c.bk, bkOf W.c, W.c.D, a, S, rfl, bkAt_of hW hC, by omega, by omega, hS, hf, fun H1 s1 => ?_⟩)
      rw [hl2]
      exact ⟨true, true, rfl, rfl, q H1 s1⟩
def spLedR (K : PySem.W.Frag) : Sp := fun vs H Q _ => ∃ (W : WS) (a tr : Addr) (S : Stand) (l : List V), vs = [.ref W.c.w, .ref a, .ref tr] ∧ W.c.bC = He.ga K "Book" ∧ WAt H W ∧ CInv W.c ∧ StAt H a S ∧ H tr = some (.tup l) ∧
  ((l.length = 1 ∧ S ∈ begunL W.c.D) ∨ (l.length ≠ 1 ∧ ∃ ln v, W.line = ln ++ [v] ∧ (v = .non ∨ ∃ b S0, v = .ref b ∧ StAt H b S0 ∧ isForm W.c.D S0 ∧ follR (bkOf W.c) W.c.D S0 S))) ∧ ∀ H', Same H H' → Q (.bl true) H'
theorem ok_led_right (T : Txt K mg) : OKF P w K mg base 7 "_law_led_right" P_law_led_right (spLedR K) := by
  have G_begun := ok_begun (P := P) (w := w) (base := base) T
  have G_follow := ok_follow (P := P) (w := w) (base := base) T
  refine okf T.f_law_led_right sc_law_led_right (fun _ _ _ _ _ _ us hl => match us, hl with | [_, _, _], _ => rfl) (fun vs H Q E h => ?_) (fun cdv A outer s H vs Q E hr h => ⟨_, (pss_cons (ps_if (pt_cmpR op_eq (pe_callB (lenS K) (by rfl) T.b_len (by decide +kernel) (pa_cons (pv 2) pa_nil)) pe_int (nomark _)) (pss_one (ps_ret (pe_cmpR (inD K (hu65 hr)) (pv 1) (pe_callK K G_begun (hr.mono (by omega)) (by rfl) (pa_cons (pe_dget (hu_of hr) (pv 0) pe_str (fun _ _ => rfl)) pa_nil)) (by rfl)))) pss_nil)
    (pss_cons (ps_set (i := 3) sc_law_led_right.nd rfl (Or.inl rfl) (pe_ix (ixL K) (pe_dget (hu_of hr) (pv 0) pe_str (fun _ _ => rfl)) (pe_un un_neg pe_int) (fun _ _ => rfl)))
    (pss_one (ps_ret (pe_or (pe_cmpR op_isN (pv 3) pe_non (nomark _)) (pe_one (pe_cmpR (inD K (hu65 hr)) (pv 1) (pe_callK K G_follow (hr.mono (by omega)) (by rfl) (pa_cons (pe_dget (hu_of hr) (pv 0) pe_str (fun _ _ => rfl)) (pa_cons (pe_dget (hu_of hr) (pv 0) pe_str (fun _ _ => rfl)) (pa_cons (pv 3) pa_nil)))) (by rfl)))))))), ?_⟩)
  · obtain ⟨W, a, tr, S, l, rfl, _⟩ := h
    rfl
  · obtain ⟨W, a, tr, S, l, rfl, hC, hW, hI, hS, htr, hl, q⟩ := h
    have hD1 := hI.D1
    have hD3 := hI.D3
    refine ⟨_, rfl, _, _, rfl, .inr (SqT.of htr), rfl, _, rfl, ?_⟩
    rw [decint]
    rcases hl with ⟨h1, h2⟩ | ⟨h1, ln, v, h2, h3⟩
    · refine ite2 (fun _ => ?_) (fun d => absurd (decide_eq_true (by rw [h1]; rfl)) d)
      refine ⟨_, rfl, rdW rfl hW (wk_depth W) ⟨W.c.D, rfl, by omega, by omega, fun H1 p xs s1 np hp hm => ?_⟩⟩
      refine rd_inS (s1 _ _ hS) hp ?_
      rw [decide_eq_true ((hm S).mpr h2)]
      exact q H1 s1
    · refine ite2 (fun d => absurd (of_decide_eq_true d) (by omega)) (fun _ => ?_)
      have hli := hW.hli
      rw [h2] at hli
      refine rdW rfl hW (wk_line W) ⟨_, rfl, W.c.li, _, -1, _, rfl, rfl, SqL.of hli, atI_last ln v, ?_⟩
      refine ⟨_, rfl, rfl, _, rfl, ?_⟩
      rcases h3 with rfl | ⟨b, S0, rfl, hS0, hf0, hfo⟩
      · refine ite2 (fun _ => q H fun _ _ z => z) (fun d => absurd (decide_eq_true rfl) d)
      · refine ite2 (fun d => absurd (of_decide_eq_true d) (fun z => nomatch z)) (fun _ => ?_)
        refine ⟨_, rfl, rdW rfl hW (wk_book W) (rdW rfl hW (wk_depth W) ⟨_, rfl, W.c.bk, bkOf W.c, W.c.D, b, S0, rfl, bkAt_of hW hC, by omega, by omega, hS0, hf0, fun H1 p xs s1 np hp hm => ?_⟩)⟩
        refine rd_inS (s1 _ _ hS) hp ?_
        rw [decide_eq_true ((hm S).mpr hfo)]
        exact q H1 s1
end
end HL

set_option Elab.async false
set_option linter.all false
set_option maxRecDepth 100000
set_option maxHeartbeats 4000000
/-! U3: used -/
namespace HL
open PySem PySem.Spec PyProof.Rows L2
/-- what one use costs, by rank -/
def cU : Nat → Nat
  | 0 => 0
  | r + 1 => r * (cG r + 2 + cU r)
theorem hwt_at {l : List (Bool × Nat)} {j : Nat} {q : Bool × Nat} (h : l[j]? = some q) (hq : q.1 = true) : (hwt l)[(hwt (l.take j)).length]? = some q.2 := by
  obtain ⟨hj, e⟩ := List.getElem?_eq_some_iff.mp h
  have z := (List.take_append_drop j l).symm
  rw [List.drop_eq_getElem_cons hj, e] at z
  have y : hwt l = hwt (l.take j) ++ (q.2 :: hwt (l.drop (j + 1))) := by
    conv => lhs; rw [z]
    unfold hwt
    rw [List.filter_append, List.map_append, List.filter_cons, if_pos hq, List.map_cons]
  rw [y, List.getElem?_append_right (Nat.le_refl _), Nat.sub_self]
  rfl
section
variable {W : WS}
theorem ask_held {t : Thing} {k r : Nat} {S : Stand} (ht : TOk W t) (h0 : StandR W t k r S) : askL (bkOf W.c) W.c.D S true = (lv W (srcT W.c t) : Nat) := by
  unfold askL srcT bkOf
  rw [if_pos rfl]
  by_cases e : W.c.held = "home"
  · rw [if_pos e, if_pos e]
    exact h0.2.1
  · rw [if_neg e, if_neg e, ht.by2]
theorem ask_each (I : SInv W) {r s : Nat} {S : Stand} (lr : lv W r = W.c.D) (es : s = if W.c.each = "now" then r else 0) : askL (bkOf W.c) W.c.D S false = (lv W s : Nat) := by
  unfold askL bkOf
  rw [if_neg (fun z => nomatch z), es]
  by_cases e : W.c.each = "now"
  · rw [if_pos e, if_pos e, lr]
  · rw [if_neg e, if_neg e, I.lv0]
    rfl
/-- a want's answer, seen from its holder's stand -/
def Link (W : WS) (t : Thing) (k b : Nat) (u : Nat) : Option Nat → Prop
  | none => ∀ S, StandR W t k b S → W.c.works = "same" ∨ (!(lackL (bkOf W.c) W.c.D S).isEmpty) = true
  | some x => ∃ y, W.ths[x]? = some y ∧ y.nm = u ∧ ∀ S0, StandR W t k b S0 → ∀ S, StandR W y x b S → follR (bkOf W.c) W.c.D S0 S
theorem link_held (h : WInv W) {t : Thing} {k b at_ u : Nat} (hk : W.ths[k]? = some t) (hb : b < W.scs.length) (lb : lv W b = W.c.D) (hu : (hw W.c t.nm)[at_]? = some u) {o : Option Nat} (ho : t.held[at_]? = some o) : Link W t k b u o := by
  have ok := h.t k t hk
  obtain ⟨u', h1, h2⟩ := ok.held at_ o ho
  rw [hu] at h1
  cases h1
  have hun := (h.c.hw ok.nm hu).2
  have hlu := h.c.life u hun
  cases o with
  | none => exact fun S hS => .inr (lack_some (way := true) h2.1 hlu.1 hlu.2 (by rw [ask_held ok hS]; exact h2.2))
  | some x =>
    obtain ⟨y, y1, y2, y3, y4⟩ := h2
    refine ⟨y, y1, y2, fun S0 h0 S hS => ⟨(true, W.c.life u), mem_wantsL.mpr hlu, ?_⟩⟩
    exact foll_held h.c h.s ok (h.t x y y1) y1 h0 hS hb lb rfl rfl y2 y3 y4 fun z _ => att_holder h ⟨t, at_, u, hk, hu, ho, z⟩
theorem link_each (h : WInv W) {t : Thing} {k b s u : Nat} (hk : W.ths[k]? = some t) (hb : b < W.scs.length) (lb : lv W b = W.c.D) (hun : u < W.c.n) (es : s = if W.c.each = "now" then b else 0) {o : Option Nat}
    (ho : (o = none ∧ W.c.works = "same") ∨ (HOkG W s b u o ∧ ∀ x, o = some x → W.c.life u = -1 → ∀ i, ¬ Holds W i x)) : Link W t k b u o := by
  have hlu := h.c.life u hun
  rcases ho with ⟨rfl, z⟩ | ⟨h1, h2⟩
  · exact fun _ _ => .inl z
  · cases o with
    | none => exact fun S hS => .inr (lack_some (way := false) h1.1 hlu.1 hlu.2 (by rw [ask_each h.s lb es]; exact h1.2))
    | some x =>
      obtain ⟨y, y1, y2, y3, y4⟩ := h1
      refine ⟨y, y1, y2, fun S0 h0 S hS => ⟨(false, W.c.life u), mem_wantsL.mpr hlu, ?_⟩⟩
      refine foll_each h.c h.s (t := t) (h.t x y y1) y1 hS hb lb rfl rfl y2 es (fun z => ?_) y4
      obtain ⟨z1, z2⟩ := y3 z
      exact ⟨z1, z2, not_att h y1 (by rw [y2]; exact z) (h2 x rfl z)⟩
theorem att_same {W' : WS} (e1 : W'.ths = W.ths) (e2 : W'.c = W.c) {k : Nat} (a : Att W k) : Att W' k := by
  induction a with
  | base k t h h0 hl => exact .base k t (by rw [e1]; exact h) h0 (by rw [e2]; exact hl)
  | step k i t h hk _ ih => exact .step k i t (by rw [e1]; exact h) hk ih
theorem StandR.same {W' : WS} (e1 : W'.ths = W.ths) (e2 : W'.c = W.c) (e3 : W'.scs = W.scs) (e4 : W'.shut = W.shut) {t : Thing} {k r : Nat} {S : Stand} (q : StandR W t k r S) : StandR W' t k r S := by
  obtain ⟨q1, q2, q3, q4⟩ := q
  refine ⟨by rw [e2]; exact q1, by rw [lv_congr e3]; exact q2, ?_, by rw [up_congr e3, e2, e4]; exact q4⟩
  rw [q3]
  exact ⟨fun z => ⟨z.1, att_same e1 e2 z.2⟩, fun z => ⟨z.1, att_same e1.symm e2.symm z.2⟩⟩
theorem rdEachS {σ : L2.St} {H : Hp} {Q : VK} {b : Nat} (hs : σ[0]? = some (some (.ref W.c.w))) (h2 : σ[2]? = some (some (natV b))) (hW : WAt H W) (q : Q (natV (if W.c.each = "now" then b else 0)) H) :
    tIf (tTest (tOp rEq (tDGet (tDGet (tVar 0) (tC (.str "fields"))) (tC (.str "each"))) (tC (.str "now")))) (tVar 2) (tC (.int 0)) σ H Q := by
  refine rdF hs hW (fl_each _) ⟨rfl, _, rfl, ?_⟩
  rw [decstr]
  refine ite2 (fun c => ⟨_, h2, ?_⟩) (fun c => ?_)
  · rw [if_pos (of_decide_eq_true c)] at q
    exact q
  · rw [if_neg (fun z => c (decide_eq_true z))] at q
    exact q
theorem Grow.reline {W6 : WS} {m : Nat} {ln : List V} (g : Grow { W with line := ln } W6 m) : Grow W { W6 with line := W.line } m :=
  ⟨g.c, g.scs, g.shut, g.wks, g.put, g.lo, g.told, g.deeds, rfl, g.pre, g.new1, g.new2⟩
end
section
variable {P : Program} {w : World} {K : PySem.W.Frag} {mg : Str → Option Value} {base : Heap}
def Ahead (W : WS) (H : Hp) (t : Thing) (k b : Nat) (l : List V) : Prop := (l.length = 1 ∧ ∀ S, StandR W t k b S → S ∈ begunL W.c.D) ∨
  (l.length ≠ 1 ∧ ∃ ln v, W.line = ln ++ [v] ∧ (v = .non ∨ ∃ a S0, v = .ref a ∧ StAt H a S0 ∧ isForm W.c.D S0 ∧ ∀ S, StandR W t k b S → follR (bkOf W.c) W.c.D S0 S))
def spUsed (K : PySem.W.Frag) (r : Nat) : Sp := fun vs H Q _ => ∃ (W : WS) (k b : Nat) (tr : Addr) (l : List V) (t : Thing), vs = [.ref W.c.w, natV k, natV b, .ref tr] ∧ t.nm < W.c.n ∧ W.c.n ≤ t.nm + r ∧ W.c.bC = He.ga K "Book" ∧ WAt H W ∧ WInv W ∧ Full W 0 ∧ W.ths[k]? = some t ∧
  b < W.scs.length ∧ lv W b = W.c.D ∧ (W.c.works ≠ "same" → b ∉ W.shut) ∧ H tr = some (.tup l) ∧ l ≠ [] ∧ l.length + r ≤ 50 ∧ W.line.length + r ≤ 100 ∧ Rm W (cU r) ∧ Ahead W H t k b l ∧
  ∀ H' W', WAt H' W' → Ext W H W' H' → WInv W' → Grow W W' 0 → Sz W W' (cU r) → Q .non H'
theorem ok_used_of (T : Txt K mg) (r : Nat) (G_law_used : OKF P w K mg base (3 * r + 12) "_law_used" P_law_used (spUsed K r)) : OKF P w K mg base (3 * r + 15) "_law_used" P_law_used (spUsed K (r + 1)) := by
  have G_law_wanted := ok_wanted_of T r (ok_got (P := P) (w := w) (base := base) T r)
  have G_law_up := ok_up (P := P) (w := w) (base := base) T
  have G_law_is_use := ok_is_use (P := P) (w := w) (base := base) T
  have G_law_seen := ok_seen (P := P) (w := w) (base := base) T
  have G_law_led_right := ok_led_right (P := P) (w := w) (base := base) T
  have G_law_lack_right := ok_lack_right (P := P) (w := w) (base := base) T
  refine okf T.f_law_used sc_law_used (fun _ _ _ _ _ _ us hl => match us, hl with | [_, _, _, _], _ => rfl) (fun vs H Q E h => ?_) (fun cdv A outer s H vs Q E hr h => ⟨_, (pss_cons (ps_set (i := 4) sc_law_used.nd rfl (Or.inl rfl) (pe_ix (ixL K) (pe_dget (hu_of hr) (pv 0) pe_str (fun _ _ => rfl)) (pv 1) (fun _ _ => rfl)))
    (pss_cons (ps_asg (pe_dget (hu_of hr) (pe_dget (hu_of hr) (pv 0) pe_str (fun _ _ => rfl)) (pe_dget (hu_of hr) (pv 4) pe_str (fun _ _ => rfl)) (fun _ _ => rfl)) (pg_tup rfl (pgs_cons (pg_name (i := 5) sc_law_used.nd rfl (Or.inl rfl)) (pgs_cons (pg_name (i := 6) sc_law_used.nd rfl (Or.inl rfl)) pgs_nil))))
    (pss_cons (ps_set (i := 7) sc_law_used.nd rfl (Or.inl rfl) (pe_op op_rep (pe_lst (pa_cons pe_str pa_nil)) (pe_callTy call_int1 (by rfl) T.b_int (by decide +kernel) (pa_cons (pe_dget (hu_of hr) (pv 4) pe_str (fun _ _ => rfl)) pa_nil))))
    (C8.pss_cut (ps_if (PW.pt (pw_and (pt_cmpR op_ge (pv 5) pe_int (nomark _)) (pw_and1 (pt_cmpR op_ne (pe_callK K G_law_up (hr.mono (by omega)) (by rfl) (pa_cons (pv 0) (pa_cons (pv 2) (pa_cons (pv 5) pa_nil)))) (pe_dget (hu_of hr) (pv 4) pe_str (fun _ _ => rfl)) (nomark _))))) (pss_one (ps_expr (pe_bm PySem.F.plainAttrs_list PySem.F.slot_list_append PySem.F.type_list_append mt_append (pv 7) (pa_cons pe_str pa_nil)))) pss_nil)
    (pss_cons (ps_set (i := 8) sc_law_used.nd rfl (Or.inl rfl) (pe_callK K G_law_seen (hr.mono (by omega)) (by rfl) (pa_cons (pv 0) (pa_cons (pv 1) (pa_cons (pv 2) (pa_cons (pv 7) pa_nil))))))
    (C8.pss_cut (ps_if (PW.pt (pw_and (pt_cmpR op_notN (pv 8) pe_non (nomark _)) (pw_and1 (pt_not (pt_val (pe_callK K G_law_led_right (hr.mono (by omega)) (by rfl) (pa_cons (pv 0) (pa_cons (pv 8) (pa_cons (pv 3) pa_nil))))))))) (pss_one (ps_dput (hu_of hr) (pv 0) pe_str pe_bl rfl)) pss_nil)
    (pss_cons (ps_set (i := 9) sc_law_used.nd rfl (Or.inl rfl) pe_int)
    (pss_one (ps_for PassesOwn.never rfl (pi_tup (pv 6)) (pg_tup rfl (pgs_cons (pg_name (i := 10) sc_law_used.nd rfl (Or.inl rfl)) (pgs_cons (pg_name (i := 11) sc_law_used.nd rfl (Or.inl rfl)) pgs_nil))) (C8.pss_cut (ps_if (pt_cmpR op_eq (pv 10) pe_str (nomark _)) (pss_one (ps_par (i := 12) (j := 9) (by rfl) sc_law_used.nd rfl rfl (by decide) rfl rfl (pa_cons (pe_ix (ixT K) (pe_dget (hu_of hr) (pv 4) pe_str (fun _ _ => rfl)) (pv 9) (fun _ _ => rfl)) (pa_cons (pe_op op_add (pv 9) pe_int) pa_nil)) (by rfl))) (pss_cons (ps_set (i := 13) sc_law_used.nd rfl (Or.inl rfl) (pe_ifExp (pt_cmpR op_eq (pe_dget (hu_of hr) (pe_dget (hu_of hr) (pv 0) pe_str (fun _ _ => rfl)) pe_str (fun _ _ => rfl)) pe_str (nomark _)) (pv 2) pe_int))
    (pss_cons (ps_set (i := 12) sc_law_used.nd rfl (Or.inl rfl) (pe_callK K G_law_wanted (hr.mono (by omega)) (by rfl) (pa_cons (pv 0) (pa_cons (pv 1) (pa_cons (pv 11) (pa_cons (pv 13) (pa_cons (pv 2) (pa_cons (pv 3) pa_nil))))))))
    (pss_one (ps_if (PW.pt (pw_and (pt_cmpR op_notN (pv 12) pe_non (nomark _)) (pw_and1 (pt_val (pe_callK K G_law_is_use (hr.mono (by omega)) (by rfl) (pa_cons (pv 0) (pa_cons (pv 12) pa_nil))))))) (pss_one (ps_expr (pe_bm PySem.F.plainAttrs_list PySem.F.slot_list_append PySem.F.type_list_append mt_append (pe_dget (hu_of hr) (pv 0) pe_str (fun _ _ => rfl)) (pa_cons (pv 12) pa_nil)))) pss_nil)))))
    (pss_one (ps_if (pt_cmpR op_isN (pv 12) pe_non (nomark _)) (pss_one (ps_if (pt_not (pt_val (pe_callK K G_law_lack_right (hr.mono (by omega)) (by rfl) (pa_cons (pv 0) (pa_cons (pv 8) pa_nil))))) (pss_one (ps_dput (hu_of hr) (pv 0) pe_str pe_bl rfl)) pss_nil)) (pss_cons (ps_expr (pe_bm PySem.F.plainAttrs_list PySem.F.slot_list_append PySem.F.type_list_append mt_append (pe_dget (hu_of hr) (pv 0) pe_str (fun _ _ => rfl)) (pa_cons (pv 8) pa_nil)))
    (pss_cons (ps_expr (pe_callK K G_law_used (hr.mono (by omega)) (by rfl) (pa_cons (pv 0) (pa_cons (pv 12) (pa_cons (pv 2) (pa_cons (pe_op (catT K) (pv 3) (pe_tup (pa_cons (pv 11) pa_nil))) pa_nil))))))
    (pss_one (ps_expr (pe_bm0 PySem.F.plainAttrs_list PySem.F.slot_list_pop PySem.F.type_list_pop mt_pop (pe_dget (hu_of hr) (pv 0) pe_str (fun _ _ => rfl))))))))))))))))))), ?_⟩)
  · obtain ⟨W, k, b, tr, l, t, rfl, _⟩ := h
    rfl
  · obtain ⟨W, k, b, tr, l, t, rfl, hn, hr2, hC, hW, hI, hF, ht, hb, lb, hsh, htr, hl0, hll, hli, hR, hA, q⟩ := h
    have ok := hI.t k t ht
    refine rdTh rfl rfl hW ht (rdW rfl hW (wk_model W) ⟨_, rfl, _, _, rfl, dget_of (k := .inr "name") (hW.htt (th_mem ht)) (tk_name t), _, _, rfl, dget_of (k := .inr (nm t.nm)) (hW.st _ _ .mo) (mo_at _ ok.nm), ?_⟩)
    refine ⟨_, _, rfl, sqPart hW ok.nm, rfl, _, _, rfl, _, _, rfl, rfl, ?_⟩
    refine ⟨szl, fun e0 ne0 => ⟨_, rfl, _, _, rfl, dget_of (k := .inr "ended") ((hW.new ne0).htt (th_mem ht)) (tk_ended t), .inr ⟨t.ended, rfl, e0, _, _, rfl, rfl, upd_same, by split <;> decide, by split <;> decide, by split <;> decide, fun nl nnl => ?_⟩⟩⟩
    have s0 := same_new (o := .lst [V.str "ended"]) ne0
    rw [show (List.replicate (if t.ended = true then (1 : Int) else 0).toNat [V.str "ended"]).flatten = (if t.ended = true then [("ended" : Str)] else []).map V.str by cases t.ended <;> rfl]
    generalize hL0 : (if t.ended = true then [("ended" : Str)] else []) = L0
    have hL0e : ("ended" : Str) ∈ L0 ↔ t.ended = true := by
      rw [← hL0]
      cases t.ended <;> simp
    have hL0s : ("strayed" : Str) ∉ L0 := by
      rw [← hL0]
      have : ("strayed" : Str) ≠ "ended" := by decide +kernel
      cases t.ended <;> simp [this]
    have hL0l : L0.length ≤ 1 := by
      rw [← hL0]
      cases t.ended <;> simp
    have s1 := same_new (o := .lst (L0.map V.str)) nnl
    have nnlH : H nl = none := by
      cases z : H nl with
      | none => rfl
      | some o => rw [s0 _ _ z] at nnl; cases nnl
    have s01 := s0.trans s1
    generalize hH2 : upd (upd H e0 (.lst [V.str "ended"])) nl (.lst (L0.map V.str)) = H2 at s01
    have hnl : H2 nl = some (.lst (L0.map V.str)) := by rw [← hH2]; exact upd_same
    have hW2 := hW.same s01
    refine ⟨fun σ' H' => ∃ L : List Str, σ' = [some (.ref W.c.w), some (natV k), some (natV b), some (.ref tr), some (.ref t.ad), some (.int (W.c.life t.nm)), some (.ref (W.c.wA t.nm)), some (.ref nl), none, none, none, none, none, none] ∧ Same H H' ∧
      H' nl = some (.lst (L.map V.str)) ∧ (("strayed" : Str) ∈ L ↔ (W.c.life t.nm ≠ -1 ∧ up W b (W.c.life t.nm).toNat ≠ t.home)) ∧ (("ended" : Str) ∈ L ↔ t.ended = true), ?_, ?_⟩
    · have hlf := hI.c.life _ ok.nm
      refine ⟨_, rfl, _, _, rfl, rfl, _, rfl, ?_⟩
      refine ite2 (fun c => ?_) (fun c => ?_)
      · have c1 : 0 ≤ W.c.life t.nm := of_decide_eq_true c
        refine ⟨_, rfl, _, rfl, _, rfl, W, b, (W.c.life t.nm).toNat, ?_, hW2, hI.s, hb, ?_⟩
        · have e2 : W.c.life t.nm = (((W.c.life t.nm).toNat : Nat) : Int) := by omega
          conv => lhs; rw [e2]
          rfl
        refine ⟨_, rfl, _, _, rfl, dget_of (k := .inr "home") (hW2.htt (th_mem ht)) (tk_home t), rfl, _, rfl, ?_⟩
        rw [natV_dec]
        refine ite2 (fun d => ?_) (fun d => ?_)
        · have d1 : up W b (W.c.life t.nm).toNat ≠ t.home := fun z => by
            rw [decide_eq_true z] at d
            cases d
          refine ⟨_, rfl, tyL hnl, nl, _, .str "strayed", rfl, rfl, hnl, by rw [List.length_map]; have := sizeLine_eq; omega, L0 ++ [("strayed" : Str)], rfl, ?_, by rw [upd_same, List.map_append]; rfl, ?_, ?_⟩
          · intro a o z
            rw [upd_ne (ne_of_none z nnlH)]
            exact s01 _ _ z
          · rw [List.mem_append]
            exact ⟨fun _ => ⟨by omega, d1⟩, fun _ => .inr (List.mem_singleton.mpr rfl)⟩
          · rw [List.mem_append, hL0e]
            have : ("ended" : Str) ≠ "strayed" := by decide +kernel
            simp [this]
        · have d1 : up W b (W.c.life t.nm).toNat = t.home := by
            rcases Decidable.em (up W b (W.c.life t.nm).toNat = t.home) with z | z
            · exact z
            · rw [decide_eq_false z] at d
              exact absurd rfl d
          exact ⟨L0, rfl, s01, hnl, ⟨fun z => absurd z hL0s, fun z => absurd d1 z.2⟩, hL0e⟩
      · have c1 : W.c.life t.nm = -1 := by
          have : ¬ (0 ≤ W.c.life t.nm) := fun z => c (decide_eq_true z)
          omega
        exact ⟨L0, rfl, s01, hnl, ⟨fun z => absurd z hL0s, fun z => absurd c1 z.1⟩, hL0e⟩
    · rintro σ' H3 ⟨L, rfl, s3, hL, hLs, hLe⟩
      have hW3 := hW.same s3
      have hRt := hR.t
      refine ⟨_, rfl, _, rfl, _, rfl, _, rfl, W, k, b, nl, L, t, rfl, hC, hW3, hI, ht, hb, lb, by omega, hsh, hL, hLs, hLe, fun H4 v s4 hv => ?_⟩
      have s34 := s3.trans s4
      have hW4 := hW.same s34
      have htr4 := s34 _ _ htr
      refine ⟨fun σ' H' => σ' = [some (.ref W.c.w), some (natV k), some (natV b), some (.ref tr), some (.ref t.ad), some (.int (W.c.life t.nm)), some (.ref (W.c.wA t.nm)), some (.ref nl), some v, none, none, none, none, none] ∧ Same H4 H', ?_, ?_⟩
      · refine ⟨_, rfl, rfl, _, rfl, ?_⟩
        rcases hv with rfl | ⟨a, S, rfl, hS, hSR⟩
        · refine ite2 (fun d => absurd d (by simp)) (fun _ => ⟨rfl, fun _ _ z => z⟩)
        · refine ite2 (fun _ => ?_) (fun _ => ⟨rfl, fun _ _ z => z⟩)
          refine ⟨_, rfl, _, rfl, _, rfl, W, a, tr, S, l, rfl, hC, hW4, hI.c, hS, htr4, ?_, fun H5 s5 => ⟨_, rfl, ?_⟩⟩
          · rcases hA with ⟨z1, z2⟩ | ⟨z1, ln, v, z2, z3⟩
            · exact .inl ⟨z1, z2 S hSR⟩
            · refine .inr ⟨z1, ln, v, z2, ?_⟩
              rcases z3 with z | ⟨a', S0, y1, y2, y3, y4⟩
              · exact .inl z
              · exact .inr ⟨a', S0, y1, s34 _ _ y2, y3, y4 S hSR⟩
          · exact ⟨rfl, s5⟩
      · rintro σ' H5 ⟨rfl, s5⟩
        have s35 := s34.trans s5
        have hW5 := hW.same s35
        have hwn := hI.c.wlen t.nm ok.nm
        have hlen : ((List.range (W.c.wants t.nm).length).map fun j => V.ref (W.c.qA t.nm j)).length = (W.c.wants t.nm).length := by rw [List.length_map, List.length_range]
        have stW : ∀ {H' : Hp} {W' : WS}, WAt H' W' → W'.c = W.c → SqT K H' (W.c.wA t.nm) ((List.range (W.c.wants t.nm).length).map fun j => .ref (W.c.qA t.nm j)) := fun {H' W'} a ec => by
          have z := a.st _ _ (.wts t.nm (by rw [ec]; exact ok.nm))
          rw [ec] at z
          exact SqT.of z
        have hr1 := stW hW5 rfl
        have hv5 : v = .non ∨ ∃ a S, v = .ref a ∧ StAt H5 a S ∧ StandR W t k b S := by
          rcases hv with z | ⟨a, S, z1, z2, z3⟩
          · exact .inl z
          · exact .inr ⟨a, S, z1, s5 _ _ z2, z3⟩
        have htr5 := s35 _ _ htr
        refine ⟨_, rfl, _, rfl, ⟨_, hr1⟩, ?_⟩
        refine for_tup (K := K) (a := W.c.wA t.nm) (xs := (List.range (W.c.wants t.nm).length).map fun j => .ref (W.c.qA t.nm j)) (fun j σ H' => ∃ (W2 : WS) (x10 x11 x12 x13 : Option V),
            σ = [some (.ref W.c.w), some (natV k), some (natV b), some (.ref tr), some (.ref t.ad), some (.int (W.c.life t.nm)), some (.ref (W.c.wA t.nm)), some (.ref nl), some v, some (natV (hwt ((W.c.wants t.nm).take j)).length), x10, x11, x12, x13] ∧
            WAt H' W2 ∧ Ext W H5 W2 H' ∧ WInv W2 ∧ Grow W W2 0 ∧ Sz W W2 (j * (cG r + 2 + cU r))) ?_ ?_ ?_ ?_
        · exact ⟨W, none, none, none, none, rfl, hW5, .refl, hI, .refl, by rw [Nat.zero_mul]; exact .refl⟩
        · rintro j σ H' _ ⟨W2, x10, x11, x12, x13, rfl, g1, g2, g3, g4, _⟩
          exact stW g1 g4.c
        · rintro j x σ H' hx ⟨W2, x10, x11, x12, x13, rfl, g1, g2, g3, g4, g5⟩
          obtain ⟨q0, hq, rfl⟩ : ∃ q, (W.c.wants t.nm)[j]? = some q ∧ x = V.ref (W.c.qA t.nm j) := by
            have hj : j < (W.c.wants t.nm).length := by
              have := lt_of_get hx
              rw [hlen] at this
              exact this
            refine ⟨_, List.getElem?_eq_getElem hj, ?_⟩
            rw [List.getElem?_map, List.getElem?_range hj] at hx
            exact (Option.some.inj hx).symm
          have hjl := lt_of_get hq
          have hqt : H' (W.c.qA t.nm j) = some (.tup [.str (wayS q0.1), .str (nm q0.2)]) := by
            have z := g1.st _ _ (.want t.nm (by rw [g4.c]; exact ok.nm) j q0 (by rw [g4.c]; exact hq))
            rw [g4.c] at z
            exact z
          have htk := hwt_take hq
          obtain ⟨hq1, hq2⟩ := hI.c.wants t.nm ok.nm q0 (List.mem_of_getElem? hq)
          have hk2 := g4.pre k t ht
          have htr2 : H' tr = some (.tup l) := g2.tup hW5 htr5
          have z3 : (j + 1) * (cG r + 2 + cU r) ≤ r * (cG r + 2 + cU r) := Nat.mul_le_mul_right _ (by omega)
          have z4 : (j + 1) * (cG r + 2 + cU r) = j * (cG r + 2 + cU r) + (cG r + 2 + cU r) := Nat.succ_mul ..
          have hRr : cU (r + 1) = r * (cG r + 2 + cU r) := rfl
          have ew : W2.c.w = W.c.w := by rw [g4.c]
          refine ⟨_, _, rfl, SqT.of hqt, rfl, _, _, rfl, _, _, rfl, rfl, ?_⟩
          refine ⟨fun σ' H6 => ∃ (W4 : WS) (o : Option Nat) (x13 : Option V), σ' = [some (.ref W.c.w), some (natV k), some (natV b), some (.ref tr), some (.ref t.ad), some (.int (W.c.life t.nm)), some (.ref (W.c.wA t.nm)), some (.ref nl), some v,
              some (natV (hwt ((W.c.wants t.nm).take (j + 1))).length), some (.str (wayS q0.1)), some (.str (nm q0.2)), some (optV o), x13] ∧ WAt H6 W4 ∧ Ext W H5 W4 H6 ∧ WInv W4 ∧ Grow W W4 0 ∧ Sz W W4 (j * (cG r + 2 + cU r) + (cG r + 2)) ∧ Link W4 t k b q0.2 o, ?_, ?_⟩
          · refine ⟨_, rfl, rfl, _, rfl, ?_⟩
            rw [ways_ne]
            cases hqb : q0.1 with
            | true =>
              have hu : (hw W2.c t.nm)[(hwt ((W.c.wants t.nm).take j)).length]? = some q0.2 := by
                rw [g4.c]
                exact hwt_at hq hqb
              have hfull := (hF.grow g4) k t hk2 (Nat.zero_le _)
              have hal : (hwt ((W.c.wants t.nm).take j)).length < t.held.length := by
                rw [hfull]
                exact lt_of_get hu
              have ho := List.getElem?_eq_getElem hal
              generalize t.held[(hwt ((W.c.wants t.nm).take j)).length] = o at ho
              have hLk := link_held g3 hk2 (by rw [g4.scs]; exact hb) (by rw [lv_congr g4.scs, g4.c]; exact lb) hu ho
              refine ⟨_, rfl, _, _, rfl, dget_of (k := .inr "held") (g1.htt (th_mem hk2)) (tk_held t), _, rfl, _, _, _, _, rfl, rfl, SqT.of (g1.st _ _ (.hld t (th_mem hk2))), atI_nat (by rw [List.getElem?_map, ho]; rfl), _, rfl, _, _, rfl, rfl, _, _, rfl, ?_⟩
              refine ⟨W2, o, x13, ?_, g1, g2, g3, g4, g5.mono (by omega), hLk⟩
              rw [htk, hqb, if_pos rfl, List.length_append]
              rfl
            | false =>
              have hlt0 : (hwt ((W.c.wants t.nm).take (j + 1))).length = (hwt ((W.c.wants t.nm).take j)).length := by
                rw [htk, hqb]
                simp
              rw [hlt0]
              refine rdEachS (W := W2) (b := b) (by rw [ew]; rfl) rfl g1 ?_
              generalize hs : (if W2.c.each = "now" then b else 0) = s0
              have hs0 : s0 < W2.scs.length := by
                rw [← hs, g4.scs]
                split
                · exact hb
                · exact hI.s.pos
              have hb2 : b < W2.scs.length := by rw [g4.scs]; exact hb
              have lb2 : lv W2 b = W2.c.D := by rw [lv_congr g4.scs, g4.c]; exact lb
              have hsu : s0 = up W2 b (lv W2 s0) := by
                rw [← hs]
                split
                · exact up_self.symm
                · rw [g3.s.lv0, g3.s.up0 hb2]
              refine ⟨_, rfl, _, rfl, _, rfl, _, rfl, _, rfl, _, rfl, W2, k, q0.2, s0, b, tr, l, by rw [ew]; rfl, by rw [g4.c]; exact hq2, by rw [g4.c]; omega, g1, g3, (hF.grow g4).mono (Nat.zero_le _), hs0, hsu, hb2, lb2, htr2, hl0, by omega, ?_, ?_⟩
              · refine Rm.sub (hR.mono ?_) g5
                omega
              intro H6 W3 o hW3 hE3 hI3 hG3 hZ3 hO3
              have hLk : (o = none ∧ W3.c.works = "same") ∨ (HOkG W3 s0 b q0.2 o ∧ ∀ x, o = some x → W3.c.life q0.2 = -1 → ∀ i, ¬ Holds W3 i x) := by
                rcases hO3 with ⟨y1, y2⟩ | ⟨y1, y2⟩
                · left
                  refine ⟨y1, ?_⟩
                  rw [hG3.c, g4.c]
                  rcases Decidable.em (W.c.works = "same") with y | y
                  · exact y
                  · exact absurd (by rw [g4.shut] at y2; exact y2) (hsh y)
                · right
                  refine ⟨y1, fun x y3 y4 => ?_⟩
                  have y5 := y2 x y3 (by rw [hG3.c] at y4; exact y4)
                  subst y3
                  obtain ⟨y, y6, y7, _⟩ := y1
                  exact unheld hG3 g3 hI3 y5 y6 y7
              have hG03 := g4.trans (hG3.mono (Nat.zero_le _))
              have hZ03 : Sz W W3 (j * (cG r + 2 + cU r) + (cG r + 1)) := g5.trans hZ3
              have hE03 := g2.trans hE3
              have hk3 := hG3.pre k t hk2
              have hb3 : b < W3.scs.length := by rw [hG3.scs]; exact hb2
              have lb3 : lv W3 b = W3.c.D := by rw [lv_congr hG3.scs, hG3.c]; exact lb2
              have hs3 : s0 = if W3.c.each = "now" then b else 0 := by rw [hG3.c]; exact hs.symm
              have hun3 : q0.2 < W3.c.n := by rw [hG3.c, g4.c]; exact hq2
              have fin : Link W3 t k b q0.2 o := link_each hI3 hk3 hb3 lb3 hun3 hs3 hLk
              refine ⟨_, rfl, rfl, _, rfl, ?_⟩
              cases o with
              | none =>
                refine ite2 (fun d => absurd d (by simp [optV])) (fun _ => ⟨W3, none, _, rfl, hW3, hE03, hI3, hG03, hZ03.mono (by omega), fin⟩)
              | some x =>
                refine ite2 (fun _ => ?_) (fun _ => ⟨W3, some x, _, rfl, hW3, hE03, hI3, hG03, hZ03.mono (by omega), fin⟩)
                obtain ⟨y, y1, y2, _⟩ : ∃ y, W3.ths[x]? = some y ∧ y.nm = q0.2 ∧ True := by
                  rcases hLk with ⟨z, _⟩ | ⟨⟨y, y1, y2, _⟩, _⟩
                  · cases z
                  · exact ⟨y, y1, y2, trivial⟩
                have ew3 : W3.c.w = W.c.w := by rw [hG3.c]; exact ew
                refine ⟨_, rfl, _, rfl, W3, x, y, by rw [ew3]; rfl, hW3, y1, by rw [y2]; exact hun3, _, rfl, ?_⟩
                refine ite2 (fun hyl => ?_) (fun _ => ⟨W3, some x, _, rfl, hW3, hE03, hI3, hG03, hZ03.mono (by omega), fin⟩)
                obtain ⟨hW4, hE4⟩ := w_loose hW3 x
                have hlz := hZ03.l
                have hRl := hR.l
                refine rdW (W := W3) (by rw [ew3]; rfl) hW3 (wk_loose W3) ⟨tyL hW3.hlo, _, rfl, W3.lo, _, natV x, rfl, rfl, hW3.hlo, by rw [List.length_map]; have := sizeLine_eq; omega, ?_⟩
                have hI4 : WInv { W3 with loose := W3.loose ++ [x] } := hI3.misc rfl rfl rfl rfl rfl rfl fun i hi => by
                  rcases List.mem_append.mp hi with z | z
                  · exact hI3.lk i z
                  · rw [List.mem_singleton] at z
                    rw [z]
                    exact ⟨y, y1, of_decide_eq_true hyl⟩
                refine ⟨{ W3 with loose := W3.loose ++ [x] }, some x, _, rfl, hW4, hE03.trans hE4, hI4, ⟨hG03.c, hG03.scs, hG03.shut, hG03.wks, hG03.put, hG03.lo, hG03.told, hG03.deeds, hG03.line, hG03.pre, hG03.new1, hG03.new2⟩, ?_, ?_⟩
                · exact ⟨by have := hZ03.t; show W3.ths.length ≤ _; omega, by have := hZ03.f; show W3.fau.length ≤ _; omega, by show (W3.loose ++ [x]).length ≤ _; rw [List.length_append]; simp; omega⟩
                · refine link_each hI4 hk3 hb3 lb3 hun3 hs3 ?_
                  rcases hLk with z | ⟨z1, z2⟩
                  · exact .inl z
                  · exact .inr ⟨HOkG.onto (W := W3) (W' := { W3 with loose := W3.loose ++ [x] }) (.mk' rfl rfl fun i y z => ⟨y, z, rfl, rfl, rfl⟩) (by rw [hG3.scs]; exact hs0) z1, z2⟩
          · rintro σ' H6 ⟨W4, o, x13, rfl, h1, h2, h3, h4, h5, h6⟩
            have ew4 : W4.c.w = W.c.w := by rw [h4.c]
            have hk4 := h4.pre k t ht
            have ok4 := h3.t k t hk4
            have hC4 : W4.c.bC = He.ga K "Book" := by rw [h4.c]; exact hC
            have hv6 : v = .non ∨ ∃ a S, v = .ref a ∧ StAt H6 a S ∧ StandR W4 t k b S := by
              rcases hv5 with z | ⟨a, S, z1, z2, z3⟩
              · exact .inl z
              · exact .inr ⟨a, S, z1, h2.tup hW5 z2, z3.grow h4 hI h3 ht⟩
            have htr6 : H6 tr = some (.tup l) := h2.tup hW5 htr5
            refine ⟨_, rfl, rfl, _, rfl, ?_⟩
            cases o with
            | none =>
              refine ite2 (fun _ => ?_) (fun d => absurd (decide_eq_true rfl) d)
              refine ⟨_, rfl, _, rfl, W4, v, by rw [ew4]; rfl, hC4, h1, h3.c, ?_, fun H7 s7 => ⟨_, rfl, W4, _, _, _, _, rfl, h1.same s7, h2.trans (.of_same s7), h3, h4, h5.mono (by omega)⟩⟩
              rcases hv6 with z | ⟨a, S, z1, z2, z3⟩
              · exact .inl z
              · exact .inr ⟨a, S, z1, z2, stand_form h3.c h3.s ok4 z3, h6 S z3⟩
            | some x =>
              refine ite2 (fun d => absurd (of_decide_eq_true d) (fun z => nomatch z)) (fun _ => ?_)
              obtain ⟨y, y1, y2, y3⟩ := h6
              obtain ⟨hW7, hE7⟩ := w_line h1 (W4.line ++ [v])
              have hl4 : W4.line = W.line := h4.line
              have sz := sizeLine_eq
              refine rdW (W := W4) (by rw [ew4]; rfl) h1 (wk_line W4) ⟨tyL h1.hli, _, rfl, W4.c.li, _, v, rfl, rfl, h1.hli, by rw [hl4]; omega, ?_⟩
              have hI7 : WInv { W4 with line := W4.line ++ [v] } := h3.misc rfl rfl rfl rfl rfl rfl h3.lk
              have htr7 : (upd H6 W4.c.li (.lst (W4.line ++ [v]))) tr = some (.tup l) := hE7.tup h1 htr6
              generalize upd H6 W4.c.li (.lst (W4.line ++ [v])) = H7 at hW7 hE7 htr7
              refine ⟨_, rfl, _, rfl, _, rfl, _, rfl, _, rfl, szl, fun p np => ?_⟩
              have s8 := same_new (o := .tup [.str (nm q0.2)]) np
              refine ⟨tr, p, l, [.str (nm q0.2)], rfl, rfl, SqT.of (s8 _ _ htr7), SqT.of upd_same, hl0, by simp only [List.length_cons, List.length_nil]; omega, (fun z => nomatch z), fun _ t2 nt2 => ?_⟩
              have s9 := same_new (o := .tup (l ++ [.str (nm q0.2)])) nt2
              have s89 := s8.trans s9
              have hE9 : Ext W H5 { W4 with line := W4.line ++ [v] } (upd (upd H7 p (.tup [.str (nm q0.2)])) t2 (.tup (l ++ [.str (nm q0.2)]))) := (h2.trans hE7).trans (.of_same s89)
              have lne : (l ++ [V.str (nm q0.2)]).length ≠ 1 := by
                rw [List.length_append]
                have : 0 < l.length := List.length_pos_iff.mpr hl0
                simp only [List.length_cons, List.length_nil]
                omega
              refine ⟨{ W4 with line := W4.line ++ [v] }, x, b, t2, _, y, by show _ = [V.ref W4.c.w, _, _, _]; rw [ew4]; rfl, by show y.nm < W4.c.n; rw [y2, h4.c]; exact hq2, by show W4.c.n ≤ _; rw [y2, h4.c]; omega, hC4, hW7.same s89, hI7, (show Full W4 0 from hF.grow h4), y1, by show b < W4.scs.length; rw [h4.scs]; exact hb, ?_, ?_, upd_same, by simp, by rw [List.length_append]; simp only [List.length_cons, List.length_nil]; omega, ?_, ?_, .inr ⟨lne, W4.line, v, rfl, ?_⟩, ?_⟩
              · show lv W4 b = W4.c.D
                rw [lv_congr h4.scs, h4.c]
                exact lb
              · show W4.c.works ≠ "same" → b ∉ W4.shut
                rw [h4.c, h4.shut]
                exact hsh
              · show (W4.line ++ [v]).length + r ≤ 100
                rw [List.length_append, hl4]
                simp only [List.length_cons, List.length_nil]
                omega
              · have z : Rm W4 (cU r) := by
                  refine Rm.sub (hR.mono ?_) h5
                  omega
                exact ⟨z.t, z.f, z.l⟩
              · rcases hv6 with z | ⟨a, S0, z1, z2, z3⟩
                · exact .inl z
                · refine .inr ⟨a, S0, z1, s89 _ _ (hE7.tup h1 z2), ?_, fun S hS => ?_⟩
                  · exact stand_form h3.c h3.s ok4 z3
                  · exact y3 S0 z3 S (StandR.same (W := { W4 with line := W4.line ++ [v] }) (W' := W4) rfl rfl rfl rfl hS)
              · intro H8 W6 hW8 hE8 hI8 hG8 hZ8
                have hl6 : W6.line = W4.line ++ [v] := hG8.line
                have ew6 : W6.c.w = W.c.w := by rw [hG8.c]; exact ew4
                obtain ⟨hW10, hE10⟩ := w_line hW8 W4.line
                refine rdW (W := W6) (by rw [ew6]; rfl) hW8 (wk_line W6) ⟨tyL hW8.hli, W6.c.li, W6.line, v, rfl, rfl, hW8.hli, ?_, ?_⟩
                · rw [hl6, List.length_append]
                  simp
                · rw [show W6.line.dropLast = W4.line by rw [hl6, List.dropLast_concat]]
                  have hG10 : Grow W4 { W6 with line := W4.line } 0 := Grow.reline hG8
                  refine ⟨{ W6 with line := W4.line }, _, _, _, _, rfl, hW10, (hE9.trans hE8).trans hE10, hI8.misc rfl rfl rfl rfl rfl rfl hI8.lk, h4.trans hG10, ?_⟩
                  rw [z4]
                  have z5 : Sz W4 { W6 with line := W4.line } (cU r) := ⟨hZ8.t, hZ8.f, hZ8.l⟩
                  exact (h5.trans z5).mono (by omega)
        · rintro σ H' ⟨W2, x10, x11, x12, x13, rfl, g1, g2, g3, g4, g5⟩
          rw [hlen] at g5
          refine q H' W2 g1 (Ext.trans (.of_same s35) g2) g3 g4 (g5.mono ?_)
          show _ ≤ r * _
          exact Nat.mul_le_mul_right _ (by omega)
theorem ok_used (T : Txt K mg) : ∀ r, OKF P w K mg base (3 * r + 12) "_law_used" P_law_used (spUsed K r)
  | 0 => okf0 T.f_law_used (fun _ _ _ _ _ _ us hl => match us, hl with | [_, _, _, _], _ => rfl) fun vs H Q E ⟨_, _, _, _, _, _, _, z1, z2, _⟩ => absurd z1 (by omega)
  | r + 1 => ok_used_of T r (ok_used T r)
end
end HL

set_option Elab.async false
set_option linter.all false
set_option maxRecDepth 100000
set_option maxHeartbeats 4000000
/-! E1: ended, closed, opened -/
namespace HL
open PySem PySem.Spec PyProof.Rows L2
structure HInv (W : WS) : Prop where
  c : CInv W.c
  nm : ∀ (i : Nat) (t : Thing), W.ths[i]? = some t → t.nm < W.c.n
  h : ∀ (i : Nat) (t : Thing), W.ths[i]? = some t → ∀ k, some k ∈ t.held → ∃ x, W.ths[k]? = some x ∧ t.nm < x.nm
/-- the later world differs in what has ended alone -/
structure EndR (W W' : WS) (X : Nat → Prop) : Prop where
  c : W'.c = W.c
  scs : W'.scs = W.scs
  shut : W'.shut = W.shut
  wks : W'.wks = W.wks
  put : W'.put = W.put
  lo : W'.lo = W.lo
  loose : W'.loose = W.loose
  told : W'.told = W.told
  fau : W'.fau = W.fau
  deeds : W'.deeds = W.deeds
  line : W'.line = W.line
  len : W'.ths.length = W.ths.length
  at_ : ∀ (i : Nat) (t : Thing), W.ths[i]? = some t → ∃ e, W'.ths[i]? = some { t with ended := e } ∧ (t.ended = true → e = true) ∧ (e = true → t.ended = true ∨ X i ∨ (W.c.ends = "holder" ∧ W.c.life t.nm = -1))
section
variable {W W' W1 W2 : WS}
theorem WInv.hinv (h : WInv W) : HInv W := ⟨h.c, fun i t z => (h.t i t z).nm, fun i t z k hk => by
  obtain ⟨j, u, x, _, _, h1, h2, h3, _⟩ := h.held_at z hk
  exact ⟨x, h1, by omega⟩⟩
theorem EndR.refl {X : Nat → Prop} : EndR W W X := ⟨rfl, rfl, rfl, rfl, rfl, rfl, rfl, rfl, rfl, rfl, rfl, rfl, fun i t h => ⟨t.ended, h, fun z => z, fun z => .inl z⟩⟩
theorem EndR.trans {X Y Z : Nat → Prop} (a : EndR W W1 X) (b : EndR W1 W2 Y) (hx : ∀ i, X i → Z i) (hy : ∀ (i : Nat) (t : Thing), W.ths[i]? = some t → Y i → Z i ∨ (W.c.ends = "holder" ∧ W.c.life t.nm = -1)) : EndR W W2 Z :=
  ⟨b.c.trans a.c, b.scs.trans a.scs, b.shut.trans a.shut, b.wks.trans a.wks, b.put.trans a.put, b.lo.trans a.lo, b.loose.trans a.loose, b.told.trans a.told, b.fau.trans a.fau, b.deeds.trans a.deeds, b.line.trans a.line, b.len.trans a.len, fun i t h => by
    obtain ⟨e, h1, h2, h3⟩ := a.at_ i t h
    obtain ⟨e', g1, g2, g3⟩ := b.at_ i _ h1
    refine ⟨e', g1, fun z => g2 (h2 z), fun z => ?_⟩
    rcases g3 z with y | y | y
    · rcases h3 y with y | y | y
      · exact .inl y
      · exact .inr (.inl (hx i y))
      · exact .inr (.inr y)
    · exact .inr (hy i t h y)
    · rw [a.c] at y
      exact .inr (.inr y)⟩
theorem EndR.mono {X Y : Nat → Prop} (a : EndR W W' X) (h : ∀ i, X i → Y i) : EndR W W' Y := a.trans .refl h fun i t _ z => .inl z
theorem EndR.hinv {X : Nat → Prop} (a : EndR W W' X) (h : HInv W) : HInv W' := by
  have back : ∀ (i : Nat) (t' : Thing), W'.ths[i]? = some t' → ∃ t, W.ths[i]? = some t ∧ t'.nm = t.nm ∧ t'.held = t.held := fun i t' z => by
    have hi := lt_of_get z
    rw [a.len] at hi
    have h0 := List.getElem?_eq_getElem hi
    obtain ⟨e, h1, _⟩ := a.at_ i _ h0
    rw [z] at h1
    cases h1
    exact ⟨_, h0, rfl, rfl⟩
  refine ⟨by rw [a.c]; exact h.c, fun i t' z => ?_, fun i t' z k hk => ?_⟩
  · obtain ⟨t, h1, h2, _⟩ := back i t' z
    rw [a.c, h2]
    exact h.nm i t h1
  · obtain ⟨t, h1, h2, h3⟩ := back i t' z
    rw [h3] at hk
    obtain ⟨x, g1, g2⟩ := h.h i t h1 k hk
    obtain ⟨e, g3, _⟩ := a.at_ k x g1
    exact ⟨_, g3, by rw [h2]; exact g2⟩
end
section
variable {P : Program} {w : World} {K : PySem.W.Frag} {mg : Str → Option Value} {base : Heap}
def spEnded (r : Nat) : Sp := fun vs H Q _ => ∃ (W : WS) (k : Nat) (t : Thing), vs = [.ref W.c.w, natV k] ∧ t.nm < W.c.n ∧ W.c.n ≤ t.nm + r ∧ WAt H W ∧ HInv W ∧ W.ths[k]? = some t ∧
  ∀ H' W', WAt H' W' → Ext W H W' H' → EndR W W' (· = k) → (∃ t', W'.ths[k]? = some t' ∧ t'.ended = true) → Q .non H'
theorem ok_ended (T : Txt K mg) : ∀ r, OKF P w K mg base (r + 2) "_law_ended" P_law_ended (spEnded r)
  | 0 => okf0 T.f_law_ended (fun _ _ _ _ _ _ us hl => match us, hl with | [_, _], _ => rfl) fun vs H Q E ⟨_, _, _, _, z1, z2, _⟩ => absurd z1 (by omega)
  | r + 1 => by
    have G_law_is_use := ok_is_use (P := P) (w := w) (base := base) T
    have G_law_ended := ok_ended T r
    refine okf T.f_law_ended sc_law_ended (fun _ _ _ _ _ _ us hl => match us, hl with | [_, _], _ => rfl) (fun vs H Q E h => ?_) (fun cdv A outer s H vs Q E hr h => ⟨_, (pss_cons (ps_dput (hu_of hr) (pe_ix (ixL K) (pe_dget (hu_of hr) (pv 0) pe_str (fun _ _ => rfl)) (pv 1) (fun _ _ => rfl)) pe_str pe_bl rfl)
    (pss_one (ps_if (pt_cmpR op_eq (pe_dget (hu_of hr) (pe_dget (hu_of hr) (pv 0) pe_str (fun _ _ => rfl)) pe_str (fun _ _ => rfl)) pe_str (nomark _)) (pss_one (ps_for PassesOwn.never rfl (pi_tup (pe_dget (hu_of hr) (pe_ix (ixL K) (pe_dget (hu_of hr) (pv 0) pe_str (fun _ _ => rfl)) (pv 1) (fun _ _ => rfl)) pe_str (fun _ _ => rfl))) (pg_name (i := 2) sc_law_ended.nd rfl (Or.inl rfl)) (pss_one (ps_if (PW.pt (pw_and (pt_cmpR op_notN (pv 2) pe_non (nomark _)) (pw_and1 (pt_val (pe_callK K G_law_is_use (hr.mono (by omega)) (by rfl) (pa_cons (pv 0) (pa_cons (pv 2) pa_nil))))))) (pss_one (ps_expr (pe_callK K G_law_ended (hr.mono (by omega)) (by rfl) (pa_cons (pv 0) (pa_cons (pv 2) pa_nil))))) pss_nil)))) pss_nil))), ?_⟩)
    · obtain ⟨W, k, t, rfl, _⟩ := h
      rfl
    · obtain ⟨W, k, t, rfl, hn, hr2, hW, hI, ht, q⟩ := h
      refine rdTh rfl rfl hW ht ⟨t.ad, _, rfl, DPut.k (k := .inr "ended") (hW.htt (th_mem ht)) (by show 5 < sizeLine; decide), ?_⟩
      rw [tkput_ended]
      obtain ⟨hW1, hE1⟩ := w_change (t' := { t with ended := true }) hW ht rfl (hW.st _ _ (.hld t (th_mem ht)))
      have hR1 : EndR W { W with ths := W.ths.set k { t with ended := true } } (· = k) := by
        refine ⟨rfl, rfl, rfl, rfl, rfl, rfl, rfl, rfl, rfl, rfl, rfl, List.length_set .., fun i x z => ?_⟩
        by_cases e : i = k
        · subst e
          rw [ht] at z
          cases z
          exact ⟨true, set_at ht, fun _ => rfl, fun _ => .inr (.inl rfl)⟩
        · exact ⟨x.ended, set_ne z e, fun y => y, fun y => .inl y⟩
      have hk1 : ∃ t', ({ W with ths := W.ths.set k { t with ended := true } } : WS).ths[k]? = some t' ∧ t'.ended = true := ⟨_, set_at ht, rfl⟩
      generalize ({ W with ths := W.ths.set k { t with ended := true } } : WS) = W1 at hW1 hE1 hR1 hk1
      generalize upd H t.ad (.dK (thkv { t with ended := true })) = H1 at hW1 hE1
      have ew1 : W1.c.w = W.c.w := by rw [hR1.c]
      refine rdF (W := W1) (by rw [ew1]; rfl) hW1 (fl_ends _) ⟨rfl, _, rfl, ?_⟩
      rw [decstr, hR1.c]
      refine ite2 (fun c => ?_) (fun _ => q H1 W1 hW1 hE1 hR1 hk1)
      have c1 : W.c.ends = "holder" := of_decide_eq_true c
      obtain ⟨t1, h1, h2⟩ := hk1
      have e1 : t1 = { t with ended := true } := by
        obtain ⟨e, y1, _⟩ := hR1.at_ k t ht
        rw [h1] at y1
        cases y1
        have : e = true := h2
        rw [this]
      refine rdThF (W := W1) (by rw [ew1]; rfl) rfl hW1 h1 (tk_held t1) ?_
      have hsq : ∀ {H' : Hp} {W2 : WS}, WAt H' W2 → EndR W1 W2 (· = k) → SqT K H' t1.ha (t1.held.map optV) := fun {H' W2} a b => by
        obtain ⟨e, y1, _⟩ := b.at_ k t1 h1
        have z := a.st _ _ (.hld _ (th_mem y1))
        exact SqT.of z
      refine ⟨_, rfl, ⟨_, hsq hW1 .refl⟩, ?_⟩
      refine for_tup (K := K) (a := t1.ha) (xs := t1.held.map optV) (fun j σ H' => ∃ (W2 : WS) (x : Option V), σ = [some (.ref W.c.w), some (natV k), x] ∧ WAt H' W2 ∧ Ext W H W2 H' ∧ EndR W1 W2 (· = k)) ?_ ?_ ?_ ?_
      · exact ⟨W1, none, rfl, hW1, hE1, .refl⟩
      · rintro j σ H' _ ⟨W2, x, rfl, g1, g2, g3⟩
        exact hsq g1 g3
      · rintro j y σ H' hy ⟨W2, x, rfl, g1, g2, g3⟩
        obtain ⟨o, ho, rfl⟩ : ∃ o, t1.held[j]? = some o ∧ y = optV o := by
          rw [List.getElem?_map] at hy
          cases hq : t1.held[j]? with
          | none => rw [hq] at hy; cases hy
          | some o => rw [hq] at hy; exact ⟨o, rfl, (Option.some.inj hy).symm⟩
        refine ⟨_, rfl, rfl, _, rfl, ?_⟩
        cases o with
        | none => refine ite2 (fun d => absurd d (by simp [optV])) (fun _ => ⟨W2, _, rfl, g1, g2, g3⟩)
        | some i =>
          refine ite2 (fun _ => ?_) (fun _ => ⟨W2, _, rfl, g1, g2, g3⟩)
          have hI2 := g3.hinv (hR1.hinv hI)
          obtain ⟨x0, y1, y2⟩ := hI.h k t ht i (by
            have := List.mem_of_getElem? ho
            rw [e1] at this
            exact this)
          obtain ⟨ea, y3, _⟩ := hR1.at_ i x0 y1
          obtain ⟨eb, y4, _⟩ := g3.at_ i _ y3
          have e2c : W2.c = W.c := g3.c.trans hR1.c
          have ew2 : W2.c.w = W.c.w := by rw [e2c]
          have hxn : x0.nm < W.c.n := hI.nm i x0 y1
          refine ⟨_, rfl, _, rfl, W2, i, _, by rw [ew2]; rfl, g1, y4, by rw [e2c]; exact hxn, _, rfl, ?_⟩
          refine ite2 (fun d => ?_) (fun _ => ⟨W2, _, rfl, g1, g2, g3⟩)
          have d1 : W2.c.life x0.nm = -1 := of_decide_eq_true d
          refine ⟨_, rfl, _, rfl, W2, i, _, by rw [ew2]; rfl, by rw [e2c]; exact hxn, by rw [e2c]; show W.c.n ≤ x0.nm + r; omega, g1, hI2, y4, fun H3 W3 k1 k2 k3 _ => ?_⟩
          refine ⟨W3, _, rfl, k1, g2.trans k2, g3.trans k3 (fun _ z => z) fun i' t' z1 z2 => .inr ?_⟩
          subst z2
          rw [y3] at z1
          cases z1
          exact ⟨by rw [hR1.c]; exact c1, by rw [hR1.c, ← e2c]; exact d1⟩
      · rintro σ H' ⟨W2, x, rfl, g1, g2, g3⟩
        refine q H' W2 g1 g2 (hR1.trans g3 (fun _ z => z) fun _ _ _ z => .inl z) ?_
        obtain ⟨e, y1, y2, _⟩ := g3.at_ k t1 h1
        exact ⟨_, y1, y2 h2⟩
end
end HL

set_option Elab.async false
set_option linter.all false
set_option maxRecDepth 100000
set_option maxHeartbeats 4000000
/-! E2: closed, opened, done -/
namespace HL
open PySem PySem.Spec PyProof.Rows L2
theorem rdOrT {t u : TT} {σ : L2.St} {H : Hp} {Q : Bool → Hp → Prop} (c d : Bool) (ht : ∀ R : Bool → Hp → Prop, R c H → t σ H R) (hu : c = false → ∀ R : Bool → Hp → Prop, R d H → u σ H R) (q : Q (c || d) H) : tOr t u σ H Q := by
  refine ht _ ?_
  cases c with
  | true => exact q
  | false => exact hu rfl Q q
theorem rdAndT {t u : TT} {σ : L2.St} {H : Hp} {Q : Bool → Hp → Prop} (c d : Bool) (ht : ∀ R : Bool → Hp → Prop, R c H → t σ H R) (hu : c = true → ∀ R : Bool → Hp → Prop, R d H → u σ H R) (q : Q (c && d) H) : tAnd t u σ H Q := by
  refine ht _ ?_
  cases c with
  | false => exact q
  | true => exact hu rfl Q q
section
variable {W W' W1 : WS}
theorem EndR.back {X : Nat → Prop} (a : EndR W W' X) {i : Nat} {t' : Thing} (z : W'.ths[i]? = some t') : ∃ t, W.ths[i]? = some t ∧ t' = { t with ended := t'.ended } ∧ (t.ended = true → t'.ended = true) ∧ (t'.ended = true → t.ended = true ∨ X i ∨ (W.c.ends = "holder" ∧ W.c.life t.nm = -1)) := by
  have hi := lt_of_get z
  rw [a.len] at hi
  have h0 := List.getElem?_eq_getElem hi
  obtain ⟨e, h1, h2, h3⟩ := a.at_ i _ h0
  rw [z] at h1
  have h4 := Option.some.inj h1
  subst h4
  exact ⟨_, h0, rfl, h2, h3⟩
theorem EndR.full {X : Nat → Prop} (a : EndR W W' X) {m : Nat} (h : Full W m) : Full W' m := fun i t' z l => by
  obtain ⟨t, h1, h2, _⟩ := a.back z
  rw [h2] at l ⊢
  rw [a.c]
  exact h i t h1 l
theorem EndR.onto {X : Nat → Prop} (a : EndR W W' X) : Onto W W' := .mk' a.c a.scs fun k t z => by
  obtain ⟨e, h1, _⟩ := a.at_ k t z
  exact ⟨_, h1, rfl, rfl, rfl⟩
theorem EndR.holds {X : Nat → Prop} (a : EndR W W' X) {i k : Nat} (h : Holds W' i k) : Holds W i k := by
  obtain ⟨t', j, u, h1, h2, h3, h4⟩ := h
  obtain ⟨t, g1, g2, _⟩ := a.back h1
  rw [a.c] at h2 h4
  rw [g2] at h2 h3
  exact ⟨t, j, u, g1, h2, h3, h4⟩
/-- ended flags of things for one use alone, where the holder ends them -/
theorem winv_flags (h : WInv W) {X : Nat → Prop} (a : EndR W W' X) (hX : ∀ (i : Nat) (t : Thing), W.ths[i]? = some t → X i → W.c.ends = "holder" ∧ W.c.life t.nm = -1) : WInv W' := by
  have o := a.onto
  have hne : ("holder" : Str) ≠ "scope" := by decide +kernel
  have hne2 : ("holder" : Str) ≠ "never" := by decide +kernel
  refine ⟨by rw [a.c]; exact h.c, h.s.congr a.scs a.c, by rw [a.scs, a.shut]; exact h.op, by rw [a.shut]; exact h.sh0, by rw [a.shut, a.scs]; exact h.shl, fun i t' z => ?_, fun i j k p q => h.q i j k (a.holds p) (a.holds q), fun i t' z => ?_, fun i t' z => ?_,
    fun x z => by rw [a.wks] at z; exact (h.w x z).onto o fun q => by rw [a.shut]; exact (h.w x z).op q, by rw [a.wks]; exact h.wn, fun x z => by rw [a.wks] at z; rw [a.put]; exact h.wp x z, fun k z => ?_⟩
  · obtain ⟨t, h1, h2, _⟩ := a.back z
    rw [h2]
    have := (h.t i t h1).onto o h.s
    exact ⟨this.nm, this.by1, this.by2, this.home, this.low, this.held⟩
  · obtain ⟨t, h1, h2, h3, h4⟩ := a.back z
    have h5 := h.e1 i t h1
    rw [h2, a.c, a.shut]
    show W.c.life t.nm ≠ -1 ∨ W.c.ends = "scope" → (t'.ended = true ↔ t.home ∈ W.shut)
    intro y
    rw [← h5 y]
    refine ⟨fun e => ?_, h3⟩
    have no : ¬ (W.c.ends = "holder" ∧ W.c.life t.nm = -1) := fun ⟨p1, p2⟩ => by
      rcases y with y | y
      · exact y p2
      · rw [p1] at y
        exact hne y
    rcases h4 e with e | e | e
    · exact e
    · exact absurd (hX i t h1 e) no
    · exact absurd e no
  · obtain ⟨t, h1, h2, h3, h4⟩ := a.back z
    rw [h2, a.c]
    show W.c.life t.nm = -1 → W.c.ends = "never" → t'.ended = false
    intro y1 y2
    have no : ¬ (W.c.ends = "holder" ∧ W.c.life t.nm = -1) := fun ⟨p1, _⟩ => by
      rw [p1] at y2
      exact hne2 y2
    cases e : t'.ended with
    | false => rfl
    | true =>
      rcases h4 e with e | e | e
      · rw [h.e2 i t h1 y1 y2] at e
        cases e
      · exact absurd (hX i t h1 e) no
      · exact absurd e no
  · rw [a.loose] at z
    obtain ⟨t, h1, h2⟩ := h.lk k z
    obtain ⟨e, h3, _⟩ := a.at_ k t h1
    exact ⟨_, h3, by rw [a.c]; exact h2⟩
def CloX (W : WS) (s : Nat) (i : Nat) : Prop := ∃ t, W.ths[i]? = some t ∧ t.home = s ∧ (W.c.life t.nm ≠ -1 ∨ W.c.ends = "scope")
theorem winv_closed (h : WInv W) {s : Nat} (hs : s < W.scs.length) (h0 : s ≠ 0) (hc : ∀ (c : Nat) (x : Scp), W.scs[c]? = some x → x.und = some s → c ∈ W.shut) (hw : W.c.works = "wait" → ∀ x ∈ W.wks, x.req ≠ s)
    (a : EndR { W with shut := W.shut ++ [s] } W' (CloX W s)) (hall : ∀ (i : Nat) (t' : Thing), W'.ths[i]? = some t' → t'.home = s → (W.c.life t'.nm ≠ -1 ∨ W.c.ends = "scope") → t'.ended = true) : WInv W' := by
  have o : Onto W W' := .mk' a.c a.scs fun k t z => by
    obtain ⟨e, h1, _⟩ := a.at_ k t z
    exact ⟨_, h1, rfl, rfl, rfl⟩
  have hsh : W'.shut = W.shut ++ [s] := a.shut
  have hcc : W'.c = W.c := a.c
  have hscs : W'.scs = W.scs := a.scs
  have hne : ("holder" : Str) ≠ "scope" := by decide +kernel
  have hne2 : ("holder" : Str) ≠ "never" := by decide +kernel
  have hne3 : ("scope" : Str) ≠ "never" := by decide +kernel
  have mem : ∀ x, x ∈ W'.shut ↔ x ∈ W.shut ∨ x = s := fun x => by rw [hsh, List.mem_append, List.mem_singleton]
  have hh : ∀ i k, Holds W' i k → Holds W i k := fun i k z => a.holds z
  refine ⟨by rw [hcc]; exact h.c, h.s.congr hscs hcc, fun c x u z1 z2 z3 z4 => ?_, fun z => ?_, fun x z => ?_, fun i t' z => ?_, fun i j k p q => h.q i j k (hh _ _ p) (hh _ _ q), fun i t' z => ?_, fun i t' z => ?_,
    fun x z => ?_, by rw [show W'.wks = W.wks from a.wks]; exact h.wn, fun x z => by rw [show W'.wks = W.wks from a.wks] at z; rw [show W'.put = W.put from a.put]; exact h.wp x z, fun k z => ?_⟩
  · rw [hscs] at z1
    rw [mem] at z3 z4
    rcases z4 with z4 | z4
    · exact h.op c x u z1 z2 (fun y => z3 (.inl y)) z4
    · rw [z4] at z2
      exact z3 (.inl (hc c x z1 z2))
  · rw [mem] at z
    rcases z with z | z
    · exact h.sh0 z
    · exact h0 z.symm
  · rw [mem] at z
    rw [hscs]
    rcases z with z | z
    · exact h.shl x z
    · rw [z]; exact hs
  · obtain ⟨t, h1, h2, _⟩ := a.back z
    rw [h2]
    have := (h.t i t h1).onto o h.s
    exact ⟨this.nm, this.by1, this.by2, this.home, this.low, this.held⟩
  · obtain ⟨t, h1, h2, h3, h4⟩ := a.back z
    have h5 := h.e1 i t h1
    rw [mem, hcc]
    have eh : t'.home = t.home := by rw [h2]
    have en : t'.nm = t.nm := by rw [h2]
    rw [eh, en]
    intro y
    constructor
    · intro e
      rcases h4 e with e | ⟨t2, e1, e2, _⟩ | ⟨e1, e2⟩
      · exact .inl ((h5 y).mp e)
      · rw [show W.ths[i]? = some t from h1] at e1
        cases e1
        exact .inr e2
      · exfalso
        have e1' : W.c.ends = "holder" := e1
        rcases y with y | y
        · exact y e2
        · rw [e1'] at y
          exact hne y
    · rintro (e | e)
      · exact h3 ((h5 y).mpr e)
      · exact hall i t' z (by rw [eh]; exact e) (by rw [en]; exact y)
  · obtain ⟨t, h1, h2, h3, h4⟩ := a.back z
    have en : t'.nm = t.nm := by rw [h2]
    rw [hcc, en]
    intro y1 y2
    cases e : t'.ended with
    | false => rfl
    | true =>
      rcases h4 e with e | ⟨t2, e1, e2, e3⟩ | ⟨e1, _⟩
      · rw [h.e2 i t h1 y1 y2] at e
        cases e
      · rw [show W.ths[i]? = some t from h1] at e1
        cases e1
        rcases e3 with e3 | e3
        · exact absurd y1 e3
        · rw [y2] at e3
          exact absurd e3.symm hne3
      · have e1' : W.c.ends = "holder" := e1
        rw [e1'] at y2
        exact absurd y2 hne2
  · rw [show W'.wks = W.wks from a.wks] at z
    refine (h.w x z).onto o fun q y => ?_
    rw [mem] at y
    rcases y with y | y
    · exact (h.w x z).op q y
    · exact hw q x z y
  · rw [show W'.loose = W.loose from a.loose] at z
    obtain ⟨t, h1, h2⟩ := h.lk k z
    obtain ⟨e, h3, _⟩ := a.at_ k t h1
    exact ⟨_, h3, by rw [hcc]; exact h2⟩
end
section
variable {P : Program} {w : World} {K : PySem.W.Frag} {mg : Str → Option Value} {base : Heap}
def spClosed : Sp := fun vs H Q _ => ∃ (W : WS) (s : Nat), vs = [.ref W.c.w, natV s] ∧ WAt H W ∧ WInv W ∧ s < W.scs.length ∧ s ≠ 0 ∧ (∀ (c : Nat) (x : Scp), W.scs[c]? = some x → x.und = some s → c ∈ W.shut) ∧ (W.c.works = "wait" → ∀ x ∈ W.wks, x.req ≠ s) ∧
  W.ths.length ≤ 1000000 ∧ W.shut.length ≤ 1000000 ∧ ∀ H' W', WAt H' W' → Ext W H W' H' → WInv W' → EndR { W with shut := W.shut ++ [s] } W' (fun _ => True) → Q .non H'
theorem ok_closed (T : Txt K mg) : OKF P w K mg base 9 "_law_closed" P_law_closed spClosed := by
  have G_law_is_use := ok_is_use (P := P) (w := w) (base := base) T
  have G_law_ended := ok_ended (P := P) (w := w) (base := base) T 6
  refine okf T.f_law_closed sc_law_closed (fun _ _ _ _ _ _ us hl => match us, hl with | [_, _], _ => rfl) (fun vs H Q E h => ?_) (fun cdv A outer s H vs Q E hr h => ⟨_, (pss_cons (ps_expr (pe_bm PySem.F.plainAttrs_list PySem.F.slot_list_append PySem.F.type_list_append mt_append (pe_dget (hu_of hr) (pv 0) pe_str (fun _ _ => rfl)) (pa_cons (pv 1) pa_nil)))
    (pss_one (ps_for PassesOwn.never rfl (pi_range1 (by rfl) T.b_range (pa_cons (pe_callB (lenS K) (by rfl) T.b_len (by decide +kernel) (pa_cons (pe_dget (hu_of hr) (pv 0) pe_str (fun _ _ => rfl)) pa_nil)) pa_nil)) (pg_name (i := 2) sc_law_closed.nd rfl (Or.inl rfl)) (pss_one (ps_if (pt_cmpR op_eq (pe_dget (hu_of hr) (pe_ix (ixL K) (pe_dget (hu_of hr) (pv 0) pe_str (fun _ _ => rfl)) (pv 2) (fun _ _ => rfl)) pe_str (fun _ _ => rfl)) (pv 1) (nomark _)) (pss_one (ps_if (PW.pt (pw_or (pt_not (pt_val (pe_callK K G_law_is_use (hr.mono (by omega)) (by rfl) (pa_cons (pv 0) (pa_cons (pv 2) pa_nil))))) (pw_or1 (pt_cmpR op_eq (pe_dget (hu_of hr) (pe_dget (hu_of hr) (pv 0) pe_str (fun _ _ => rfl)) pe_str (fun _ _ => rfl)) pe_str (nomark _))))) (pss_one (ps_expr (pe_callK K G_law_ended (hr.mono (by omega)) (by rfl) (pa_cons (pv 0) (pa_cons (pv 2) pa_nil))))) pss_nil)) pss_nil))))), ?_⟩)
  · obtain ⟨W, s, rfl, _⟩ := h
    rfl
  · obtain ⟨W, s, rfl, hW, hI, hs, h0, hc, hw, hz, hz2, q⟩ := h
    have sz := sizeLine_eq
    refine rdW rfl hW (wk_shut W) ⟨tyL hW.hsh, _, rfl, W.c.sh, _, natV s, rfl, rfl, hW.hsh, by rw [List.length_map]; omega, ?_⟩
    obtain ⟨hW1, hE1⟩ := w_shut hW s
    have hI1 : HInv { W with shut := W.shut ++ [s] } := ⟨hI.c, hI.hinv.nm, hI.hinv.h⟩
    have ht1 : ({ W with shut := W.shut ++ [s] } : WS).ths = W.ths := rfl
    have hc1 : ({ W with shut := W.shut ++ [s] } : WS).c = W.c := rfl
    generalize hWe : ({ W with shut := W.shut ++ [s] } : WS) = W1 at hW1 hE1 hI1 ht1 hc1
    generalize upd H W.c.sh (.lst (W.shut.map natV ++ [natV s])) = H1 at hW1 hE1
    have ew1 : W1.c.w = W.c.w := by rw [hc1]
    refine rdW (W := W1) (by rw [ew1]; rfl) hW1 (wk_things W1) ⟨_, _, rfl, .inl (sqTh hW1), _, rfl, by rw [List.length_map, ht1]; omega, by rw [List.length_map, ht1]; omega, ?_⟩
    have hn0 : ((W1.ths.map fun t => V.ref t.ad).length : Int).toNat = W.ths.length := by rw [List.length_map, ht1]; omega
    rw [hn0]
    refine for_range (fun j σ H' => ∃ (W2 : WS) (x : Option V), σ = [some (.ref W.c.w), some (natV s), x] ∧ WAt H' W2 ∧ Ext W H W2 H' ∧ EndR W1 W2 (CloX W s) ∧
      ∀ (i : Nat) (t' : Thing), i < j → W2.ths[i]? = some t' → t'.home = s → (W.c.life t'.nm ≠ -1 ∨ W.c.ends = "scope") → t'.ended = true) ?_ ?_ ?_
    · exact ⟨W1, none, rfl, hW1, hE1, .refl, fun i _ z => absurd z (by omega)⟩
    · rintro j σ H' hj ⟨W2, x, rfl, g1, g2, g3, g4⟩
      rw [Int.zero_add]
      have e2c : W2.c = W.c := g3.c.trans hc1
      have ew2 : W2.c.w = W.c.w := by rw [e2c]
      have hl2 : j < W2.ths.length := by rw [g3.len, ht1]; exact hj
      have hx := List.getElem?_eq_getElem hl2
      generalize W2.ths[j] = t at hx
      obtain ⟨t0, b1, b2, _⟩ := g3.back hx
      have hI2 := g3.hinv hI1
      have htn := hI2.nm j t hx
      have n6 := hI.c.n6
      have e2n : W2.c.n = W.c.n := by rw [e2c]
      have keep : (t.home = s → (W.c.life t.nm ≠ -1 ∨ W.c.ends = "scope") → False) → ∀ (i : Nat) (t' : Thing), i < j + 1 → W2.ths[i]? = some t' → t'.home = s → (W.c.life t'.nm ≠ -1 ∨ W.c.ends = "scope") → t'.ended = true := fun no i t' z1 z2 z3 z4 => by
        rcases Nat.lt_or_ge i j with z | z
        · exact g4 i t' z z2 z3 z4
        · have : i = j := by omega
          subst this
          rw [hx] at z2
          cases z2
          exact absurd z4 (fun y => no z3 y)
      refine rdThF (W := W2) (by rw [ew2]; rfl) rfl g1 hx (tk_home t) ⟨_, rfl, rfl, _, rfl, ?_⟩
      rw [natV_dec]
      refine ite2 (fun d => ?_) (fun d => ⟨W2, _, rfl, g1, g2, g3, keep fun y _ => d (decide_eq_true y)⟩)
      have d1 := of_decide_eq_true d
      refine rdOrT (!decide (W2.c.life t.nm = -1)) (decide (W2.c.ends = "scope")) (fun R z => ⟨_, rfl, _, rfl, W2, j, t, by rw [ew2]; rfl, g1, hx, htn, _, rfl, z⟩) (fun _ R z => rdF (W := W2) (by rw [ew2]; rfl) g1 (fl_ends _) ⟨rfl, _, rfl, ?_⟩) ?_
      · rw [decstr]
        exact z
      refine ite2 (fun e => ?_) (fun e => ⟨W2, _, rfl, g1, g2, g3, keep fun _ y => e ?_⟩)
      · have e1 : W.c.life t.nm ≠ -1 ∨ W.c.ends = "scope" := by
          rw [Bool.or_eq_true, Bool.not_eq_true', decide_eq_false_iff_not, decide_eq_true_eq, e2c] at e
          exact e
        refine ⟨_, rfl, _, rfl, W2, j, t, by rw [ew2]; rfl, htn, by omega, g1, hI2, hx, fun H3 W3 k1 k2 k3 ⟨t3, k4, k5⟩ => ?_⟩
        have k6 := g3.trans k3 (Z := CloX W s) (fun _ z => z) fun i' t' z1 z2 => by
          subst z2
          left
          rw [ht1] at b1
          refine ⟨t0, b1, ?_⟩
          rw [b2] at d1 e1
          exact ⟨d1, e1⟩
        refine ⟨W3, _, rfl, k1, g2.trans k2, k6, fun i t' z1 z2 z3 z4 => ?_⟩
        rcases Nat.lt_or_ge i j with z | z
        · obtain ⟨t2, y1, y2, y3, _⟩ := k3.back z2
          refine y3 (g4 i t2 z y1 ?_ ?_)
          · rw [y2] at z3
            exact z3
          · rw [y2] at z4
            exact z4
        · have : i = j := by omega
          subst this
          rw [k4] at z2
          cases z2
          exact k5
      · rw [Bool.or_eq_true, Bool.not_eq_true', decide_eq_false_iff_not, decide_eq_true_eq, e2c]
        exact y
    · rintro σ H' ⟨W2, x, rfl, g1, g2, g3, g4⟩
      rw [← hWe] at g3
      refine q H' W2 g1 g2 (winv_closed hI hs h0 hc hw g3 fun i t' z => g4 i t' (by have := lt_of_get z; rw [g3.len] at this; exact this) z) (g3.mono fun _ _ => trivial)
end
end HL

set_option Elab.async false
set_option linter.all false
set_option maxRecDepth 100000
set_option maxHeartbeats 4000000
/-! E3: opened, done -/
namespace HL
open PySem PySem.Spec PyProof.Rows L2
section
variable {W : WS}
def opn (W : WS) (u : Nat) (ad : Addr) : WS := { W with scs := W.scs ++ [⟨lv W u + 1, some u, ad⟩] }
theorem opn_at {u : Nat} {ad : Addr} {s : Nat} (h : s < W.scs.length) : (opn W u ad).scs[s]? = W.scs[s]? := List.getElem?_append_left h
theorem opn_new {u : Nat} {ad : Addr} : (opn W u ad).scs[W.scs.length]? = some ⟨lv W u + 1, some u, ad⟩ := by
  show (W.scs ++ [_])[W.scs.length]? = _
  rw [List.getElem?_append_right (Nat.le_refl _), Nat.sub_self]
  rfl
theorem opn_lv {u : Nat} {ad : Addr} {s : Nat} (h : s < W.scs.length) : lv (opn W u ad) s = lv W s := by
  unfold lv
  rw [opn_at h]
theorem opn_lv_new {u : Nat} {ad : Addr} : lv (opn W u ad) W.scs.length = lv W u + 1 := lv_of opn_new
theorem opn_pr {u : Nat} {ad : Addr} {s : Nat} (h : s < W.scs.length) : pr (opn W u ad) s = pr W s := by
  unfold pr
  rw [opn_at h]
theorem opn_upN (I : SInv W) {u : Nat} {ad : Addr} : ∀ m s, s < W.scs.length → upN (opn W u ad) m s = upN W m s
  | 0, s, h => rfl
  | m + 1, s, h => by
    show upN (opn W u ad) m (pr (opn W u ad) s) = upN W m (pr W s)
    rw [opn_pr h]
    apply opn_upN I m
    rcases Nat.eq_zero_or_pos (lv W s) with e | e
    · have e0 := I.lv_zero h e
      obtain ⟨x, hx⟩ := scp_of h
      have ep : pr W s = x.und.getD 0 := by
        unfold pr
        rw [hx]
      rw [e0] at hx
      rw [ep, (I.zero x hx).2]
      exact I.pos
    · obtain ⟨x, _, _, z, _⟩ := I.step h e
      omega
theorem opn_onto (I : SInv W) {u : Nat} {ad : Addr} : Onto W (opn W u ad) :=
  ⟨rfl, by show _ ≤ (W.scs ++ [_]).length; rw [List.length_append]; omega, fun s h => opn_lv h, fun s k h => by unfold up; rw [opn_lv h, opn_upN I _ _ h], fun k t z => ⟨t, z, rfl, rfl, rfl⟩⟩
theorem opn_get {u : Nat} {ad : Addr} {s : Nat} {x : Scp} (h : (opn W u ad).scs[s]? = some x) : (s < W.scs.length ∧ W.scs[s]? = some x) ∨ (s = W.scs.length ∧ x = ⟨lv W u + 1, some u, ad⟩) := by
  rcases get_push h with z | z
  · exact .inl ⟨lt_of_get z, z⟩
  · exact .inr z
theorem winv_opn (h : WInv W) {u : Nat} {ad : Addr} (hu : u < W.scs.length) (hl : lv W u < W.c.D) (ho : u ∉ W.shut) : WInv (opn W u ad) := by
  have o := opn_onto h.s (u := u) (ad := ad)
  have hlen : (opn W u ad).scs.length = W.scs.length + 1 := by show (W.scs ++ [_]).length = _; simp
  refine ⟨h.c, ⟨by rw [hlen]; omega, fun x z => ?_, fun s x z1 z2 => ?_⟩, fun s x v z1 z2 z3 z4 => ?_, h.sh0, fun s z => by rw [hlen]; have := h.shl s z; omega, fun i t z => (h.t i t z).onto o h.s, h.q, h.e1, h.e2, fun x z => (h.w x z).onto o (h.w x z).op, h.wn, h.wp, h.lk⟩
  · rw [opn_at h.s.pos] at z
    exact h.s.zero x z
  · rcases opn_get z2 with ⟨y1, y2⟩ | ⟨y1, y2⟩
    · obtain ⟨v, y, e1, e2, e3, e4, e5⟩ := h.s.und s x z1 y2
      exact ⟨v, y, e1, e2, by rw [opn_at (lt_of_get e3)]; exact e3, e4, e5⟩
    · obtain ⟨y, hy⟩ := scp_of hu
      rw [y2]
      exact ⟨u, y, rfl, by omega, by rw [opn_at hu]; exact hy, by rw [lv_of hy], hl⟩
  · rcases opn_get z1 with ⟨y1, y2⟩ | ⟨y1, y2⟩
    · exact h.op s x v y2 z2 z3 z4
    · rw [y2] at z2
      cases z2
      exact ho z4
end
section
variable {P : Program} {w : World} {K : PySem.W.Frag} {mg : Str → Option Value} {base : Heap}
def spOpened : Sp := fun vs H Q _ => ∃ (W : WS) (u : Nat), vs = [.ref W.c.w, natV u] ∧ WAt H W ∧ u < W.scs.length ∧ W.scs.length ≤ 1000 ∧ ∀ H' ad, WAt H' (opn W u ad) → Ext W H (opn W u ad) H' → Q (natV W.scs.length) H'
theorem ok_opened (T : Txt K mg) : OKF P w K mg base 1 "_law_opened" P_law_opened spOpened := by
  refine okf T.f_law_opened sc_law_opened (fun _ _ _ _ _ _ us hl => match us, hl with | [_, _], _ => rfl) (fun vs H Q E h => ?_) (fun cdv A outer s H vs Q E hr h => ⟨_, (pss_cons (ps_set (i := 2) sc_law_opened.nd rfl (Or.inl rfl) (pe_callB call_lenD (by rfl) T.b_len (by decide +kernel) (pa_cons (pe_dget (hu_of hr) (pv 0) pe_str (fun _ _ => rfl)) pa_nil)))
    (pss_cons (ps_dput (hu_of hr) (pe_dget (hu_of hr) (pv 0) pe_str (fun _ _ => rfl)) (pv 2) (pe_tup (pa_cons (pe_op op_add (pe_ix (ixT K) (pe_dget (hu_of hr) (pe_dget (hu_of hr) (pv 0) pe_str (fun _ _ => rfl)) (pv 1) (fun _ _ => rfl)) pe_int (fun _ _ => rfl)) pe_int) (pa_cons (pv 1) pa_nil))) rfl)
    (pss_one (ps_ret (pv 2))))), ?_⟩)
  · obtain ⟨W, u, rfl, _⟩ := h
    rfl
  · obtain ⟨W, u, rfl, hW, hu, hz, q⟩ := h
    obtain ⟨x, hx⟩ := scp_of hu
    have ex := lv_of hx
    have hkl : (sckv W.scs).length = W.scs.length := by unfold sckv; rw [List.length_map, List.length_zipIdx]
    refine rdW rfl hW (wk_scopes W) ⟨_, _, rfl, hW.hsc, ?_⟩
    rw [hkl]
    refine rdW rfl hW (wk_scopes W) ⟨_, rfl, _, _, rfl, dscope hW hx, ?_⟩
    refine ⟨_, _, 0, _, rfl, rfl, tscope hW hx, rfl, ?_⟩
    refine ⟨_, _, rfl, rfl, _, rfl, szl, fun p np => ?_⟩
    have s1 := same_new (o := .tup [.int ((x.lev : Nat) + 1), natV u]) np
    have hW1 := hW.same s1
    obtain ⟨hW2, hE2⟩ := w_scope hW1 ⟨lv W u + 1, some u, p⟩ (by rw [ex]; exact upd_same)
    refine rdW rfl hW1 (wk_scopes W) ⟨_, rfl, W.c.sc, _, rfl, DPut.k (k := .inl (W.scs.length : Nat)) hW1.hsc (by rw [hkl]; have := sizeLine_eq; omega), ?_⟩
    exact ⟨_, rfl, q _ p hW2 (Ext.trans (.of_same s1) hE2)⟩
structure DoneR (W W' : WS) : Prop where
  c : W'.c = W.c
  scs : W'.scs = W.scs
  shut : W'.shut = W.shut
  wks : W'.wks = W.wks
  put : W'.put = W.put
  line : W'.line = W.line
  deeds : W'.deeds = W.deeds + 1
  loose : W'.loose = []
  len : W'.ths.length = W.ths.length
  full : Full W 0 → Full W' 0
  told : W'.told.length ≤ W.told.length + W.ths.length
  fau : W'.fau.length ≤ W.fau.length + W.ths.length
def spDone : Sp := fun vs H Q _ => ∃ (W : WS), vs = [.ref W.c.w] ∧ WAt H W ∧ WInv W ∧ W.ths.length ≤ 1000000 ∧ W.told.length + W.ths.length ≤ 10000000 ∧ W.fau.length + W.ths.length ≤ 10000000 ∧
  ∀ H' W', WAt H' W' → Ext W H W' H' → WInv W' → DoneR W W' → Q .non H'
theorem ok_done (T : Txt K mg) : OKF P w K mg base 9 "_law_done" P_law_done spDone := by
  have G_law_is_use := ok_is_use (P := P) (w := w) (base := base) T
  have G_law_ended := ok_ended (P := P) (w := w) (base := base) T 6
  have G_law_is_attached := ok_att (P := P) (w := w) (base := base) T 6
  refine okf T.f_law_done sc_law_done (fun _ _ _ _ _ _ us hl => match us, hl with | [_], _ => rfl) (fun vs H Q E h => ?_) (fun cdv A outer s H vs Q E hr h => ⟨_, (C8.pss_cut (ps_if (pt_cmpR op_eq (pe_dget (hu_of hr) (pe_dget (hu_of hr) (pv 0) pe_str (fun _ _ => rfl)) pe_str (fun _ _ => rfl)) pe_str (nomark _)) (pss_one (ps_for PassesOwn.never rfl (pi_list (pe_dget (hu_of hr) (pv 0) pe_str (fun _ _ => rfl))) (pg_name (i := 1) sc_law_done.nd rfl (Or.inl rfl)) (pss_one (ps_expr (pe_callK K G_law_ended (hr.mono (by omega)) (by rfl) (pa_cons (pv 0) (pa_cons (pv 1) pa_nil))))))) pss_nil)
    (pss_cons (ps_dput (hu_of hr) (pv 0) pe_str (pe_lst pa_nil) rfl)
    (C8.pss_cut (ps_if (PW.pt (pw_and (pt_cmpR op_eq (pe_op op_add (pe_callB (lenS K) (by rfl) T.b_len (by decide +kernel) (pa_cons (pe_dget (hu_of hr) (pv 0) pe_str (fun _ _ => rfl)) pa_nil)) pe_int) (pe_callB call_lenD (by rfl) T.b_len (by decide +kernel) (pa_cons (pe_dget (hu_of hr) (pv 0) pe_str (fun _ _ => rfl)) pa_nil)) (nomark _)) (pw_and1 (pt_cmpR (op_eqE0 hr.units0) (pe_dget (hu_of hr) (pv 0) pe_str (fun _ _ => rfl)) pe_dnewK (nomark _))))) (pss_one (ps_for PassesOwn.never rfl (pi_range1 (by rfl) T.b_range (pa_cons (pe_callB (lenS K) (by rfl) T.b_len (by decide +kernel) (pa_cons (pe_dget (hu_of hr) (pv 0) pe_str (fun _ _ => rfl)) pa_nil)) pa_nil)) (pg_name (i := 1) sc_law_done.nd rfl (Or.inl rfl)) (pss_cons (ps_set (i := 2) sc_law_done.nd rfl (Or.inl rfl) (pe_and (pe_callK K G_law_is_use (hr.mono (by omega)) (by rfl) (pa_cons (pv 0) (pa_cons (pv 1) pa_nil))) (pe_one (pe_not (pe_dget (hu_of hr) (pe_ix (ixL K) (pe_dget (hu_of hr) (pv 0) pe_str (fun _ _ => rfl)) (pv 1) (fun _ _ => rfl)) pe_str (fun _ _ => rfl))))))
    (pss_one (ps_if (PW.pt (pw_and (pt_val (pv 2)) (pw_and (pt_cmpR (ninS K) (pv 1) (pe_dget (hu_of hr) (pv 0) pe_str (fun _ _ => rfl)) (by rfl)) (pw_and1 (pt_not (pt_val (pe_callK K G_law_is_attached (hr.mono (by omega)) (by rfl) (pa_cons (pv 0) (pa_cons (pv 1) pa_nil))))))))) (pss_cons (ps_expr (pe_bm PySem.F.plainAttrs_list PySem.F.slot_list_append PySem.F.type_list_append mt_append (pe_dget (hu_of hr) (pv 0) pe_str (fun _ _ => rfl)) (pa_cons (pv 1) pa_nil)))
    (pss_one (ps_expr (pe_bm PySem.F.plainAttrs_list PySem.F.slot_list_append PySem.F.type_list_append mt_append (pe_dget (hu_of hr) (pv 0) pe_str (fun _ _ => rfl)) (pa_cons (pe_tup (pa_cons (pe_dget (hu_of hr) (pv 0) pe_str (fun _ _ => rfl)) (pa_cons pe_str (pa_cons (pv 1) (pa_cons (pe_tup (pa_cons (pe_dget (hu_of hr) (pe_ix (ixL K) (pe_dget (hu_of hr) (pv 0) pe_str (fun _ _ => rfl)) (pv 1) (fun _ _ => rfl)) pe_str (fun _ _ => rfl)) pa_nil)) pa_nil))))) pa_nil))))) pss_nil))))) pss_nil)
    (pss_one (ps_dput (hu_of hr) (pv 0) pe_str (pe_op op_add (pe_dget (hu_of hr) (pv 0) pe_str (fun _ _ => rfl)) pe_int) rfl))))), ?_⟩)
  · obtain ⟨W, rfl, _⟩ := h
    rfl
  · obtain ⟨W, rfl, hW, hI, hz1, hz2, hz3, q⟩ := h
    have n6 := hI.c.n6
    have sz := sizeLine_eq
    refine ⟨fun σ' H' => ∃ (W1 : WS) (x : Option V), σ' = [some (.ref W.c.w), x, none] ∧ WAt H' W1 ∧ Ext W H W1 H' ∧ EndR W W1 (fun i => W.c.ends = "holder" ∧ i ∈ W.loose), ?_, ?_⟩
    · refine rdF rfl hW (fl_ends _) ⟨rfl, _, rfl, ?_⟩
      rw [decstr]
      refine ite2 (fun c => ?_) (fun _ => ⟨W, none, rfl, hW, .refl, .refl⟩)
      have c1 : W.c.ends = "holder" := of_decide_eq_true c
      refine rdW rfl hW (wk_loose W) ⟨_, rfl, ⟨_, SqL.of hW.hlo⟩, ?_⟩
      refine for_list (K := K) (a := W.lo) (xs := W.loose.map natV) (fun j σ H' => ∃ (W1 : WS) (x : Option V), σ = [some (.ref W.c.w), x, none] ∧ WAt H' W1 ∧ Ext W H W1 H' ∧ EndR W W1 (fun i => W.c.ends = "holder" ∧ i ∈ W.loose)) ?_ ?_ ?_ ?_
      · exact ⟨W, none, rfl, hW, .refl, .refl⟩
      · rintro j σ H' _ ⟨W1, x, rfl, g1, g2, g3⟩
        have z := g1.hlo
        rw [g3.lo, g3.loose] at z
        exact SqL.of z
      · rintro j y σ H' hy ⟨W1, x, rfl, g1, g2, g3⟩
        obtain ⟨i, hi, rfl⟩ : ∃ i, W.loose[j]? = some i ∧ y = natV i := by
          rw [List.getElem?_map] at hy
          cases hq : W.loose[j]? with
          | none => rw [hq] at hy; cases hy
          | some o => rw [hq] at hy; exact ⟨o, rfl, (Option.some.inj hy).symm⟩
        have him := List.mem_of_getElem? hi
        obtain ⟨t, h1, h2⟩ := hI.lk i him
        obtain ⟨e, h3, _⟩ := g3.at_ i t h1
        have htn := (hI.t i t h1).nm
        refine ⟨_, rfl, _, rfl, W1, i, _, by rw [g3.c]; rfl, by rw [g3.c]; exact htn, by rw [g3.c]; show W.c.n ≤ t.nm + 6; omega, g1, g3.hinv hI.hinv, h3, fun H2 W2 k1 k2 k3 _ => ⟨W2, _, rfl, k1, g2.trans k2, g3.trans k3 (fun _ z => z) fun i' t' _ z => .inl ?_⟩⟩
        subst z
        exact ⟨c1, him⟩
      · rintro σ H' z
        exact z
    · rintro σ' H1 ⟨W1, x, rfl, hW1, hE1, hR1⟩
      have hI1 : WInv W1 := winv_flags hI hR1 fun i t z1 ⟨z2, z3⟩ => by
        obtain ⟨t', h1, h2⟩ := hI.lk i z3
        rw [z1] at h1
        cases h1
        exact ⟨z2, h2⟩
      have ew1 : W1.c.w = W.c.w := by rw [hR1.c]
      refine ⟨szl, fun l nl => ?_⟩
      obtain ⟨hW2, hE2⟩ := w_loose0 hW1 nl
      have hwl : (upd H1 l (.lst [])) W1.c.w = some (.dK (wkv W1)) := same_new nl _ _ hW1.hw
      refine ⟨_, rfl, W.c.w, _, rfl, DPut.k (k := .inr "loose") (by rw [← ew1]; exact hwl) (by show 15 < sizeLine; omega), ?_⟩
      rw [← ew1]
      have hI2 : WInv { W1 with lo := l, loose := [] } := hI1.misc rfl rfl rfl rfl rfl rfl fun _ z => nomatch z
      have d2 : ({ W1 with lo := l, loose := [] } : WS).c = W.c ∧ ({ W1 with lo := l, loose := [] } : WS).scs = W.scs ∧ ({ W1 with lo := l, loose := [] } : WS).shut = W.shut ∧ ({ W1 with lo := l, loose := [] } : WS).wks = W.wks ∧ ({ W1 with lo := l, loose := [] } : WS).put = W.put ∧
          ({ W1 with lo := l, loose := [] } : WS).line = W.line ∧ ({ W1 with lo := l, loose := [] } : WS).deeds = W.deeds ∧ ({ W1 with lo := l, loose := [] } : WS).loose = [] ∧ ({ W1 with lo := l, loose := [] } : WS).ths.length = W.ths.length ∧ (Full W 0 → Full { W1 with lo := l, loose := [] } 0) ∧
          ({ W1 with lo := l, loose := [] } : WS).told = W.told ∧ ({ W1 with lo := l, loose := [] } : WS).fau = W.fau :=
        ⟨hR1.c, hR1.scs, hR1.shut, hR1.wks, hR1.put, hR1.line, hR1.deeds, rfl, hR1.len, fun z => (show Full W1 0 from hR1.full z), hR1.told, hR1.fau⟩
      generalize ({ W1 with lo := l, loose := [] } : WS) = W2 at hW2 hE2 hI2 d2
      obtain ⟨d1, d2, d3, d4, d5, d6, d7, d8, d9, d10, d11, d12⟩ := d2
      generalize upd (upd H1 l (.lst [])) W1.c.w (.dK (putK (wkv W1) (.inr "loose") (.ref l))) = H2 at hW2 hE2
      have hE02 := hE1.trans hE2
      have ew2 : W2.c.w = W.c.w := by rw [d1]
      refine ⟨fun σ' H' => ∃ (W3 : WS) (x y : Option V), σ' = [some (.ref W.c.w), x, y] ∧ WAt H' W3 ∧ Ext W H W3 H' ∧ WInv W3 ∧ W3.c = W.c ∧ W3.scs = W.scs ∧ W3.shut = W.shut ∧ W3.wks = W.wks ∧ W3.put = W.put ∧ W3.line = W.line ∧ W3.deeds = W.deeds ∧ W3.loose = [] ∧ W3.ths = W2.ths ∧
          W3.told.length ≤ W.told.length + W.ths.length ∧ W3.fau.length ≤ W.fau.length + W.ths.length, ?_, ?_⟩
      · have base2 : ∀ {H' : Hp} {x y : Option V}, WAt H' W2 → Ext W H W2 H' → ∃ (W3 : WS) (x' y' : Option V), [some (.ref W.c.w), x, y] = [some (.ref W.c.w), x', y'] ∧ WAt H' W3 ∧ Ext W H W3 H' ∧ WInv W3 ∧ W3.c = W.c ∧ W3.scs = W.scs ∧ W3.shut = W.shut ∧ W3.wks = W.wks ∧ W3.put = W.put ∧ W3.line = W.line ∧ W3.deeds = W.deeds ∧ W3.loose = [] ∧ W3.ths = W2.ths ∧
            W3.told.length ≤ W.told.length + W.ths.length ∧ W3.fau.length ≤ W.fau.length + W.ths.length := fun {H' x y} a b => ⟨W2, x, y, rfl, a, b, hI2, d1, d2, d3, d4, d5, d6, d7, d8, rfl, by rw [d11]; omega, by rw [d12]; omega⟩
        rw [show (W1.c.w : Addr) = W.c.w from ew1]
        refine rdW (W := W2) (by rw [ew2]; rfl) hW2 (wk_shut W2) ⟨_, _, rfl, .inl (SqL.of hW2.hsh), _, _, rfl, rfl, rdW (W := W2) (by rw [ew2]; rfl) hW2 (wk_scopes W2) ⟨_, _, rfl, hW2.hsc, rfl, _, rfl, ?_⟩⟩
        refine ite2 (fun _ => ?_) (fun _ => base2 hW2 hE02)
        refine rdW (W := W2) (by rw [ew2]; rfl) hW2 (wk_works W2) ?_
        intro p np
        have s3 := same_new (o := .dK []) np
        have hW3 := hW2.same s3
        have hE3 := hE02.trans (.of_same s3)
        refine ⟨_, _, _, rfl, rfl, s3 _ _ hW2.hwk, upd_same, _, rfl, ?_⟩
        refine ite2 (fun _ => ?_) (fun _ => base2 hW3 hE3)
        generalize upd H2 p (.dK []) = H3 at s3 hW3 hE3
        refine rdW (W := W2) (by rw [ew2]; rfl) hW3 (wk_things W2) ⟨_, _, rfl, .inl (sqTh hW3), _, rfl, by rw [List.length_map, d9]; omega, by rw [List.length_map, d9]; omega, ?_⟩
        have hn0 : ((W2.ths.map fun t => V.ref t.ad).length : Int).toNat = W2.ths.length := by rw [List.length_map]; omega
        rw [hn0]
        refine for_range (fun j σ H' => ∃ (W3 : WS) (x y : Option V), σ = [some (.ref W.c.w), x, y] ∧ WAt H' W3 ∧ Ext W H W3 H' ∧ WInv W3 ∧ W3.c = W.c ∧ W3.scs = W.scs ∧ W3.shut = W.shut ∧ W3.wks = W.wks ∧ W3.put = W.put ∧ W3.line = W.line ∧ W3.deeds = W.deeds ∧ W3.loose = [] ∧ W3.ths = W2.ths ∧
          W3.told.length ≤ W.told.length + j ∧ W3.fau.length ≤ W.fau.length + j) ?_ ?_ ?_
        · exact ⟨W2, _, _, rfl, hW3, hE3, hI2, d1, d2, d3, d4, d5, d6, d7, d8, rfl, by rw [d11]; omega, by rw [d12]; omega⟩
        · rintro j σ H' hj ⟨W3, x, y, rfl, g1, g2, g3, f1, f2, f3, f4, f5, f6, f7, f8, f9, f10, f11⟩
          rw [Int.zero_add]
          have ew3 : W3.c.w = W.c.w := by rw [f1]
          have hl3 : j < W3.ths.length := by rw [f9]; exact hj
          have hx := List.getElem?_eq_getElem hl3
          generalize W3.ths[j] = t at hx
          have htn := (g3.t j t hx).nm
          have n63 := g3.c.n6
          have same : ∀ {H4 : Hp} {x y : Option V}, Same H' H4 → ∃ (W3 : WS) (x' y' : Option V), [some (.ref W.c.w), x, y] = [some (.ref W.c.w), x', y'] ∧ WAt H4 W3 ∧ Ext W H W3 H4 ∧ WInv W3 ∧ W3.c = W.c ∧ W3.scs = W.scs ∧ W3.shut = W.shut ∧ W3.wks = W.wks ∧ W3.put = W.put ∧ W3.line = W.line ∧ W3.deeds = W.deeds ∧ W3.loose = [] ∧ W3.ths = W2.ths ∧
              W3.told.length ≤ W.told.length + (j + 1) ∧ W3.fau.length ≤ W.fau.length + (j + 1) := fun {H4 x y} s4 => ⟨W3, x, y, rfl, g1.same s4, g2.trans (.of_same s4), g3, f1, f2, f3, f4, f5, f6, f7, f8, f9, by omega, by omega⟩
          refine rdAnd (decide (W3.c.life t.nm = -1)) (!t.ended) (fun R z => ⟨_, rfl, _, rfl, W3, j, t, by rw [ew3]; rfl, g1, hx, htn, z⟩) (fun _ R z => rdThF (W := W3) (by rw [ew3]; rfl) rfl g1 hx (tk_ended t) ⟨_, rfl, z⟩) ?_
          refine ⟨_, rfl, _, rfl, ?_⟩
          refine ite2 (fun _ => ?_) (fun _ => same fun _ _ z => z)
          refine ⟨_, rfl, rdW (W := W3) (by rw [ew3]; rfl) g1 (wk_told W3) ⟨_, _, rfl, .inl (SqL.of g1.hto), rfl, flat_nat, _, rfl, ?_⟩⟩
          refine ite2 (fun _ => ?_) (fun _ => same fun _ _ z => z)
          refine ⟨_, rfl, _, rfl, W3, j, t, by rw [ew3]; rfl, g1, g3, hx, by omega, by rw [f9, d9]; exact hz1, fun H4 b s4 _ => ⟨_, rfl, ?_⟩⟩
          refine ite2 (fun _ => ?_) (fun _ => same s4)
          have g1' := g1.same s4
          have g2' := g2.trans (.of_same s4)
          rw [d9] at hj
          refine rdW (W := W3) (by rw [ew3]; rfl) g1' (wk_told W3) ⟨tyL g1'.hto, _, rfl, W3.c.to, _, natV j, rfl, rfl, g1'.hto, by rw [List.length_map]; omega, ?_⟩
          obtain ⟨hW5, hE5⟩ := w_told g1' j
          have hI5 : WInv { W3 with told := W3.told ++ [j] } := g3.misc rfl rfl rfl rfl rfl rfl g3.lk
          have t5 : (W3.told ++ [j]).length = W3.told.length + 1 := by simp
          generalize upd H4 W3.c.to (.lst (W3.told.map natV ++ [natV j])) = H5 at hW5 hE5
          refine rdW (W := { W3 with told := W3.told ++ [j] }) (by show _ = some (some (V.ref W3.c.w)); rw [ew3]; rfl) hW5 (wk_faults _) ⟨tyL hW5.hfa, rdW (W := { W3 with told := W3.told ++ [j] }) (by show _ = some (some (V.ref W3.c.w)); rw [ew3]; rfl) hW5 (wk_deeds _) ⟨_, rfl, rdThF (W := { W3 with told := W3.told ++ [j] }) (by show _ = some (some (V.ref W3.c.w)); rw [ew3]; rfl) rfl hW5 hx (tk_name t) ⟨szl, fun p6 np6 => ⟨szl, fun p7 np7 => ?_⟩⟩⟩⟩
          have s6 := same_new (o := .tup [.str (nm t.nm)]) np6
          have s7 := same_new (o := .tup [natV W3.deeds, .str "left", natV j, .ref p6]) np7
          have s67 := s6.trans s7
          have hW7 := hW5.same s67
          obtain ⟨hW8, hE8⟩ := w_fau hW7 (.ref p7)
          refine ⟨_, W3.fau, .ref p7, rfl, rfl, hW7.hfa, by omega, { W3 with told := W3.told ++ [j], fau := W3.fau ++ [.ref p7] }, _, _, rfl, hW8, ((g2'.trans hE5).trans (.of_same s67)).trans hE8, g3.misc rfl rfl rfl rfl rfl rfl g3.lk, f1, f2, f3, f4, f5, f6, f7, f8, f9, ?_, ?_⟩
          · show (W3.told ++ [j]).length ≤ _
            omega
          · show (W3.fau ++ [_]).length ≤ _
            simp
            omega
        · rintro σ H' ⟨W3, x, y, rfl, g1, g2, g3, f1, f2, f3, f4, f5, f6, f7, f8, f9, f10, f11⟩
          exact ⟨W3, x, y, rfl, g1, g2, g3, f1, f2, f3, f4, f5, f6, f7, f8, f9, by omega, by omega⟩
      · rintro σ' H3 ⟨W3, x, y, rfl, hW3, hE3, hI3, f1, f2, f3, f4, f5, f6, f7, f8, f9, f10, f11⟩
        have ew3 : W3.c.w = W.c.w := by rw [f1]
        obtain ⟨hW4, hE4⟩ := w_deeds hW3 (W3.deeds + 1)
        refine rdW (W := W3) (by rw [ew3]; rfl) hW3 (wk_deeds W3) ⟨_, _, rfl, rfl, _, rfl, W.c.w, _, rfl, DPut.k (k := .inr "deeds") (by rw [← ew3]; exact hW3.hw) (by show 15 < sizeLine; omega), ?_⟩
        rw [← ew3]
        refine q _ { W3 with deeds := W3.deeds + 1 } hW4 (hE3.trans hE4) (hI3.misc rfl rfl rfl rfl rfl rfl hI3.lk) ⟨f1, f2, f3, f4, f5, f6, by show W3.deeds + 1 = _; rw [f7], f8, by show W3.ths.length = _; rw [f9, d9], fun z => ?_, f10, f11⟩
        have z2 := d10 z
        intro i t y1 y2
        have := z2 i t (by rw [← f9]; exact y1) y2
        rw [d1] at this
        show _ = (hw W3.c t.nm).length
        rw [f1]
        exact this
end
end HL

set_option Elab.async false
set_option linter.all false
set_option maxRecDepth 100000
set_option maxHeartbeats 4000000
/-! A1: ran -/
namespace HL
open PySem PySem.Spec PyProof.Rows L2
/-- what one deed may do -/
structure AnsR (W W' : WS) : Prop where
  c : W'.c = W.c
  line : W'.line = W.line
  deeds : W'.deeds = W.deeds
  told : W'.told = W.told
  full : Full W' 0
  t : W'.ths.length ≤ W.ths.length + 3600
  f : W'.fau.length ≤ W.fau.length + 3600
  l : W'.loose.length ≤ W.loose.length + 3600
  sh : W'.shut.length ≤ W.shut.length + 3
  b : 2 * W'.scs.length + 3 * W'.wks.length ≤ 2 * W.scs.length + 3 * W.wks.length + 3
section
variable {W : WS}
theorem winv_unwork (h : WInv W) (k : Nat) : WInv { W with wks := W.wks.filter fun x => decide (x.key ≠ k) } := by
  have o : Onto W { W with wks := W.wks.filter fun x => decide (x.key ≠ k) } := .mk' rfl rfl fun k t z => ⟨t, z, rfl, rfl, rfl⟩
  refine ⟨h.c, h.s.congr rfl rfl, h.op, h.sh0, h.shl, fun i t z => (h.t i t z).onto o h.s, h.q, h.e1, h.e2, fun x z => ?_, ?_, fun x z => h.wp x (List.mem_filter.mp z).1, h.lk⟩
  · have y := h.w x (List.mem_filter.mp z).1
    exact y.onto o y.op
  · exact h.wn.sublist (List.Sublist.map _ List.filter_sublist)
theorem winv_work (h : WInv W) {x : Wrk} (hx : WrOk W x) (hk : x.key = W.put) : WInv { W with wks := W.wks ++ [x], put := W.put + 1 } := by
  have o : Onto W { W with wks := W.wks ++ [x], put := W.put + 1 } := .mk' rfl rfl fun k t z => ⟨t, z, rfl, rfl, rfl⟩
  refine ⟨h.c, h.s.congr rfl rfl, h.op, h.sh0, h.shl, fun i t z => (h.t i t z).onto o h.s, h.q, h.e1, h.e2, fun y z => ?_, ?_, fun y z => ?_, h.lk⟩
  · rcases List.mem_append.mp z with z | z
    · exact (h.w y z).onto o (h.w y z).op
    · rw [List.mem_singleton] at z
      rw [z]
      exact hx.onto o hx.op
  · show ((W.wks ++ [x]).map (·.key)).Nodup
    rw [List.map_append, List.nodup_append]
    refine ⟨h.wn, by simp, fun a ha b hb => ?_⟩
    obtain ⟨y, hy, rfl⟩ := List.mem_map.mp ha
    have := h.wp y hy
    simp at hb
    rw [hb, hk]
    omega
  · show y.key < W.put + 1
    rcases List.mem_append.mp z with z | z
    · have := h.wp y z
      omega
    · rw [List.mem_singleton] at z
      rw [z, hk]
      omega
end
section
variable {P : Program} {w : World} {K : PySem.W.Frag} {mg : Str → Option Value} {base : Heap}
def spRan (K : PySem.W.Frag) : Sp := fun vs H Q _ => ∃ (W : WS) (x : Wrk), vs = [.ref W.c.w, natV x.key] ∧ W.c.bC = He.ga K "Book" ∧ WAt H W ∧ WInv W ∧ Full W 0 ∧ W.line = [] ∧ x ∈ W.wks ∧ Rm W 10000 ∧ W.scs.length ≤ 500 ∧ W.shut.length ≤ 500 ∧
  ∀ H' W' v, WAt H' W' → Ext W H W' H' → WInv W' → AnsR W W' → Q v H'
theorem ok_ran (T : Txt K mg) : OKF P w K mg base 34 "_law_ran" P_law_ran (spRan K) := by
  have G_law_is_use := ok_is_use (P := P) (w := w) (base := base) T
  have G_law_opened := ok_opened (P := P) (w := w) (base := base) T
  have G_law_closed := ok_closed (P := P) (w := w) (base := base) T
  have G_law_got := ok_got (P := P) (w := w) (base := base) T 6
  have G_law_used := ok_used (P := P) (w := w) (base := base) T 6
  refine okf T.f_law_ran sc_law_ran (fun _ _ _ _ _ _ us hl => match us, hl with | [_, _], _ => rfl) (fun vs H Q E h => ?_) (fun cdv A outer s H vs Q E hr h => ⟨_, (pss_cons (ps_asg (pe_dget (hu_of hr) (pe_dget (hu_of hr) (pv 0) pe_str (fun _ _ => rfl)) (pv 1) (fun _ _ => rfl)) (pg_tup rfl (pgs_cons (pg_name (i := 2) sc_law_ran.nd rfl (Or.inl rfl)) (pgs_cons (pg_name (i := 3) sc_law_ran.nd rfl (Or.inl rfl)) (pgs_cons (pg_name (i := 4) sc_law_ran.nd rfl (Or.inl rfl)) pgs_nil)))))
    (pss_cons (ps_set (i := 5) sc_law_ran.nd rfl (Or.inl rfl) (pe_lst pa_nil))
    (C8.pss_cut (ps_if (pt_cmpR op_eq (pe_dget (hu_of hr) (pe_dget (hu_of hr) (pv 0) pe_str (fun _ _ => rfl)) pe_str (fun _ _ => rfl)) pe_str (nomark _)) (pss_cons (ps_set (i := 2) sc_law_ran.nd rfl (Or.inl rfl) pe_int)
    (pss_cons (ps_for PassesOwn.never rfl (pi_range1 (by rfl) T.b_range (pa_cons (pe_dget (hu_of hr) (pv 0) pe_str (fun _ _ => rfl)) pa_nil)) (pg_name (i := 6) sc_law_ran.nd rfl (Or.inl rfl)) (pss_cons (ps_set (i := 2) sc_law_ran.nd rfl (Or.inl rfl) (pe_callK K G_law_opened (hr.mono (by omega)) (by rfl) (pa_cons (pv 0) (pa_cons (pv 2) pa_nil))))
    (pss_one (ps_expr (pe_bm PySem.F.plainAttrs_list PySem.F.slot_list_append PySem.F.type_list_append mt_append (pv 5) (pa_cons (pv 2) pa_nil))))))
    (pss_one (ps_set (i := 4) sc_law_ran.nd rfl (Or.inl rfl) (pe_callK K G_law_got (hr.mono (by omega)) (by rfl) (pa_cons (pv 0) (pa_cons (pv 3) (pa_cons (pv 2) (pa_cons (pv 2) (pa_cons (pe_tup (pa_cons (pv 3) pa_nil)) pa_nil)))))))))) pss_nil)
    (C8.pss_cut (ps_if (pt_val (pe_callK K G_law_is_use (hr.mono (by omega)) (by rfl) (pa_cons (pv 0) (pa_cons (pv 4) pa_nil)))) (pss_one (ps_expr (pe_bm PySem.F.plainAttrs_list PySem.F.slot_list_append PySem.F.type_list_append mt_append (pe_dget (hu_of hr) (pv 0) pe_str (fun _ _ => rfl)) (pa_cons (pv 4) pa_nil)))) pss_nil)
    (pss_cons (ps_expr (pe_callK K G_law_used (hr.mono (by omega)) (by rfl) (pa_cons (pv 0) (pa_cons (pv 4) (pa_cons (pv 2) (pa_cons (pe_tup (pa_cons (pv 3) pa_nil)) pa_nil))))))
    (pss_cons (ps_for PassesOwn.never rfl (pi_list (pe_revL (pv 5))) (pg_name (i := 7) sc_law_ran.nd rfl (Or.inl rfl)) (pss_one (ps_expr (pe_callK K G_law_closed (hr.mono (by omega)) (by rfl) (pa_cons (pv 0) (pa_cons (pv 7) pa_nil))))))
    (pss_cons (ps_expr (pe_dpop1 (pe_dget (hu_of hr) (pv 0) pe_str (fun _ _ => rfl)) (pv 1) ⟨rfl, rfl, rfl, rfl⟩))
    (pss_one (ps_ret (pv 4)))))))))), ?_⟩)
  · obtain ⟨W, x, rfl, _⟩ := h
    rfl
  · obtain ⟨W, x, rfl, hC, hW, hI, hF, hln, hx, hR, hz1, hz2, q⟩ := h
    have sz := sizeLine_eq
    have n6 := hI.c.n6
    have ok := hI.w x hx
    have hD1 := hI.c.D1
    have hD3 := hI.c.D3
    have hwt := hW.st _ _ (.wrk x hx)
    refine rdW rfl hW (wk_works W) ⟨_, rfl, _, _, rfl, dget_of (k := .inl (x.key : Int)) hW.hwk (wo_at hx hI.wn), ?_⟩
    refine ⟨_, _, rfl, SqT.of hwt, rfl, _, _, rfl, _, _, rfl, _, _, rfl, rfl, ?_⟩
    refine ⟨szl, fun f nf => ?_⟩
    have s1 := same_new (o := .lst []) nf
    have hf1 : (upd H f (.lst [])) f = some (.lst []) := upd_same
    have hW1 := hW.same s1
    have nfm : f ∉ muts W := hW.nnew nf
    generalize upd H f (.lst []) = H1 at s1 hf1 hW1
    have hE1 : Ext W H W H1 := .of_same s1
    refine ⟨fun σ' H' => ∃ (W1 : WS) (r k n0 m : Nat) (y : Thing) (x6 : Option V), σ' = [some (.ref W.c.w), some (natV x.key), some (natV r), some (.str (nm x.nm)), some (natV k), some (.ref f), x6, none] ∧ WAt H' W1 ∧ Ext W H W1 H' ∧ WInv W1 ∧ f ∉ muts W1 ∧
        H' f = some (.lst (((List.range m).map (n0 + ·)).map natV)) ∧ W1.c = W.c ∧ W1.line = W.line ∧ W1.deeds = W.deeds ∧ W1.told = W.told ∧ W1.wks = W.wks ∧ W1.shut = W.shut ∧ Full W1 0 ∧ Sz W W1 (cG 6) ∧ W1.scs.length = W.scs.length + m ∧ m ≤ 3 ∧ n0 = W.scs.length ∧ (0 < m → W.c.works = "own") ∧
        (∀ (c : Nat) (z : Scp) (i : Nat), W1.scs[c]? = some z → i < m → z.und = some (n0 + i) → c = n0 + i + 1) ∧ r < W1.scs.length ∧ lv W1 r = W.c.D ∧ (W.c.works ≠ "same" → r ∉ W1.shut) ∧ W1.ths[k]? = some y ∧ y.nm = x.nm ∧ BegT W1 y r, ?_, ?_⟩
    · refine rdF rfl hW1 (fl_works _) ⟨rfl, _, rfl, ?_⟩
      rw [decstr]
      refine ite2 (fun c => ?_) (fun c => ?_)
      · have c1 : W.c.works = "own" := of_decide_eq_true c
        have hpos := hI.s.pos
        refine rdW rfl hW1 (wk_depth W) ⟨_, rfl, by omega, by omega, ?_⟩
        rw [show ((W.c.D : Nat) : Int).toNat = W.c.D by omega]
        refine for_range (fun j σ H' => ∃ (W1 : WS) (r : Nat) (x6 : Option V), σ = [some (.ref W.c.w), some (natV x.key), some (natV r), some (.str (nm x.nm)), some (optV x.th), some (.ref f), x6, none] ∧ WAt H' W1 ∧ Ext W H W1 H' ∧ WInv W1 ∧ f ∉ muts W1 ∧
            H' f = some (.lst (((List.range j).map (W.scs.length + ·)).map natV)) ∧ W1.c = W.c ∧ W1.line = W.line ∧ W1.deeds = W.deeds ∧ W1.told = W.told ∧ W1.wks = W.wks ∧ W1.shut = W.shut ∧ W1.ths = W.ths ∧ W1.fau = W.fau ∧ W1.loose = W.loose ∧ W1.scs.length = W.scs.length + j ∧
            (∀ (c : Nat) (z : Scp) (i : Nat), W1.scs[c]? = some z → z.und = some (W.scs.length + i) → c = W.scs.length + i + 1) ∧ r < W1.scs.length ∧ lv W1 r = j ∧ r ∉ W1.shut ∧ (j = 0 → r = 0) ∧ (0 < j → r + 1 = W.scs.length + j)) ?_ ?_ ?_
        · refine ⟨W, 0, none, rfl, hW1, hE1, hI, nfm, hf1, rfl, rfl, rfl, rfl, rfl, rfl, rfl, rfl, rfl, rfl, fun c z i z1 z2 => ?_, hpos, hI.s.lv0, hI.sh0, fun _ => rfl, fun z => absurd z (by omega)⟩
          exfalso
          have hc := lt_of_get z1
          rcases Nat.eq_zero_or_pos c with e | e
          · subst e
            rw [(hI.s.zero z z1).2] at z2
            cases z2
          · obtain ⟨u, _, e1, e2, _⟩ := hI.s.und c z e z1
            rw [e1] at z2
            have := Option.some.inj z2
            omega
        · rintro j σ H' hj ⟨W1, r, x6, rfl, g1, g2, g3, g4, g5, e1, e2, e3, e4, e5, e6, e7, e8, e9, e10, e11, e12, e13, e14, e15, e16⟩
          have ew1 : W1.c.w = W.c.w := by rw [e1]
          refine ⟨_, rfl, _, rfl, W1, r, by rw [ew1]; rfl, g1, e12, by omega, fun H2 ad k1 k2 => ?_⟩
          have hI2 := winv_opn g3 (ad := ad) e12 (by rw [e13, e1]; exact hj) e14
          have n2 : f ∉ muts (opn W1 r ad) := fun z => by
            rcases k2.new f z with y | y
            · exact g4 y
            · rw [g5] at y; cases y
          have f2 := k2.keep f _ g4 g5
          have fl2 : (((List.range j).map (W.scs.length + ·)).map natV).length = j := by simp
          refine ⟨_, rfl, tyL f2, _, rfl, f, _, _, rfl, rfl, f2, by rw [fl2]; omega, opn W1 r ad, W1.scs.length, _, rfl, k1.priv n2 f2, (g2.trans k2).priv (by
              cases z : H f with
              | none => rfl
              | some o => rw [z] at nf; cases nf), hI2, n2, ?_, e1, e2, e3, e4, e5, e6, e7, e8, e9, ?_, fun c z i z1 z2 => ?_, ?_, ?_, ?_, fun z => absurd z (by omega), fun _ => by omega⟩
          · rw [upd_same, List.range_succ, List.map_append, List.map_append, e10]
            rfl
          · show (W1.scs ++ [_]).length = _
            rw [List.length_append, e10]
            simp
            omega
          · rcases opn_get z1 with ⟨_, y2⟩ | ⟨y1, y2⟩
            · exact e11 c z i y2 z2
            · rw [y2] at z2
              have y3 : r = W.scs.length + i := Option.some.inj z2
              rcases Nat.eq_zero_or_pos j with y4 | y4
              · have := e15 y4
                omega
              · have := e16 y4
                omega
          · show _ < (W1.scs ++ [_]).length
            rw [List.length_append]
            simp
          · rw [opn_lv_new, e13]
          · show W1.scs.length ∉ W1.shut
            intro z
            have := g3.shl _ z
            omega
        · rintro σ H' ⟨W1, r, x6, rfl, g1, g2, g3, g4, g5, e1, e2, e3, e4, e5, e6, e7, e8, e9, e10, e11, e12, e13, e14, e15, e16⟩
          have ew1 : W1.c.w = W.c.w := by rw [e1]
          have r6 : cG 6 = 651 := rfl
          refine ⟨_, rfl, _, rfl, _, rfl, _, rfl, _, rfl, szl, fun p np => ?_⟩
          have s3 := same_new (o := .tup [.str (nm x.nm)]) np
          have lr : lv W1 r = W1.c.D := by rw [e13, e1]
          refine ⟨W1, x.nm, r, r, p, _, by rw [ew1]; rfl, by rw [e1]; exact ok.nm, by rw [e1]; omega, g1.same s3, g3, ?_, e12, up_self.symm, e12, lr, upd_same, by simp, by simp, ?_, fun H3 W3 o k1 k2 k3 k4 k5 k6 => ?_⟩
          · intro i t z1 _
            rw [e1]
            exact hF i t (by rw [← e7]; exact z1) (Nat.zero_le _)
          · exact ⟨by have := hR.t; rw [e7]; omega, by have := hR.f; rw [e8]; omega, by have := hR.l; rw [e9]; omega⟩
          have hE13 := (Ext.of_same s3).trans k2
          have g5' := s3 _ _ g5
          have n3 : f ∉ muts W3 := fun z => by
            rcases k2.new f z with y | y
            · exact g4 y
            · rw [g5'] at y; cases y
          have f3 := k2.keep f _ g4 g5'
          have hO : HOkG W3 r r x.nm o := by
            rcases k6 with ⟨_, z⟩ | ⟨z, _⟩
            · exact absurd z e14
            · exact z
          have hlx := hI.c.life x.nm ok.nm
          cases o with
          | none =>
            exfalso
            have z := hO.2
            rw [lv_congr k4.scs, k4.c, e13, e1] at z
            omega
          | some k =>
            obtain ⟨y, y1, y2, y3, y4⟩ := hO
            have fw1 : Full W1 0 := fun i t z1 z2 => by
              rw [e1]
              exact hF i t (by rw [← e7]; exact z1) z2
            refine ⟨W3, r, k, W.scs.length, W.c.D, y, x6, rfl, k1, g2.trans hE13, k3, n3, f3, k4.c.trans e1, k4.line.trans e2, k4.deeds.trans e3, k4.told.trans e4, k4.wks.trans e5, k4.shut.trans e6, fw1.grow k4, ?_, by rw [k4.scs]; exact e10, hD3, rfl, fun _ => c1, fun c z i z1 _ z2 => e11 c z i (by rw [← k4.scs]; exact z1) z2, by rw [k4.scs]; exact e12, by rw [lv_congr k4.scs]; exact e13, fun _ => by rw [k4.shut]; exact e14, y1, y2, ?_, ?_⟩
            · exact ⟨by have := k5.t; rw [e7] at this; exact this, by have := k5.f; rw [e8] at this; exact this, by have := k5.l; rw [e9] at this; exact this⟩
            · intro z
              exact y3 (by rw [← y2]; exact z)
            · intro z
              rw [y2] at z ⊢
              exact (y4 z).1
      · have c1 : W.c.works ≠ "own" := fun z => c (decide_eq_true z)
        obtain ⟨k, t, e1, e2, e3, e4⟩ := ok.th c1
        rw [e1]
        refine ⟨W, x.req, k, W.scs.length, 0, t, none, rfl, hW1, hE1, hI, nfm, hf1, rfl, rfl, rfl, rfl, rfl, rfl, hF, Sz.refl.mono (Nat.zero_le _), rfl, by omega, rfl, fun z => absurd z (by omega), fun _ _ _ _ z => absurd z (by omega), ok.req, ok.lev, fun z => ?_, e2, e3, e4⟩
        rcases hI.c.works with z1 | z1 | z1
        · exact absurd z1 c1
        · exact absurd z1 z
        · exact ok.op z1
    · rintro σ' H2 ⟨W1, r, k, n0, m, y, x6, rfl, hW2, hE2, hI2, nf2, hf2, d1, d2, d3, d4, d5, d6, d7, d8, d9, d10, d11, d12, d13, d14, d15, d16, d17, d18, d19⟩
      have r6 : cG 6 = 651 := rfl
      have u6 : cU 6 = 2935 := rfl
      have ew1 : W1.c.w = W.c.w := by rw [d1]
      have hyn : y.nm < W.c.n := by rw [d18]; exact ok.nm
      have fH : H f = none := by
        cases z : H f with
        | none => rfl
        | some o => rw [z] at nf; cases nf
      refine ⟨fun σ' H' => ∃ W3 : WS, σ' = [some (.ref W.c.w), some (natV x.key), some (natV r), some (.str (nm x.nm)), some (natV k), some (.ref f), x6, none] ∧ WAt H' W3 ∧ Ext W H W3 H' ∧ WInv W3 ∧ f ∉ muts W3 ∧
          H' f = some (.lst (((List.range m).map (n0 + ·)).map natV)) ∧ W3.c = W.c ∧ W3.line = W.line ∧ W3.deeds = W.deeds ∧ W3.told = W.told ∧ W3.wks = W.wks ∧ W3.shut = W.shut ∧ W3.scs = W1.scs ∧ W3.ths = W1.ths ∧ Sz W W3 (cG 6 + 1), ?_, ?_⟩
      · have stay : ∀ {H' : Hp}, H' = H2 → ∃ W3 : WS, [some (.ref W.c.w), some (natV x.key), some (natV r), some (.str (nm x.nm)), some (natV k), some (.ref f), x6, none] = [some (.ref W.c.w), some (natV x.key), some (natV r), some (.str (nm x.nm)), some (natV k), some (.ref f), x6, none] ∧ WAt H' W3 ∧ Ext W H W3 H' ∧ WInv W3 ∧ f ∉ muts W3 ∧
            H' f = some (.lst (((List.range m).map (n0 + ·)).map natV)) ∧ W3.c = W.c ∧ W3.line = W.line ∧ W3.deeds = W.deeds ∧ W3.told = W.told ∧ W3.wks = W.wks ∧ W3.shut = W.shut ∧ W3.scs = W1.scs ∧ W3.ths = W1.ths ∧ Sz W W3 (cG 6 + 1) := fun {H'} e => by
          subst e
          exact ⟨W1, rfl, hW2, hE2, hI2, nf2, hf2, d1, d2, d3, d4, d5, d6, rfl, rfl, d8.mono (by omega)⟩
        refine ⟨_, rfl, _, rfl, W1, k, y, by rw [ew1]; rfl, hW2, d17, by rw [d1]; exact hyn, _, rfl, ?_⟩
        refine ite2 (fun e => ?_) (fun _ => stay rfl)
        have hl := d8.l
        have hRl := hR.l
        obtain ⟨hW3, hE3⟩ := w_loose hW2 k
        refine rdW (W := W1) (by rw [ew1]; rfl) hW2 (wk_loose W1) ⟨tyL hW2.hlo, _, rfl, W1.lo, _, natV k, rfl, rfl, hW2.hlo, by rw [List.length_map]; omega, ?_⟩
        have hI3 : WInv { W1 with loose := W1.loose ++ [k] } := hI2.misc rfl rfl rfl rfl rfl rfl fun i hi => by
          rcases List.mem_append.mp hi with z | z
          · exact hI2.lk i z
          · rw [List.mem_singleton] at z
            rw [z]
            exact ⟨y, d17, of_decide_eq_true e⟩
        refine ⟨_, rfl, hW3, hE2.trans hE3, hI3, fun z => ?_, hE3.keep f _ nf2 hf2, d1, d2, d3, d4, d5, d6, rfl, rfl, ?_⟩
        · rcases hE3.new f z with z | z
          · exact nf2 z
          · rw [hf2] at z; cases z
        · exact ⟨by have := d8.t; show W1.ths.length ≤ _; omega, by have := d8.f; show W1.fau.length ≤ _; omega, by show (W1.loose ++ [k]).length ≤ _; simp; omega⟩
      · rintro σ' H3 ⟨W3, rfl, hW3, hE3, hI3, nf3, hf3, b1, b2, b3, b4, b5, b6, b7, b8, b9⟩
        have ew3 : W3.c.w = W.c.w := by rw [b1]
        refine ⟨_, rfl, _, rfl, _, rfl, _, rfl, szl, fun p np => ?_⟩
        have s4 := same_new (o := .tup [.str (nm x.nm)]) np
        have ht3 : W3.ths[k]? = some y := by rw [b8]; exact d17
        have hr3 : r < W3.scs.length := by rw [b7]; exact d14
        have lr3 : lv W3 r = W3.c.D := by rw [lv_congr b7, b1]; exact d15
        have hbeg : BegT W3 y r := by
          unfold BegT
          rw [up_congr b7, b1, ← d1]
          exact d19
        have hF3 : Full W3 0 := fun i t z1 z2 => by
          rw [b1, ← d1]
          exact d7 i t (by rw [← b8]; exact z1) z2
        have hf3' := s4 _ _ hf3
        refine ⟨W3, k, r, p, _, y, by rw [ew3]; rfl, by rw [b1]; exact hyn, by rw [b1]; omega, by rw [b1]; exact hC, hW3.same s4, hI3, hF3, ht3, hr3, lr3, by rw [b1, b6, ← d6]; exact d16, upd_same, by simp, by simp, by rw [b2, hln]; simp, ?_, .inl ⟨rfl, fun S hS => stand_begun hI3.c hI3.s (hI3.t k y ht3) ht3 hS hr3 lr3 hbeg.1 hbeg.2⟩, fun H5 W5 k1 k2 k3 k4 k5 => ?_⟩
        · exact ⟨by have := hR.t; have := b9.t; omega, by have := hR.f; have := b9.f; omega, by have := hR.l; have := b9.l; omega⟩
        have hE5 := hE3.trans ((Ext.of_same s4).trans k2)
        have nf5 : f ∉ muts W5 := fun z => by
          rcases k2.new f z with z | z
          · exact nf3 z
          · rw [hf3'] at z; cases z
        have hf5 := k2.keep f _ nf3 hf3'
        have hpos := hI.s.pos
        have e5s : W5.scs.length = n0 + m := by rw [k4.scs, b7, d9, d11]
        refine ⟨_, rfl, f, _, rfl, SqL.of hf5, fun g ng => ⟨_, rfl, ⟨_, SqL.of upd_same⟩, ?_⟩⟩
        have s6 := same_new (o := .lst (((List.range m).map (n0 + ·)).map natV).reverse) ng
        have ngm := k1.nnew ng
        have hW6 := k1.same s6
        have hE6 := hE5.trans (.of_same s6)
        have hg6 : (upd H5 g (.lst (((List.range m).map (n0 + ·)).map natV).reverse)) g = some (.lst (((List.range m).map (n0 + ·)).map natV).reverse) := upd_same
        generalize upd H5 g (.lst (((List.range m).map (n0 + ·)).map natV).reverse) = H6 at hW6 hE6 hg6
        have hxl : (((List.range m).map (n0 + ·)).map natV).reverse.length = m := by simp
        refine for_list (K := K) (a := g) (xs := (((List.range m).map (n0 + ·)).map natV).reverse) (fun j σ H' => ∃ (W6 : WS) (x7 : Option V), σ = [some (.ref W.c.w), some (natV x.key), some (natV r), some (.str (nm x.nm)), some (natV k), some (.ref f), x6, x7] ∧ WAt H' W6 ∧ Ext W H W6 H' ∧ WInv W6 ∧ g ∉ muts W6 ∧
            H' g = some (.lst (((List.range m).map (n0 + ·)).map natV).reverse) ∧ W6.c = W.c ∧ W6.scs = W5.scs ∧ W6.wks = W.wks ∧ W6.line = W.line ∧ W6.deeds = W.deeds ∧ W6.told = W.told ∧ W6.ths.length = W5.ths.length ∧ Full W6 0 ∧ W6.fau = W5.fau ∧ W6.loose = W5.loose ∧ W6.shut.length = W.shut.length + j ∧
            ∀ c, n0 + m ≤ c + j → c < n0 + m → c ∈ W6.shut) ?_ ?_ ?_ ?_
        · exact ⟨W5, none, rfl, hW6, hE6, k3, ngm, hg6, k4.c.trans b1, rfl, k4.wks.trans b5, k4.line.trans b2, k4.deeds.trans b3, k4.told.trans b4, rfl, hF3.grow k4, rfl, rfl, by rw [k4.shut, b6]; rfl, fun c z1 z2 => absurd z1 (by omega)⟩
        · rintro j σ H' _ ⟨W6, x7, rfl, g1, g2, g3, g4, g5, _⟩
          exact SqL.of g5
        · rintro j v σ H' hv ⟨W6, x7, rfl, g1, g2, g3, g4, g5, e1, e2, e3, e4, e5, e6, e7, e8, e9, e10, e11, e12⟩
          have hj : j < m := by
            have := lt_of_get hv
            rw [hxl] at this
            exact this
          obtain rfl : v = natV (n0 + (m - 1 - j)) := by
            rw [List.getElem?_reverse (by simpa using hj), List.length_map, List.length_map, List.length_range, List.getElem?_map, List.getElem?_map, List.getElem?_range (by omega)] at hv
            exact (Option.some.inj hv).symm
          have ew6 : W6.c.w = W.c.w := by rw [e1]
          have hown : W.c.works = "own" := d12 (by omega)
          have t5 := k5.t
          have t3 := b9.t
          have hRt := hR.t
          refine ⟨_, rfl, _, rfl, W6, n0 + (m - 1 - j), by rw [ew6]; rfl, g1, g3, by rw [e2, e5s]; omega, by omega, fun c z z1 z2 => ?_, fun z => ?_, by rw [e7]; omega, by rw [e11]; omega, fun H7 W7 l1 l2 l3 l4 => ?_⟩
          · have z3 := d13 c z (m - 1 - j) (by rw [← b7, ← k4.scs, ← e2]; exact z1) (by omega) z2
            have z4 := lt_of_get z1
            rw [e2, e5s] at z4
            exact e12 c (by omega) z4
          · rw [e1, hown] at z
            exact absurd z (by decide +kernel)
          · have n7 : g ∉ muts W7 := fun z => by
              rcases l2.new g z with z | z
              · exact g4 z
              · rw [g5] at z; cases z
            have sh7 : W7.shut = W6.shut ++ [n0 + (m - 1 - j)] := l4.shut
            refine ⟨W7, _, rfl, l1, g2.trans l2, l3, n7, l2.keep g _ g4 g5, l4.c.trans e1, l4.scs.trans e2, l4.wks.trans e3, l4.line.trans e4, l4.deeds.trans e5, l4.told.trans e6, l4.len.trans e7, EndR.full l4 (show Full W6 0 from e8), l4.fau.trans e9, l4.loose.trans e10, by rw [sh7, List.length_append, e11]; simp; omega, fun c z1 z2 => ?_⟩
            rw [sh7, List.mem_append, List.mem_singleton]
            rcases Nat.lt_or_ge (c + j) (n0 + m) with z | z
            · exact .inr (by omega)
            · exact .inl (e12 c z z2)
        · rintro σ H' ⟨W6, x7, rfl, g1, g2, g3, g4, g5, e1, e2, e3, e4, e5, e6, e7, e8, e9, e10, e11, e12⟩
          rw [hxl] at e11
          have ew6 : W6.c.w = W.c.w := by rw [e1]
          obtain ⟨hW8, hE8⟩ := w_unwork g1 x.key
          have hx6 : x ∈ W6.wks := by rw [e3]; exact hx
          refine rdW (W := W6) (by rw [ew6]; rfl) g1 (wk_works W6) ⟨W6.c.wk, rfl, ?_, _, rfl, _, .inl (x.key : Int), _, g1.hwk, rfl, wo_at hx6 g3.wn, ?_⟩
          · exact .inl ⟨_, .of g1.hwk⟩
          · refine ⟨_, rfl, q _ _ _ hW8 (g2.trans hE8) (winv_unwork g3 x.key) ⟨e1, e4, e5, e6, e8, ?_, ?_, ?_, ?_, ?_⟩⟩
            · show W6.ths.length ≤ _
              have := k5.t; have := b9.t
              omega
            · show W6.fau.length ≤ _
              rw [e9]
              have := k5.f; have := b9.f
              omega
            · show W6.loose.length ≤ _
              rw [e10]
              have := k5.l; have := b9.l
              omega
            · show W6.shut.length ≤ _
              omega
            · show 2 * W6.scs.length + 3 * (W6.wks.filter fun y => decide (y.key ≠ x.key)).length ≤ _
              have z : (W6.wks.filter fun y => decide (y.key ≠ x.key)).length < W6.wks.length := List.length_filter_lt_length_iff_exists.mpr ⟨x, hx6, by simp⟩
              rw [e2, e5s]
              rw [e3] at z ⊢
              omega
end
end HL

set_option Elab.async false
set_option linter.all false
set_option maxRecDepth 100000
set_option maxHeartbeats 4000000
/-! A2: answer -/
namespace HL
open PySem PySem.Spec PyProof.Rows L2
/-- a deed that the world may answer -/
inductive Deed (H : Hp) (W : WS) (a : Addr) : Prop
  | begin (u : Nat) (h : H a = some (.tup [.str "begin", natV u])) (hu : u < W.scs.length) (hl : lv W u < W.c.D) (ho : u ∉ W.shut)
  | close (s : Nat) (h : H a = some (.tup [.str "close", natV s])) (hs : s < W.scs.length) (h0 : s ≠ 0) (hc : ∀ (c : Nat) (x : Scp), W.scs[c]? = some x → x.und = some s → c ∈ W.shut) (hw : W.c.works = "wait" → ∀ x ∈ W.wks, x.req ≠ s)
  | run (x : Wrk) (h : H a = some (.tup [.str "run", natV x.key])) (hx : x ∈ W.wks)
  | ask (z : Str) (r m : Nat) (hz : z = "later" ∨ z = "use" ∨ z = "ask") (h : H a = some (.tup [.str z, natV r, .str (nm m)])) (hr : r < W.scs.length) (lr : lv W r = W.c.D) (ho : r ∉ W.shut) (hm : m < W.c.n)
structure Bd (W : WS) (d : Nat) : Prop where
  t : W.ths.length ≤ 3600 * d
  f : W.fau.length ≤ 100000 * d
  o : W.told.length ≤ 100000 * d
  l : W.loose = []
  sh : W.shut.length ≤ 3 * d
  b : 2 * W.scs.length + 3 * W.wks.length ≤ 2 + 3 * d
section
variable {W W1 : WS}
theorem got_open (h : WInv W) {m r : Nat} {o : Option Nat} (hm : m < W.c.n) (lr : lv W r = W.c.D) (ho : r ∉ W.shut) (g : Grow W W1 m) (q : GotR W W1 m r r o) : ∃ (k : Nat) (t : Thing), o = some k ∧ W1.ths[k]? = some t ∧ t.nm = m ∧ BegT W1 t r := by
  have hlx := h.c.life m hm
  rcases q with ⟨_, z⟩ | ⟨q, _⟩
  · exact absurd z ho
  · cases o with
    | none =>
      exfalso
      have z := q.2
      rw [lv_congr g.scs, g.c, lr] at z
      omega
    | some k =>
      obtain ⟨y, y1, y2, y3, y4⟩ := q
      refine ⟨k, y, rfl, y1, y2, fun z => y3 (by rw [← y2]; exact z), fun z => ?_⟩
      rw [y2] at z ⊢
      exact (y4 z).1
end
section
variable {P : Program} {w : World} {K : PySem.W.Frag} {mg : Str → Option Value} {base : Heap}
theorem rdKind {σ : L2.St} {H : Hp} {Q : Bool → Hp → Prop} {a : Addr} {x y : Str} {l : List V} (hs : σ[1]? = some (some (.ref a))) (h : H a = some (.tup (.str y :: l))) (q : Q (decide (y = x)) H) : tTest (tOp rEq (tOp (rIxT K) (tVar 1) (tC (.int 0))) (tC (.str x))) σ H Q := by
  refine ⟨_, hs, a, _, 0, _, rfl, rfl, SqT.of h, atI_nat (j := 0) rfl, rfl, _, rfl, ?_⟩
  rw [decstr]
  exact q
theorem rdDeed1 {σ : L2.St} {H : Hp} {Q : VK} {a : Addr} {v u : V} {l : List V} (hs : σ[1]? = some (some (.ref a))) (h : H a = some (.tup (u :: v :: l))) (q : Q v H) : tOp (rIxT K) (tVar 1) (tC (.int 1)) σ H Q :=
  ⟨_, hs, a, _, 1, _, rfl, rfl, SqT.of h, atI_nat (j := 1) rfl, q⟩
theorem rdDeed2 {σ : L2.St} {H : Hp} {Q : VK} {a : Addr} {v u y : V} {l : List V} (hs : σ[1]? = some (some (.ref a))) (h : H a = some (.tup (u :: v :: y :: l))) (q : Q y H) : tOp (rIxT K) (tVar 1) (tC (.int 2)) σ H Q :=
  ⟨_, hs, a, _, 2, _, rfl, rfl, SqT.of h, atI_nat (j := 2) rfl, q⟩
theorem begNo {H : Hp} {a : Addr} {z : Str} {l : List V} {u : Nat} (h : H a = some (.tup (.str z :: l))) (n : z ≠ "begin") (h2 : H a = some (.tup [.str "begin", natV u])) : False := by
  rw [h] at h2
  have := Option.some.inj h2
  injection this with this
  injection this with this _
  exact n (V.str.inj this)
def spAnswer (K : PySem.W.Frag) : Sp := fun vs H Q _ => ∃ (W : WS) (a : Addr) (d : Nat), vs = [.ref W.c.w, .ref a] ∧ W.c.bC = He.ga K "Book" ∧ WAt H W ∧ WInv W ∧ Full W 0 ∧ W.line = [] ∧ Bd W d ∧ d < 24 ∧ Deed H W a ∧
  ∀ H' W' v, WAt H' W' → Ext W H W' H' → WInv W' → Full W' 0 → W'.line = [] → W'.c = W.c → Bd W' (d + 1) → (∀ u, H a = some (.tup [.str "begin", natV u]) → ∃ ad, W'.scs = (opn W u ad).scs ∧ W'.shut = W.shut) → Q v H'
theorem ok_answer (T : Txt K mg) : OKF P w K mg base 36 "_law_answer" P_law_answer (spAnswer K) := by
  have G_law_is_use := ok_is_use (P := P) (w := w) (base := base) T
  have G_law_opened := ok_opened (P := P) (w := w) (base := base) T
  have G_law_closed := ok_closed (P := P) (w := w) (base := base) T
  have G_law_ran := ok_ran (P := P) (w := w) (base := base) T
  have G_law_got := ok_got (P := P) (w := w) (base := base) T 6
  have G_law_used := ok_used (P := P) (w := w) (base := base) T 6
  have G_law_done := ok_done (P := P) (w := w) (base := base) T
  refine okf T.f_law_answer sc_law_answer (fun _ _ _ _ _ _ us hl => match us, hl with | [_, _], _ => rfl) (fun vs H Q E h => ?_) (fun cdv A outer s H vs Q E hr h => ⟨_, (pss_cons (ps_set (i := 2) sc_law_answer.nd rfl (Or.inl rfl) pe_non)
    (C8.pss_cut (ps_if (pt_cmpR op_eq (pe_ix (ixT K) (pv 1) pe_int (fun _ _ => rfl)) pe_str (nomark _)) (pss_one (ps_set (i := 2) sc_law_answer.nd rfl (Or.inl rfl) (pe_callK K G_law_opened (hr.mono (by omega)) (by rfl) (pa_cons (pv 0) (pa_cons (pe_ix (ixT K) (pv 1) pe_int (fun _ _ => rfl)) pa_nil))))) (pss_one (ps_if (pt_cmpR op_eq (pe_ix (ixT K) (pv 1) pe_int (fun _ _ => rfl)) pe_str (nomark _)) (pss_one (ps_expr (pe_callK K G_law_closed (hr.mono (by omega)) (by rfl) (pa_cons (pv 0) (pa_cons (pe_ix (ixT K) (pv 1) pe_int (fun _ _ => rfl)) pa_nil))))) (pss_one (ps_if (pt_cmpR op_eq (pe_ix (ixT K) (pv 1) pe_int (fun _ _ => rfl)) pe_str (nomark _)) (pss_one (ps_set (i := 2) sc_law_answer.nd rfl (Or.inl rfl) (pe_callK K G_law_ran (hr.mono (by omega)) (by rfl) (pa_cons (pv 0) (pa_cons (pe_ix (ixT K) (pv 1) pe_int (fun _ _ => rfl)) pa_nil))))) (pss_one (ps_if (pt_cmpR op_eq (pe_ix (ixT K) (pv 1) pe_int (fun _ _ => rfl)) pe_str (nomark _)) (pss_cons (ps_par (i := 2) (j := 3) (by rfl) sc_law_answer.nd rfl rfl (by decide) rfl rfl (pa_cons (pe_dget (hu_of hr) (pv 0) pe_str (fun _ _ => rfl)) (pa_cons pe_non pa_nil)) (by rfl))
    (C8.pss_cut (ps_if (pt_cmpR op_ne (pe_dget (hu_of hr) (pe_dget (hu_of hr) (pv 0) pe_str (fun _ _ => rfl)) pe_str (fun _ _ => rfl)) pe_str (nomark _)) (pss_one (ps_set (i := 3) sc_law_answer.nd rfl (Or.inl rfl) (pe_callK K G_law_got (hr.mono (by omega)) (by rfl) (pa_cons (pv 0) (pa_cons (pe_ix (ixT K) (pv 1) pe_int (fun _ _ => rfl)) (pa_cons (pe_ix (ixT K) (pv 1) pe_int (fun _ _ => rfl)) (pa_cons (pe_ix (ixT K) (pv 1) pe_int (fun _ _ => rfl)) (pa_cons (pe_tup (pa_cons (pe_ix (ixT K) (pv 1) pe_int (fun _ _ => rfl)) pa_nil)) pa_nil)))))))) pss_nil)
    (pss_cons (ps_dput (hu_of hr) (pe_dget (hu_of hr) (pv 0) pe_str (fun _ _ => rfl)) (pv 2) (pe_tup (pa_cons (pe_ix (ixT K) (pv 1) pe_int (fun _ _ => rfl)) (pa_cons (pe_ix (ixT K) (pv 1) pe_int (fun _ _ => rfl)) (pa_cons (pv 3) pa_nil)))) rfl)
    (pss_one (ps_dput (hu_of hr) (pv 0) pe_str (pe_op op_add (pv 2) pe_int) rfl))))) (pss_cons (ps_set (i := 2) sc_law_answer.nd rfl (Or.inl rfl) (pe_callK K G_law_got (hr.mono (by omega)) (by rfl) (pa_cons (pv 0) (pa_cons (pe_ix (ixT K) (pv 1) pe_int (fun _ _ => rfl)) (pa_cons (pe_ix (ixT K) (pv 1) pe_int (fun _ _ => rfl)) (pa_cons (pe_ix (ixT K) (pv 1) pe_int (fun _ _ => rfl)) (pa_cons (pe_tup (pa_cons (pe_ix (ixT K) (pv 1) pe_int (fun _ _ => rfl)) pa_nil)) pa_nil)))))))
    (C8.pss_cut (ps_if (pt_val (pe_callK K G_law_is_use (hr.mono (by omega)) (by rfl) (pa_cons (pv 0) (pa_cons (pv 2) pa_nil)))) (pss_one (ps_expr (pe_bm PySem.F.plainAttrs_list PySem.F.slot_list_append PySem.F.type_list_append mt_append (pe_dget (hu_of hr) (pv 0) pe_str (fun _ _ => rfl)) (pa_cons (pv 2) pa_nil)))) pss_nil)
    (pss_one (ps_if (pt_cmpR op_eq (pe_ix (ixT K) (pv 1) pe_int (fun _ _ => rfl)) pe_str (nomark _)) (pss_one (ps_expr (pe_callK K G_law_used (hr.mono (by omega)) (by rfl) (pa_cons (pv 0) (pa_cons (pv 2) (pa_cons (pe_ix (ixT K) (pv 1) pe_int (fun _ _ => rfl)) (pa_cons (pe_tup (pa_cons (pe_ix (ixT K) (pv 1) pe_int (fun _ _ => rfl)) pa_nil)) pa_nil))))))) pss_nil)))))))))))
    (pss_cons (ps_expr (pe_callK K G_law_done (hr.mono (by omega)) (by rfl) (pa_cons (pv 0) pa_nil)))
    (pss_one (ps_ret (pv 2)))))), ?_⟩)
  · obtain ⟨W, a, d, rfl, _⟩ := h
    rfl
  · obtain ⟨W, a, d, rfl, hC, hW, hI, hF, hln, hB, hd, hD, q⟩ := h
    have sz := sizeLine_eq
    have n6 := hI.c.n6
    have hB1 := hB.t
    have hB2 := hB.f
    have hB3 := hB.o
    have hB4 : W.loose.length = 0 := by rw [hB.l]; rfl
    have hB5 := hB.sh
    have hB6 := hB.b
    have r6 : cG 6 = 651 := rfl
    have u6 : cU 6 = 2935 := rfl
    have hR : Rm W 10000 := ⟨by omega, by omega, by omega⟩
    refine ⟨fun σ' H' => ∃ (W1 : WS) (v x3 : Option V) (v' : V), v = some v' ∧ σ' = [some (.ref W.c.w), some (.ref a), v, x3] ∧ WAt H' W1 ∧ Ext W H W1 H' ∧ WInv W1 ∧ AnsR W W1 ∧ (∀ u, H a = some (.tup [.str "begin", natV u]) → ∃ ad, W1.scs = (opn W u ad).scs ∧ W1.shut = W.shut), ?_, ?_⟩
    · cases hD with
      | begin u ha hu hl ho =>
        refine rdKind rfl ha ?_
        refine ite2 (fun _ => ?_) (fun z => absurd (decide_eq_true rfl) z)
        refine ⟨_, rfl, rdDeed1 rfl ha ⟨W, u, rfl, hW, hu, by omega, fun H1 ad h1 h2 => ?_⟩⟩
        refine ⟨opn W u ad, _, _, _, rfl, rfl, h1, h2, winv_opn hI hu hl ho, ⟨rfl, rfl, rfl, rfl, hF, by show W.ths.length ≤ _; omega, by show W.fau.length ≤ _; omega, by show W.loose.length ≤ _; omega, by show W.shut.length ≤ _; omega, ?_⟩, fun v hv => ?_⟩
        · show 2 * (W.scs ++ [_]).length + 3 * W.wks.length ≤ _
          rw [List.length_append]
          simp
          omega
        · rw [ha] at hv
          have e : natV u = natV v := by
            have := Option.some.inj hv
            injection this with this
            injection this with _ this
            injection this
          have e2 : u = v := by
            have := V.int.inj e
            omega
          subst e2
          exact ⟨ad, rfl, rfl⟩
      | close s ha hs h0 hc hw =>
        refine rdKind rfl ha ?_
        refine ite2 (fun z => absurd (of_decide_eq_true z) (by decide +kernel)) (fun _ => ?_)
        refine rdKind rfl ha ?_
        refine ite2 (fun _ => ?_) (fun z => absurd (decide_eq_true rfl) z)
        refine ⟨_, rfl, rdDeed1 rfl ha ⟨W, s, rfl, hW, hI, hs, h0, hc, hw, by omega, by omega, fun H1 W1 h1 h2 h3 h4 => ?_⟩⟩
        have e1 : W1.shut = W.shut ++ [s] := h4.shut
        refine ⟨W1, _, _, _, rfl, rfl, h1, h2, h3, ⟨h4.c, h4.line, h4.deeds, h4.told, EndR.full h4 (show Full W 0 from hF), ?_, ?_, ?_, ?_, ?_⟩, fun v hv => ?_⟩
        · have : W1.ths.length = W.ths.length := h4.len
          omega
        · have : W1.fau = W.fau := h4.fau
          rw [this]; omega
        · have : W1.loose = W.loose := h4.loose
          rw [this]; omega
        · rw [e1, List.length_append]
          simp
        · have z1 : W1.scs = W.scs := h4.scs
          have z2 : W1.wks = W.wks := h4.wks
          rw [z1, z2]
          omega
        · exact (begNo ha (by decide +kernel) hv).elim
      | run x ha hx =>
        refine rdKind rfl ha ?_
        refine ite2 (fun z => absurd (of_decide_eq_true z) (by decide +kernel)) (fun _ => ?_)
        refine rdKind rfl ha ?_
        refine ite2 (fun z => absurd (of_decide_eq_true z) (by decide +kernel)) (fun _ => ?_)
        refine rdKind rfl ha ?_
        refine ite2 (fun _ => ?_) (fun z => absurd (decide_eq_true rfl) z)
        refine ⟨_, rfl, rdDeed1 rfl ha ⟨W, x, rfl, hC, hW, hI, hF, hln, hx, hR, by omega, by omega, fun H1 W1 v h1 h2 h3 h4 => ?_⟩⟩
        exact ⟨W1, _, _, _, rfl, rfl, h1, h2, h3, h4, fun u hv => (begNo ha (by decide +kernel) hv).elim⟩
      | ask z r m hz ha hr2 lr ho hm =>
        have zb : z ≠ "begin" := by rcases hz with rfl | rfl | rfl <;> decide +kernel
        have zc : z ≠ "close" := by rcases hz with rfl | rfl | rfl <;> decide +kernel
        have zr : z ≠ "run" := by rcases hz with rfl | rfl | rfl <;> decide +kernel
        have nob : ∀ {W1 : WS} (u : Nat), H a = some (.tup [.str "begin", natV u]) → ∃ ad, W1.scs = (opn W u ad).scs ∧ W1.shut = W.shut := fun u hv => (begNo ha zb hv).elim
        refine rdKind rfl ha ?_
        refine ite2 (fun e => absurd (of_decide_eq_true e) zb) (fun _ => ?_)
        refine rdKind rfl ha ?_
        refine ite2 (fun e => absurd (of_decide_eq_true e) zc) (fun _ => ?_)
        refine rdKind rfl ha ?_
        refine ite2 (fun e => absurd (of_decide_eq_true e) zr) (fun _ => ?_)
        refine rdKind rfl ha ?_
        refine ite2 (fun e => ?_) (fun e => ?_)
        · have hzl : z = "later" := of_decide_eq_true e
          subst hzl
          refine rdW rfl hW (wk_put W) ⟨_, _, rfl, ?_⟩
          refine ⟨fun σ' H' => ∃ (W1 : WS) (o : Option Nat), σ' = [some (.ref W.c.w), some (.ref a), some (natV W.put), some (optV o)] ∧ WAt H' W1 ∧ Ext W H W1 H' ∧ WInv W1 ∧ Grow W W1 0 ∧ Sz W W1 (cG 6) ∧ (W.c.works ≠ "own" → ∃ (k : Nat) (t : Thing), o = some k ∧ W1.ths[k]? = some t ∧ t.nm = m ∧ BegT W1 t r), ?_, ?_⟩
          · refine rdF rfl hW (fl_works _) ⟨rfl, _, rfl, ?_⟩
            rw [decstr]
            refine ite2 (fun c => ?_) (fun c => ?_)
            · refine ⟨_, rfl, rdDeed2 rfl ha (rdDeed1 rfl ha (rdDeed1 rfl ha (rdDeed2 rfl ha ⟨szl, fun p np => ?_⟩)))⟩
              have s1 := same_new (o := .tup [.str (nm m)]) np
              refine ⟨W, m, r, r, p, _, rfl, hm, by omega, hW.same s1, hI, hF.mono (Nat.zero_le _), hr2, up_self.symm, hr2, lr, upd_same, by simp, by simp, hR.mono (by omega), fun H1 W1 o k1 k2 k3 k4 k5 k6 => ?_⟩
              exact ⟨W1, o, rfl, k1, Ext.trans (.of_same s1) k2, k3, k4.mono (Nat.zero_le _), k5, fun _ => got_open hI hm lr ho k4 k6⟩
            · have c1 : W.c.works = "own" := by
                rcases Decidable.em (W.c.works = "own") with y | y
                · exact y
                · rw [decide_eq_false y] at c
                  exact absurd rfl c
              exact ⟨W, none, rfl, hW, .refl, hI, .refl, Sz.refl.mono (Nat.zero_le _), fun y => absurd c1 y⟩
          · rintro σ' H1 ⟨W1, o, rfl, hW1, hE1, hI1, hG1, hZ1, hO⟩
            have ew1 : W1.c.w = W.c.w := by rw [hG1.c]
            have ha1 := hE1.tup hW ha
            refine rdDeed1 rfl ha1 (rdDeed2 rfl ha1 ⟨_, rfl, szl, fun p np => ?_⟩)
            have s2 := same_new (o := .tup [natV r, .str (nm m), optV o]) np
            have hW2 := hW1.same s2
            let x : Wrk := ⟨W.put, r, m, o, p⟩
            have hkl : (wokv W1.wks).length = W1.wks.length := by unfold wokv; rw [List.length_map]
            have e5 : W1.wks = W.wks := hG1.wks
            have hfr : ∀ y ∈ W1.wks, y.key ≠ x.key := fun y hy => by
              rw [e5] at hy
              have := hI.wp y hy
              show y.key ≠ W.put
              omega
            obtain ⟨hW3, hE3⟩ := w_work hW2 x upd_same hfr
            refine rdW (W := W1) (by rw [ew1]; rfl) hW2 (wk_works W1) ⟨_, rfl, W1.c.wk, _, rfl, DPut.k (k := .inl (W.put : Int)) hW2.hwk (by rw [hkl, e5]; omega), ?_⟩
            have hWr : WrOk W1 x := by
              refine ⟨by rw [hG1.c]; exact hm, by rw [hG1.scs]; exact hr2, by rw [lv_congr hG1.scs, hG1.c]; exact lr, fun y => hO (by rw [← hG1.c]; exact y), fun _ => by rw [hG1.shut]; exact ho⟩
            have hI3 := winv_work hI1 hWr (by show W.put = W1.put; rw [hG1.put])
            obtain ⟨hW4, hE4⟩ := w_put hW3 (W.put + 1)
            refine ⟨_, rfl, _, _, rfl, rfl, _, rfl, W.c.w, _, rfl, DPut.k (k := .inr "put") (by rw [← ew1]; exact hW3.hw) (by show 15 < sizeLine; omega), ?_⟩
            rw [← ew1]
            have ep : W1.put = W.put := hG1.put
            rw [ep] at hI3
            have z1 := hZ1.t
            have z2 := hZ1.f
            have z3 := hZ1.l
            refine ⟨_, _, _, _, rfl, rfl, hW4, ((hE1.trans (.of_same s2)).trans hE3).trans hE4, hI3, ⟨hG1.c, hG1.line, hG1.deeds, hG1.told, (show Full W1 0 from hF.grow hG1), by show W1.ths.length ≤ _; omega, by show W1.fau.length ≤ _; omega, by show W1.loose.length ≤ _; omega, by show W1.shut.length ≤ _; rw [hG1.shut]; omega, ?_⟩, nob⟩
            show 2 * W1.scs.length + 3 * (W1.wks ++ [x]).length ≤ _
            rw [hG1.scs, e5, List.length_append]
            simp
            omega
        · refine ⟨_, rfl, rdDeed2 rfl ha (rdDeed1 rfl ha (rdDeed1 rfl ha (rdDeed2 rfl ha ⟨szl, fun p np => ?_⟩)))⟩
          have s1 := same_new (o := .tup [.str (nm m)]) np
          refine ⟨W, m, r, r, p, _, rfl, hm, by omega, hW.same s1, hI, hF.mono (Nat.zero_le _), hr2, up_self.symm, hr2, lr, upd_same, by simp, by simp, hR.mono (by omega), fun H1 W1 o k1 k2 k3 k4 k5 k6 => ?_⟩
          obtain ⟨k, t, rfl, t1, t2, t3⟩ := got_open hI hm lr ho k4 k6
          have hE1 := Ext.trans (.of_same s1) k2
          have hG1 := k4.mono (Nat.zero_le _)
          have ew1 : W1.c.w = W.c.w := by rw [hG1.c]
          have ha1 := hE1.tup hW ha
          have z1 := k5.t
          have z2 := k5.f
          have z3 := k5.l
          refine ⟨fun σ' H' => ∃ W3 : WS, σ' = [some (.ref W.c.w), some (.ref a), some (natV k), none] ∧ WAt H' W3 ∧ Ext W H W3 H' ∧ WInv W3 ∧ Grow W W3 0 ∧ W3.ths = W1.ths ∧ Sz W W3 (cG 6 + 1), ?_, ?_⟩
          · refine ⟨_, rfl, _, rfl, W1, k, t, by rw [ew1]; rfl, k1, t1, by rw [t2, hG1.c]; exact hm, _, rfl, ?_⟩
            refine ite2 (fun e => ?_) (fun _ => ⟨W1, rfl, k1, hE1, k3, hG1, rfl, k5.mono (by omega)⟩)
            obtain ⟨hW3, hE3⟩ := w_loose k1 k
            refine rdW (W := W1) (by rw [ew1]; rfl) k1 (wk_loose W1) ⟨tyL k1.hlo, _, rfl, W1.lo, _, natV k, rfl, rfl, k1.hlo, by rw [List.length_map]; omega, ?_⟩
            have hI3 : WInv { W1 with loose := W1.loose ++ [k] } := k3.misc rfl rfl rfl rfl rfl rfl fun i hi => by
              rcases List.mem_append.mp hi with z | z
              · exact k3.lk i z
              · rw [List.mem_singleton] at z
                rw [z]
                exact ⟨t, t1, of_decide_eq_true e⟩
            refine ⟨_, rfl, hW3, hE1.trans hE3, hI3, ⟨hG1.c, hG1.scs, hG1.shut, hG1.wks, hG1.put, hG1.lo, hG1.told, hG1.deeds, hG1.line, hG1.pre, hG1.new1, hG1.new2⟩, rfl, ?_⟩
            exact ⟨by show W1.ths.length ≤ _; omega, by show W1.fau.length ≤ _; omega, by show (W1.loose ++ [k]).length ≤ _; simp; omega⟩
          · rintro σ' H3 ⟨W3, rfl, hW3, hE3, hI3, hG3, e3t, hZ3⟩
            have ew3 : W3.c.w = W.c.w := by rw [hG3.c]
            have ha3 := hE3.tup hW ha
            have y1 := hZ3.t
            have y2 := hZ3.f
            have y3 := hZ3.l
            have fin : ∀ {H' : Hp} {W4 : WS}, WAt H' W4 → Ext W H W4 H' → WInv W4 → Grow W W4 0 → Sz W W4 3600 → ∃ (W1 : WS) (v x3 : Option V) (v' : V), v = some v' ∧ [some (.ref W.c.w), some (.ref a), some (natV k), none] = [some (.ref W.c.w), some (.ref a), v, x3] ∧ WAt H' W1 ∧ Ext W H W1 H' ∧ WInv W1 ∧ AnsR W W1 ∧
                (∀ u, H a = some (.tup [.str "begin", natV u]) → ∃ ad, W1.scs = (opn W u ad).scs ∧ W1.shut = W.shut) := fun {H' W4} b1 b2 b3 b4 b5 => by
              have x1 := b5.t
              have x2 := b5.f
              have x3 := b5.l
              refine ⟨W4, _, _, _, rfl, rfl, b1, b2, b3, ⟨b4.c, b4.line, b4.deeds, b4.told, hF.grow b4, x1, x2, x3, by rw [b4.shut]; omega, by rw [b4.scs, b4.wks]; omega⟩, nob⟩
            refine rdKind rfl ha3 ?_
            refine ite2 (fun _ => ?_) (fun _ => fin hW3 hE3 hI3 hG3 (hZ3.mono (by omega)))
            refine ⟨_, rfl, _, rfl, rdDeed1 rfl ha3 (rdDeed2 rfl ha3 ⟨szl, fun p np => ?_⟩)⟩
            have s4 := same_new (o := .tup [.str (nm m)]) np
            have ht3 : W3.ths[k]? = some t := by rw [e3t]; exact t1
            have hr3 : r < W3.scs.length := by rw [hG3.scs]; exact hr2
            have lr3 : lv W3 r = W3.c.D := by rw [lv_congr hG3.scs, hG3.c]; exact lr
            have hbeg : BegT W3 t r := by
              unfold BegT at t3 ⊢
              rw [up_congr (W := W1) (by rw [hG3.scs, hG1.scs]), hG3.c, ← hG1.c]
              exact t3
            refine ⟨W3, k, r, p, _, t, by rw [ew3]; rfl, by rw [t2, hG3.c]; exact hm, by rw [hG3.c]; omega, by rw [hG3.c]; exact hC, hW3.same s4, hI3, hF.grow hG3, ht3, hr3, lr3, fun _ => by rw [hG3.shut]; exact ho, upd_same, by simp, by simp, by rw [hG3.line, hln]; simp, ⟨by omega, by omega, by omega⟩, .inl ⟨rfl, fun S hS => stand_begun hI3.c hI3.s (hI3.t k t ht3) ht3 hS hr3 lr3 hbeg.1 hbeg.2⟩, fun H5 W5 l1 l2 l3 l4 l5 => ?_⟩
            exact fin l1 (hE3.trans ((Ext.of_same s4).trans l2)) l3 (hG3.trans l4) ((hZ3.trans l5).mono (by omega))
    · rintro σ' H1 ⟨W1, v, x3, v', rfl, rfl, hW1, hE1, hI1, hA1, hbeg⟩
      have ew1 : W1.c.w = W.c.w := by rw [hA1.c]
      have a1 := hA1.t
      have a2 := hA1.f
      have a3 := hA1.l
      have a4 := hA1.sh
      have a5 := hA1.b
      have a6 : W1.told.length = W.told.length := by rw [hA1.told]
      refine ⟨_, rfl, W1, by rw [ew1]; rfl, hW1, hI1, by omega, by omega, by omega, fun H2 W2 h1 h2 h3 h4 => ?_⟩
      refine ⟨_, rfl, q H2 W2 _ h1 (hE1.trans h2) h3 (h4.full hA1.full) (h4.line.trans (hA1.line.trans hln)) (h4.c.trans hA1.c) ⟨?_, ?_, ?_, h4.loose, ?_, ?_⟩ fun u hu => ?_⟩
      · have := h4.len
        omega
      · have := h4.fau
        omega
      · have := h4.told
        omega
      · rw [h4.shut]
        omega
      · rw [h4.scs, h4.wks]
        omega
      · obtain ⟨ad, z1, z2⟩ := hbeg u hu
        exact ⟨ad, h4.scs.trans z1, h4.shut.trans z2⟩
end
end HL

set_option Elab.async false
set_option linter.all false
set_option maxRecDepth 100000
set_option maxHeartbeats 4000000
/-! L2: take, pick -/
namespace HL
open PySem PySem.Spec PyProof.Rows L2
theorem tyL2 {K : PySem.W.Frag} {H : Hp} {p : Addr} {xs : List V} (h : H p = some (.lst xs)) : tyV K "list" (.ref p) H := .inl ⟨rfl, _, SqL.of h⟩
theorem DrAt.priv {e : Dr} {H : Hp} {T : Nat} (h : DrAt H e T) {a : Addr} {o : HO} (h1 : a ≠ e.d) (h2 : a ≠ e.w) (h3 : a ≠ e.c) : DrAt (L2.upd H a o) e T := by
  obtain ⟨⟨r, t, ws, k1, k2, k3⟩, ⟨cs, k4⟩, k5⟩ := h
  exact ⟨⟨r, t, ws, by rw [upd_ne (fun z => h1 z.symm)]; exact k1, by rw [upd_ne (fun z => h2 z.symm)]; exact k2, k3⟩, ⟨cs, by rw [upd_ne (fun z => h3 z.symm)]; exact k4⟩, k5⟩
theorem DKeep.priv {e : Dr} {H H' : Hp} (k : DKeep e H H') {a : Addr} {o : HO} (n : H a = none) : DKeep e H (L2.upd H' a o) := fun b u h1 h2 h => by
  rw [upd_ne (ne_of_none h n)]
  exact k b u h1 h2 h
theorem DrAt.nd3 {e : Dr} {H : Hp} {T : Nat} (h : DrAt H e T) {b : Addr} (hb : H b = none) : b ≠ e.d ∧ b ≠ e.w ∧ b ≠ e.c := by
  obtain ⟨h1, h2⟩ := h.nd hb
  obtain ⟨cs, h3⟩ := h.cs
  exact ⟨h1, h2, fun z => by rw [z, h3] at hb; cases hb⟩
section
variable {P : Program} {w : World} {K : PySem.W.Frag} {mg : Str → Option Value} {base : Heap}
def spTake : Sp := fun vs H Q _ => ∃ (e : Dr) (T n : Nat), vs = [.ref e.d, natV n] ∧ DrAt H e T ∧ T ≤ 1000000 ∧ 0 < n ∧ n < 1000 ∧ ∀ H' k, k < n → DrAt H' e (T + 1) → DKeep e H H' → Q (natV k) H'
theorem ok_take (T : Txt K mg) : OKF P w K mg base 2 "_law_take" P_law_take spTake := by
  have G_law_mixed := ok_law_mixed (P := P) (w := w) (base := base) T
  refine okf T.f_law_take sc_law_take (fun _ _ _ _ _ _ us hl => match us, hl with | [_, _], _ => rfl) (fun vs H Q E h => ?_) (fun cdv A outer s H vs Q E hr h => ⟨_, (C8.pss_cut (ps_if (pt_cmpR op_eq (pe_dget (hu_of hr) (pv 0) pe_str (fun _ _ => rfl)) pe_int (nomark _)) (pss_one (ps_dput (hu_of hr) (pv 0) pe_str (pe_ifExp (pt_cmpR (neD K hr.units) (pe_dget (hu_of hr) (pv 0) pe_str (fun _ _ => rfl)) (pe_lst pa_nil) (nomark _)) (pe_bm PySem.F.plainAttrs_list PySem.F.slot_list_pop PySem.F.type_list_pop mt_popAt (pe_dget (hu_of hr) (pv 0) pe_str (fun _ _ => rfl)) (pa_cons pe_int pa_nil)) (pe_callK K G_law_mixed (hr.mono (by omega)) (by rfl) (pa_cons (pv 0) pa_nil))) rfl)) pss_nil)
    (pss_cons (ps_set (i := 2) sc_law_take.nd rfl (Or.inl rfl) (pe_op op_modN (pe_callTy call_int1 (by rfl) T.b_int (by decide +kernel) (pa_cons (pe_dget (hu_of hr) (pv 0) pe_str (fun _ _ => rfl)) pa_nil)) (pv 1)))
    (pss_cons (ps_dput (hu_of hr) (pv 0) pe_str (pe_op op_fdivN (pe_dget (hu_of hr) (pv 0) pe_str (fun _ _ => rfl)) (pv 1)) rfl)
    (pss_one (ps_ret (pv 2)))))), ?_⟩)
  · obtain ⟨e, M, n, rfl, _⟩ := h
    rfl
  · obtain ⟨e, M, n, rfl, hD, hM, hn, hn2, q⟩ := h
    obtain ⟨⟨r, t, ws, k1, k2, k3, k4, k5⟩, ⟨cs, k6⟩, k7⟩ := id hD
    refine ⟨fun σ' H' => σ' = [some (.ref e.d), some (natV n), none] ∧ DrAt H' e (M + 1) ∧ DKeep e H H', ?_, ?_⟩
    · refine ⟨_, rfl, _, _, rfl, dget_of (k := .inr "rest") k1 (dr_rest ..), rfl, _, rfl, ?_⟩
      refine ite2 (fun _ => ?_) (fun _ => ⟨rfl, hD.mono (by omega), .refl⟩)
      refine ⟨_, rfl, _, _, rfl, dget_of (k := .inr "wide") k1 (dr_wide ..), szl, fun l nl => ?_⟩
      have s1 := same_new (o := .lst []) nl
      have hD1 := hD.same s1
      have K1 : DKeep e H (upd H l (.lst [])) := .of s1
      have w1 := s1 _ _ k2
      have d1 := s1 _ _ k1
      have c1 := s1 _ _ k6
      refine rd_ne0 (f := V.int) (fun i => .int i) (l := ws) w1 upd_same (fun i _ => .int _) (fun i _ => flat_int _) ⟨_, rfl, ?_⟩
      generalize upd H l (.lst []) = H1 at hD1 K1 w1 d1 c1
      cases ws with
      | nil =>
        refine ite2 (fun z => absurd z (by simp)) (fun _ => ?_)
        refine ⟨_, rfl, e, M, rfl, hD1, hM, fun H2 z hD2 K2 => ?_⟩
        obtain ⟨⟨r2, t2, ws2, j1, j2, j3, j4, j5⟩, ⟨cs2, j6⟩, j7⟩ := id hD2
        refine ⟨_, rfl, e.d, _, rfl, DPut.k (k := .inr "rest") j1 (by show 4 < sizeLine; decide), ?_⟩
        rw [drput_rest]
        obtain ⟨D3, K3⟩ := hD2.put (T' := M + 1) (r := z) (t := t2) j3 j4
        exact ⟨rfl, D3, (K1.trans K2).trans K3⟩
      | cons v vs =>
        refine ite2 (fun _ => ?_) (fun z => absurd rfl z)
        refine ⟨_, rfl, _, _, rfl, dget_of (k := .inr "wide") d1 (dr_wide ..), tyL2 w1, ?_⟩
        refine ⟨e.w, _, 0, 0, _, rfl, rfl, w1, by decide, by decide, by unfold seqIndex?; simp, rfl, ?_⟩
        have n1 : e.w ≠ e.d := ne_of k2 k1 (fun z => nomatch z)
        have n2 : e.c ≠ e.d := ne_of k6 k1 (fun z => nomatch z)
        refine ⟨_, rfl, e.d, _, rfl, DPut.k (k := .inr "rest") (by rw [upd_ne (fun z => n1 z.symm)]; exact d1) (by show 4 < sizeLine; decide), ?_⟩
        rw [drput_rest]
        refine ⟨rfl, ⟨⟨v, t, vs, upd_same, by rw [upd_ne n1, upd_same]; rfl, k3, by omega, by simp at k5; omega⟩, ⟨cs, by rw [upd_ne n2, upd_ne (fun z => k7 z.symm)]; exact c1⟩, k7⟩, fun b o h1 h2 h3 => ?_⟩
        rw [upd_ne h1, upd_ne h2]
        exact K1 b o h1 h2 h3
    · rintro σ' H1 ⟨rfl, hD1, K1⟩
      obtain ⟨⟨r1, t1, ws1, j1, j2, j3, j4, j5⟩, ⟨cs1, j6⟩, j7⟩ := id hD1
      refine ⟨_, rfl, _, _, rfl, dget_of (k := .inr "rest") j1 (dr_rest ..), .inl ⟨_, rfl, ?_⟩⟩
      refine ⟨_, rfl, _, _, rfl, rfl, by omega, ?_⟩
      refine ⟨_, rfl, _, _, rfl, dget_of (k := .inr "rest") j1 (dr_rest ..), _, rfl, _, _, rfl, rfl, ⟨by omega, by omega⟩, ?_⟩
      refine ⟨_, rfl, e.d, _, rfl, DPut.k (k := .inr "rest") j1 (by show 4 < sizeLine; decide), ?_⟩
      rw [drput_rest]
      obtain ⟨D3, K3⟩ := hD1.put (T' := M + 1) (r := r1.fdiv n) (t := t1) j3 j4
      obtain ⟨z1, z2⟩ := fmod_bd (a := r1) (b := (n : Int)) (by omega)
      have z3 : V.int (r1.fmod n) = natV (r1.fmod n).toNat := by
        show V.int (r1.fmod n) = V.int (((r1.fmod n).toNat : Nat) : Int)
        congr 1
        omega
      refine ⟨_, rfl, ?_⟩
      have z4 := q _ (r1.fmod n).toNat (by omega) D3 (K1.trans K3)
      rw [← z3] at z4
      exact z4
def spPick : Sp := fun vs H Q _ => ∃ (e : Dr) (T : Nat) (a : Addr) (xs : List V), vs = [.ref e.d, .ref a] ∧ DrAt H e T ∧ T ≤ 1000000 ∧ H a = some (.lst xs) ∧ a ≠ e.w ∧ 0 < xs.length ∧ xs.length < 1000 ∧ ∀ H' v, v ∈ xs → DrAt H' e (T + 1) → DKeep e H H' → Q v H'
theorem ok_pick (T : Txt K mg) : OKF P w K mg base 3 "_law_pick" P_law_pick spPick := by
  have G_law_take := ok_take (P := P) (w := w) (base := base) T
  refine okf T.f_law_pick sc_law_pick (fun _ _ _ _ _ _ us hl => match us, hl with | [_, _], _ => rfl) (fun vs H Q E h => ?_) (fun cdv A outer s H vs Q E hr h => ⟨_, (pss_one (ps_ret (pe_ix (ixL K) (pv 1) (pe_callK K G_law_take (hr.mono (by omega)) (by rfl) (pa_cons (pv 0) (pa_cons (pe_callB (lenS K) (by rfl) T.b_len (by decide +kernel) (pa_cons (pv 1) pa_nil)) pa_nil))) (fun _ _ => rfl)))), ?_⟩)
  · obtain ⟨e, M, a, xs, rfl, _⟩ := h
    rfl
  · obtain ⟨e, M, a, xs, rfl, hD, hM, ha, hw, hx, hx2, q⟩ := h
    refine ⟨_, rfl, _, rfl, _, rfl, _, _, rfl, .inl (SqL.of ha), e, M, xs.length, rfl, hD, hM, hx, hx2, fun H1 k hk hD1 K1 => ?_⟩
    obtain ⟨⟨r, t, ws, k1, _⟩, _⟩ := hD
    have ha1 := K1 a _ (ne_of ha k1 (fun z => nomatch z)) hw ha
    refine ⟨a, xs, (k : Int), _, rfl, rfl, SqL.of ha1, atI_nat (List.getElem?_eq_getElem hk), ?_⟩
    exact q H1 _ (List.getElem_mem hk) hD1 K1
end
end HL

set_option Elab.async false
set_option linter.all false
set_option maxRecDepth 100000
set_option maxHeartbeats 4000000
/-! L3: shuffled, drawn_fields, book, begun -/
namespace HL
open PySem PySem.Spec PyProof.Rows L2
section
variable {P : Program} {w : World} {K : PySem.W.Frag} {mg : Str → Option Value} {base : Heap}
theorem rd_ne0s {K : PySem.W.Frag} {H : Hp} {Q : VK} {a b : Addr} {l : List Str} (ha : H a = some (.lst (l.map V.str))) (hb : H b = some (.lst [])) (hs : ∀ x ∈ l, PyData.strOk x = true) (q : Q (.bl (!l.isEmpty)) H) : rNeD K (.ref a) (.ref b) H Q :=
  rd_ne0 (f := V.str) (fun x => .str x) (l := l) ha hb (fun x _ => .str x) (fun x hx => flat_str (hs x hx)) q
theorem seq_nat {k n : Nat} (h : k < n) : seqIndex? (k : Int) n = some k := by
  have h2 : (k : Int) < (n : Int) := by omega
  have h3 : ¬ ((k : Int) < 0) := by omega
  have h4 : (0 : Int) ≤ (k : Int) := by omega
  unfold seqIndex?
  simp only [if_neg h3, decide_eq_true h4, decide_eq_true h2, Bool.and_self, if_true, Int.toNat_natCast]
theorem erase_map {α β : Type} (f : α → β) : ∀ (l : List α) (k : Nat), (l.map f).eraseIdx k = (l.eraseIdx k).map f
  | [], k => by cases k <;> rfl
  | x :: l, 0 => rfl
  | x :: l, k + 1 => by
    show f x :: (l.map f).eraseIdx k = f x :: (l.eraseIdx k).map f
    rw [erase_map f l k]
def spShuf : Sp := fun vs H Q _ => ∃ (e : Dr) (T : Nat) (a : Addr) (L : List Str), vs = [.ref e.d, .ref a] ∧ DrAt H e T ∧ T + L.length ≤ 1000000 ∧ H a = some (.lst (L.map V.str)) ∧ (∀ x ∈ L, PyData.strOk x = true) ∧ L.length < 1000 ∧
  ∀ (H' : Hp) (p : Addr) (M : List Str), H p = none → H' p = some (.lst (M.map V.str)) → M.length = L.length → (∀ x ∈ M, x ∈ L) → DrAt H' e (T + L.length) → DKeep e H H' → Q (.ref p) H'
theorem ok_shuffled (T : Txt K mg) : OKF P w K mg base 3 "_law_shuffled" P_law_shuffled spShuf := by
  have G_law_take := ok_take (P := P) (w := w) (base := base) T
  refine okf T.f_law_shuffled sc_law_shuffled (fun _ _ _ _ _ _ us hl => match us, hl with | [_, _], _ => rfl) (fun vs H Q E h => ?_) (fun cdv A outer s H vs Q E hr h => ⟨_, (pss_cons (ps_par (i := 2) (j := 3) (by rfl) sc_law_shuffled.nd rfl rfl (by decide) rfl rfl (pa_cons (pe_callTy (lstO K) (by rfl) T.b_list (by decide +kernel) (pa_cons (pv 1) pa_nil)) (pa_cons (pe_lst pa_nil) pa_nil)) (by rfl))
    (pss_cons (ps_while PassesOwn.never (pt_cmpR (neD K hr.units) (pv 2) (pe_lst pa_nil) (nomark _)) (pss_one (ps_expr (pe_bm PySem.F.plainAttrs_list PySem.F.slot_list_append PySem.F.type_list_append mt_append (pv 3) (pa_cons (pe_bm PySem.F.plainAttrs_list PySem.F.slot_list_pop PySem.F.type_list_pop mt_popAt (pv 2) (pa_cons (pe_callK K G_law_take (hr.mono (by omega)) (by rfl) (pa_cons (pv 0) (pa_cons (pe_callB (lenS K) (by rfl) T.b_len (by decide +kernel) (pa_cons (pv 2) pa_nil)) pa_nil))) pa_nil)) pa_nil)))))
    (pss_one (ps_ret (pv 3))))), ?_⟩)
  · obtain ⟨e, M, a, L, rfl, _⟩ := h
    rfl
  · obtain ⟨e, M, a, L, rfl, hD, hM, ha, hs, hl, q⟩ := h
    refine ⟨_, rfl, a, _, rfl, .inl (SqL.of ha), fun l nl => ?_⟩
    refine ⟨szl, fun f nf => ⟨_, _, rfl, ?_⟩⟩
    have nfl : f ≠ l := fun z => by rw [z, upd_same] at nf; cases nf
    have nfH : H f = none := by
      rw [upd_ne nfl] at nf
      exact nf
    have s1 := same_new (o := .lst (L.map V.str)) nl
    have s2 := same_new (o := .lst []) nf
    obtain ⟨l1, l2, l3⟩ := hD.nd3 nl
    obtain ⟨f1, f2, f3⟩ := hD.nd3 nfH
    refine ⟨fun m σ H' => ∃ A B : List Str, σ = [some (.ref e.d), some (.ref a), some (.ref l), some (.ref f)] ∧ H' l = some (.lst (A.map V.str)) ∧ H' f = some (.lst (B.map V.str)) ∧ m = A.length ∧ A.length + B.length = L.length ∧ (∀ x ∈ A, x ∈ L) ∧ (∀ x ∈ B, x ∈ L) ∧ DrAt H' e (M + B.length) ∧ DKeep e H H',
      ⟨_, L, [], rfl, s2 _ _ upd_same, upd_same, rfl, rfl, fun _ z => z, (fun _ z => nomatch z), (hD.same s1).same s2, .of (s1.trans s2)⟩, ?_⟩
    rintro m σ H' ⟨A, B, rfl, g1, g2, rfl, g3, g4, g5, g6, g7⟩
    have sz := sizeLine_eq
    refine ⟨_, rfl, szl, fun p np => ?_⟩
    have s3 := same_new (o := .lst []) np
    have h1 := s3 _ _ g1
    have h2 := s3 _ _ g2
    have hD1 := g6.same s3
    have K1 : DKeep e H (upd H' p (.lst [])) := g7.trans (.of s3)
    refine rd_ne0s h1 upd_same (fun x hx => hs x (g4 x hx)) ⟨_, rfl, ?_⟩
    generalize upd H' p (.lst []) = H1 at h1 h2 hD1 K1
    refine ite2 (fun c => ?_) (fun c => ?_)
    · have hA : 0 < A.length := by
        cases A with
        | nil => exact absurd c (by simp)
        | cons _ _ => simp
      refine ⟨_, fun _ _ z => z, ?_⟩
      refine ⟨_, rfl, tyL2 h2, _, rfl, tyL2 h1, _, rfl, _, rfl, _, _, rfl, .inl (SqL.of h1), e, M + B.length, A.length, by rw [List.length_map]; rfl, hD1, by omega, hA, by omega, fun H2 k hk hD2 K2 => ?_⟩
      have j1 := K2 _ _ l1 l2 h1
      have j2 := K2 _ _ f1 f2 h2
      have hy : (A.map V.str)[k]? = some (.str A[k]) := by rw [List.getElem?_map, List.getElem?_eq_getElem hk]; rfl
      refine ⟨l, _, (k : Int), k, _, rfl, rfl, j1, by omega, by omega, seq_nat (by rw [List.length_map]; exact hk), hy, ?_⟩
      refine ⟨f, _, _, rfl, rfl, by rw [upd_ne nfl]; exact j2, by rw [List.length_map]; omega, (A.eraseIdx k).length, by rw [List.length_eraseIdx_of_lt hk]; omega, A.eraseIdx k, B ++ [A[k]], rfl, ?_, ?_, rfl, ?_, ?_, ?_, ?_, ?_⟩
      · rw [upd_ne (fun z => nfl z.symm), upd_same]
        rw [erase_map]
      · rw [upd_same, List.map_append]
        rfl
      · rw [List.length_eraseIdx_of_lt hk, List.length_append]
        simp
        omega
      · exact fun x hx => g4 x (List.mem_of_mem_eraseIdx hx)
      · intro x hx
        rcases List.mem_append.mp hx with z | z
        · exact g5 x z
        · rw [List.mem_singleton] at z
          rw [z]
          exact g4 _ (List.getElem_mem hk)
      · have z := (hD2.priv (o := .lst ((A.map V.str).eraseIdx k)) l1 l2 l3).priv (o := .lst (B.map V.str ++ [.str A[k]])) f1 f2 f3
        rw [List.length_append]
        exact z
      · exact ((K1.trans K2).priv nl).priv nfH
    · have hA : A = [] := by
        cases A with
        | nil => rfl
        | cons _ _ => exact absurd rfl c
      subst hA
      have hB : B.length = L.length := by simpa using g3
      exact ⟨_, rfl, q H1 f B nfH h2 hB g5 (by rw [← hB]; exact hD1) K1⟩
theorem rdPick {σ : L2.St} {H : Hp} {Q : VK} {e : Dr} {M : Nat} {t : TA} (xs : List V) (h0 : σ[0]? = some (some (.ref e.d))) (ht : ∀ R : List V → Hp → Prop, R xs H → t σ H R) (hD : DrAt H e M) (hM : M ≤ 1000000) (h1 : 0 < xs.length) (h2 : xs.length < 1000)
    (q : ∀ H' v, v ∈ xs → DrAt H' e (M + 1) → DKeep e H H' → Q v H') : tCall spPick [] E0 (tCons (tVar 0) (tCons (tLst t) tNil)) σ H Q := by
  refine ⟨_, h0, ht _ ⟨by have := sizeLine_eq; omega, fun l nl => ?_⟩⟩
  have s1 := same_new (o := .lst xs) nl
  exact ⟨e, M, l, xs, rfl, hD.same s1, hM, upd_same, (hD.nd3 nl).2.1, h1, h2, fun H' v hv hD' K => q H' v hv hD' (DKeep.trans (.of s1) K)⟩
def fl6 (h a l n k : Str) (b : Addr) : List (Key × V) := [(.inr "held", .str h), (.inr "each", .str a), (.inr "lifted", .str l), (.inr "ends", .str n), (.inr "works", .str k), (.inr "bars", .ref b)]
def spFields : Sp := fun vs H Q _ => ∃ (e : Dr) (T : Nat), vs = [.ref e.d] ∧ DrAt H e T ∧ T + 10 ≤ 1000000 ∧
  ∀ (H' : Hp) (fl ba : Addr) (h a l n k : Str), H fl = none → H ba = none → H' fl = some (.dK (fl6 h a l n k ba)) → H' ba = some (.lst []) → (h = "home" ∨ h = "now") → (a = "now" ∨ a = "program") → (l = "nothing" ∨ l = "kept") → (n = "holder" ∨ n = "never" ∨ n = "scope") → (k = "own" ∨ k = "same" ∨ k = "wait") →
    DrAt H' e (T + 5) → DKeep e H H' → Q (.ref fl) H'
theorem ok_fields (T : Txt K mg) : OKF P w K mg base 4 "_law_drawn_fields" P_law_drawn_fields spFields := by
  have G_law_pick := ok_pick (P := P) (w := w) (base := base) T
  refine okf T.f_law_drawn_fields sc_law_drawn_fields (fun _ _ _ _ _ _ us hl => match us, hl with | [_], _ => rfl) (fun vs H Q E h => ?_) (fun cdv A outer s H vs Q E hr h => ⟨_, (pss_cons (ps_set (i := 1) sc_law_drawn_fields.nd rfl (Or.inl rfl) (pe_disp (pps_cons pe_str (pe_callK K G_law_pick (hr.mono (by omega)) (by rfl) (pa_cons (pv 0) (pa_cons (pe_lst (pa_cons pe_str (pa_cons pe_str (pa_cons pe_str pa_nil)))) pa_nil))) (pps_cons pe_str (pe_callK K G_law_pick (hr.mono (by omega)) (by rfl) (pa_cons (pv 0) (pa_cons (pe_lst (pa_cons pe_str (pa_cons pe_str (pa_cons pe_str pa_nil)))) pa_nil))) pps_nil)) (by rfl) (by rfl) (fun z => by cases z) (by decide)))
    (pss_cons (ps_dput (hu_of hr) (pv 1) pe_str (pe_callK K G_law_pick (hr.mono (by omega)) (by rfl) (pa_cons (pv 0) (pa_cons (pe_lst (pa_cons pe_str (pa_cons pe_str pa_nil))) pa_nil))) rfl)
    (pss_cons (ps_dput (hu_of hr) (pv 1) pe_str (pe_callK K G_law_pick (hr.mono (by omega)) (by rfl) (pa_cons (pv 0) (pa_cons (pe_lst (pa_cons pe_str (pa_cons pe_str (pa_cons pe_str (pa_cons pe_str pa_nil))))) pa_nil))) rfl)
    (pss_cons (ps_dput (hu_of hr) (pv 1) pe_str (pe_callK K G_law_pick (hr.mono (by omega)) (by rfl) (pa_cons (pv 0) (pa_cons (pe_lst (pa_cons pe_str (pa_cons pe_str (pa_cons pe_str pa_nil)))) pa_nil))) rfl)
    (pss_cons (ps_dput (hu_of hr) (pv 1) pe_str (pe_lst pa_nil) rfl)
    (pss_one (ps_ret (pv 1)))))))), ?_⟩)
  · obtain ⟨e, M, rfl, _⟩ := h
    rfl
  · obtain ⟨e, M, rfl, hD, hM, q⟩ := h
    intro p np
    obtain ⟨p1, p2, p3⟩ := hD.nd3 np
    have s1 := same_new (o := .dK []) np
    have hD1 := hD.same s1
    have K1 : DKeep e H (upd H p (.dK [])) := .of s1
    have g1 : (upd H p (.dK [])) p = some (.dK []) := upd_same
    generalize upd H p (.dK []) = H1 at hD1 K1 g1
    refine rdPick [.str "home", .str "now", .str "now"] rfl (fun R z => z) hD1 (by omega) (by simp) (by simp) fun H2 v hv hD2 K2 => ?_
    obtain ⟨h, rfl, hh⟩ : ∃ h : Str, v = .str h ∧ (h = "home" ∨ h = "now") := by
      simp only [List.mem_cons, List.not_mem_nil, or_false] at hv
      rcases hv with rfl | rfl | rfl
      · exact ⟨_, rfl, .inl rfl⟩
      · exact ⟨_, rfl, .inr rfl⟩
      · exact ⟨_, rfl, .inr rfl⟩
    have g2 := K2 _ _ p1 p2 g1
    refine rdPick [.str "now", .str "now", .str "program"] rfl (fun R z => z) hD2 (by omega) (by simp) (by simp) fun H3 v hv hD3 K3 => ?_
    obtain ⟨a, rfl, ha⟩ : ∃ h : Str, v = .str h ∧ (h = "now" ∨ h = "program") := by
      simp only [List.mem_cons, List.not_mem_nil, or_false] at hv
      rcases hv with rfl | rfl | rfl
      · exact ⟨_, rfl, .inl rfl⟩
      · exact ⟨_, rfl, .inl rfl⟩
      · exact ⟨_, rfl, .inr rfl⟩
    have g3 := K3 _ _ p1 p2 g2
    have K13 := (K1.trans K2).trans K3
    refine ⟨g3, [(.inr "held", .str h), (.inr "each", .str a)], rfl, by show 2 ≤ 15; omega, ?_⟩
    rw [show mergeK [] [((.inr "held" : Key), V.str h), (.inr "each", .str a)] = [(.inr "held", .str h), (.inr "each", .str a)] by kernel_rfl]
    have hD4 := hD3.priv (o := .dK [(.inr "held", .str h), (.inr "each", .str a)]) p1 p2 p3
    have K4 := K13.priv (o := .dK [(.inr "held", .str h), (.inr "each", .str a)]) np
    have g4 : (upd H3 p (.dK [(.inr "held", .str h), (.inr "each", .str a)])) p = some (.dK [(.inr "held", .str h), (.inr "each", .str a)]) := upd_same
    generalize upd H3 p (.dK [(.inr "held", .str h), (.inr "each", .str a)]) = H4 at hD4 K4 g4
    refine rdPick [.str "nothing", .str "kept"] rfl (fun R z => z) hD4 (by omega) (by simp) (by simp) fun H5 v hv hD5 K5 => ?_
    obtain ⟨l, rfl, hl⟩ : ∃ h : Str, v = .str h ∧ (h = "nothing" ∨ h = "kept") := by
      simp only [List.mem_cons, List.not_mem_nil, or_false] at hv
      rcases hv with rfl | rfl
      · exact ⟨_, rfl, .inl rfl⟩
      · exact ⟨_, rfl, .inr rfl⟩
    have g5 := K5 _ _ p1 p2 g4
    refine ⟨_, rfl, p, _, rfl, DPut.k (k := .inr "lifted") g5 (by show 2 < sizeLine; decide), ?_⟩
    rw [show putK [((.inr "held" : Key), V.str h), (.inr "each", .str a)] (.inr "lifted") (.str l) = [(.inr "held", .str h), (.inr "each", .str a), (.inr "lifted", .str l)] by kernel_rfl]
    have hD6 := hD5.priv (o := .dK [(.inr "held", .str h), (.inr "each", .str a), (.inr "lifted", .str l)]) p1 p2 p3
    have K6 := (K4.trans K5).priv (o := .dK [(.inr "held", .str h), (.inr "each", .str a), (.inr "lifted", .str l)]) np
    have g6 : (upd H5 p (.dK [(.inr "held", .str h), (.inr "each", .str a), (.inr "lifted", .str l)])) p = some (.dK [(.inr "held", .str h), (.inr "each", .str a), (.inr "lifted", .str l)]) := upd_same
    generalize upd H5 p (.dK [(.inr "held", .str h), (.inr "each", .str a), (.inr "lifted", .str l)]) = H6 at hD6 K6 g6
    refine rdPick [.str "holder", .str "never", .str "scope", .str "scope"] rfl (fun R z => z) hD6 (by omega) (by simp) (by simp) fun H7 v hv hD7 K7 => ?_
    obtain ⟨n, rfl, hn⟩ : ∃ h : Str, v = .str h ∧ (h = "holder" ∨ h = "never" ∨ h = "scope") := by
      simp only [List.mem_cons, List.not_mem_nil, or_false] at hv
      rcases hv with rfl | rfl | rfl | rfl
      · exact ⟨_, rfl, .inl rfl⟩
      · exact ⟨_, rfl, .inr (.inl rfl)⟩
      · exact ⟨_, rfl, .inr (.inr rfl)⟩
      · exact ⟨_, rfl, .inr (.inr rfl)⟩
    have g7 := K7 _ _ p1 p2 g6
    refine ⟨_, rfl, p, _, rfl, DPut.k (k := .inr "ends") g7 (by show 3 < sizeLine; decide), ?_⟩
    rw [show putK [((.inr "held" : Key), V.str h), (.inr "each", .str a), (.inr "lifted", .str l)] (.inr "ends") (.str n) = [(.inr "held", .str h), (.inr "each", .str a), (.inr "lifted", .str l), (.inr "ends", .str n)] by kernel_rfl]
    have hD8 := hD7.priv (o := .dK [(.inr "held", .str h), (.inr "each", .str a), (.inr "lifted", .str l), (.inr "ends", .str n)]) p1 p2 p3
    have K8 := (K6.trans K7).priv (o := .dK [(.inr "held", .str h), (.inr "each", .str a), (.inr "lifted", .str l), (.inr "ends", .str n)]) np
    have g8 : (upd H7 p (.dK [(.inr "held", .str h), (.inr "each", .str a), (.inr "lifted", .str l), (.inr "ends", .str n)])) p = some (.dK [(.inr "held", .str h), (.inr "each", .str a), (.inr "lifted", .str l), (.inr "ends", .str n)]) := upd_same
    generalize upd H7 p (.dK [(.inr "held", .str h), (.inr "each", .str a), (.inr "lifted", .str l), (.inr "ends", .str n)]) = H8 at hD8 K8 g8
    refine rdPick [.str "own", .str "same", .str "wait"] rfl (fun R z => z) hD8 (by omega) (by simp) (by simp) fun H9 v hv hD9 K9 => ?_
    obtain ⟨k, rfl, hk⟩ : ∃ h : Str, v = .str h ∧ (h = "own" ∨ h = "same" ∨ h = "wait") := by
      simp only [List.mem_cons, List.not_mem_nil, or_false] at hv
      rcases hv with rfl | rfl | rfl
      · exact ⟨_, rfl, .inl rfl⟩
      · exact ⟨_, rfl, .inr (.inl rfl)⟩
      · exact ⟨_, rfl, .inr (.inr rfl)⟩
    have g9 := K9 _ _ p1 p2 g8
    refine ⟨_, rfl, p, _, rfl, DPut.k (k := .inr "works") g9 (by show 4 < sizeLine; decide), ?_⟩
    rw [show putK [((.inr "held" : Key), V.str h), (.inr "each", .str a), (.inr "lifted", .str l), (.inr "ends", .str n)] (.inr "works") (.str k) = [(.inr "held", .str h), (.inr "each", .str a), (.inr "lifted", .str l), (.inr "ends", .str n), (.inr "works", .str k)] by kernel_rfl]
    have hDa := hD9.priv (o := .dK [(.inr "held", .str h), (.inr "each", .str a), (.inr "lifted", .str l), (.inr "ends", .str n), (.inr "works", .str k)]) p1 p2 p3
    have Ka := (K8.trans K9).priv (o := .dK [(.inr "held", .str h), (.inr "each", .str a), (.inr "lifted", .str l), (.inr "ends", .str n), (.inr "works", .str k)]) np
    have ga : (upd H9 p (.dK [(.inr "held", .str h), (.inr "each", .str a), (.inr "lifted", .str l), (.inr "ends", .str n), (.inr "works", .str k)])) p = some (.dK [(.inr "held", .str h), (.inr "each", .str a), (.inr "lifted", .str l), (.inr "ends", .str n), (.inr "works", .str k)]) := upd_same
    generalize upd H9 p (.dK [(.inr "held", .str h), (.inr "each", .str a), (.inr "lifted", .str l), (.inr "ends", .str n), (.inr "works", .str k)]) = Ha at hDa Ka ga
    refine ⟨szl, fun b nb => ?_⟩
    have npb : p ≠ b := ne_of_none ga nb
    have sb := same_new (o := .lst []) nb
    refine ⟨_, rfl, p, _, rfl, DPut.k (k := .inr "bars") (sb _ _ ga) (by show 5 < sizeLine; decide), ?_⟩
    rw [show putK [((.inr "held" : Key), V.str h), (.inr "each", .str a), (.inr "lifted", .str l), (.inr "ends", .str n), (.inr "works", .str k)] (.inr "bars") (.ref b) = fl6 h a l n k b by kernel_rfl]
    have nbH : H b = none := by
      cases z : H b with
      | none => rfl
      | some o =>
        by_cases zb : b = e.d ∨ b = e.w
        · obtain ⟨y1, y2⟩ := hDa.nd nb
          rcases zb with zb | zb
          · exact absurd zb y1
          · exact absurd zb y2
        · have := Ka b o (fun y => zb (.inl y)) (fun y => zb (.inr y)) z
          rw [nb] at this
          cases this
    refine ⟨_, rfl, q _ p b h a l n k np nbH upd_same (by rw [upd_ne (fun z => npb z.symm)]; exact upd_same) hh ha hl hn hk (((hDa.same sb).priv p1 p2 p3).mono (by omega)) ((Ka.trans (.of sb)).priv np)⟩
end
end HL

set_option Elab.async false
set_option linter.all false
set_option maxRecDepth 100000
set_option maxHeartbeats 4000000
/-! L4: the book, the world's dict, the script's draws -/
namespace HL
open PySem PySem.Spec PyProof.Rows L2
section
variable {P : Program} {w : World} {K : PySem.W.Frag} {mg : Str → Option Value} {base : Heap}
def spBook (K : PySem.W.Frag) : Sp := fun vs H Q _ => ∃ (fl ba : Addr) (h a l n k : Str), vs = [.ref fl] ∧ H fl = some (.dK (fl6 h a l n k ba)) ∧ H ba = some (.lst []) ∧ (h = "home" ∨ h = "now") ∧ (a = "now" ∨ a = "program") ∧ (l = "nothing" ∨ l = "kept") ∧ (n = "holder" ∨ n = "never" ∨ n = "scope") ∧ (k = "own" ∨ k = "same" ∨ k = "wait") ∧
  ∀ H' x dx t, Same H H' → H x = none → H' x = some (.ins (He.ga K "Book") dx (bf6 h a l n k t)) → H' t = some (.tup []) → Q (.ref x) H'
theorem ok_book (T : Txt K mg) : OKF P w K mg base 6 "_law_book" P_law_book (spBook K) := by
  obtain ⟨fd, FF, mv, KB⟩ := book_binds T
  have FB := ok_Book_init (P := P) (w := w) (base := base) T FF
  refine okf T.f_law_book sc_law_book (fun _ _ _ _ _ _ us hl => match us, hl with | [_], _ => rfl) (fun vs H Q E h => ?_) (fun cdv A outer s H vs Q E hr h => ⟨_, (pss_cons (ps_set (i := 1) sc_law_book.nd rfl (Or.inl rfl) (pe_lst (pa_cons (pe_dget (hu_of hr) (pv 0) pe_str (fun _ _ => rfl)) pa_nil)))
    (pss_one (ps_ret (pe_makeK0 T.mkB FB (hr.mono (by omega)) (by rfl) T.cBook KB pass0 (pk_cons (pe_dget (hu_of hr) (pv 0) pe_str (fun _ _ => rfl)) (pk_cons (pe_dget (hu_of hr) (pv 0) pe_str (fun _ _ => rfl)) (pk_cons (pe_dget (hu_of hr) (pv 0) pe_str (fun _ _ => rfl)) (pk_cons (pe_dget (hu_of hr) (pv 0) pe_str (fun _ _ => rfl)) (pk_cons (pe_dget (hu_of hr) (pv 0) pe_str (fun _ _ => rfl)) (pk_cons (pe_ix (ixL K) (pv 1) pe_int (fun _ _ => rfl)) pk_nil)))))))))), ?_⟩)
  · obtain ⟨fl, ba, h, a, l, n, k, rfl, _⟩ := h
    rfl
  · obtain ⟨fl, ba, h, a, l, n, k, rfl, hf, hb, h1, h2, h3, h4, h5, q⟩ := h
    have v1 : valV (fl6 h a l n k ba) (.inr "held") = some (.str h) := by kernel_rfl
    have v2 : valV (fl6 h a l n k ba) (.inr "each") = some (.str a) := by kernel_rfl
    have v3 : valV (fl6 h a l n k ba) (.inr "lifted") = some (.str l) := by kernel_rfl
    have v4 : valV (fl6 h a l n k ba) (.inr "ends") = some (.str n) := by kernel_rfl
    have v5 : valV (fl6 h a l n k ba) (.inr "works") = some (.str k) := by kernel_rfl
    have v6 : valV (fl6 h a l n k ba) (.inr "bars") = some (.ref ba) := by kernel_rfl
    refine ⟨_, rfl, _, _, rfl, dget_of (k := .inr "bars") hf v6, szl, fun s ns => ?_⟩
    have s1 := same_new (o := .lst [.ref ba]) ns
    have hf1 := s1 _ _ hf
    have hb1 := s1 _ _ hb
    have hs1 : (upd H s (.lst [.ref ba])) s = some (.lst [.ref ba]) := upd_same
    generalize upd H s (.lst [.ref ba]) = H1 at s1 hf1 hb1 hs1
    refine ⟨_, rfl, _, _, rfl, dget_of (k := .inr "held") hf1 v1, _, rfl, _, _, rfl, dget_of (k := .inr "each") hf1 v2, _, rfl, _, _, rfl, dget_of (k := .inr "lifted") hf1 v3, _, rfl, _, _, rfl, dget_of (k := .inr "ends") hf1 v4, _, rfl, _, _, rfl, dget_of (k := .inr "works") hf1 v5,
      _, rfl, s, _, 0, _, rfl, rfl, SqL.of hs1, atI_nat (j := 0) rfl, rfl, rfl, fun x dx nx ndx ne => ?_⟩
    have s2 : Same H1 (upd (upd H1 dx (.own x)) x (.ins (He.ga K "Book") dx [])) := fun b o z => by
      rw [upd_ne (ne_of_none z nx), upd_ne (ne_of_none z ndx)]
      exact z
    have nxH : H x = none := by
      cases z : H x with
      | none => rfl
      | some o => rw [s1 _ _ z] at nx; cases nx
    refine ⟨x, dx, ba, h, a, l, n, k, rfl, upd_same, s2 _ _ hb1, ?_, ?_, ?_, ?_, ?_, fun H3 t k1 k2 k3 => ⟨rfl, ?_⟩⟩
    · rcases h1 with rfl | rfl <;> simp
    · rcases h2 with rfl | rfl <;> simp
    · rcases h3 with rfl | rfl <;> simp
    · rcases h4 with rfl | rfl | rfl <;> simp
    · rcases h5 with rfl | rfl | rfl <;> simp
    · exact q H3 x dx t (fun b o z => k1 b o (ne_of_none z nxH) (s2 _ _ (s1 _ _ z))) nxH k2 k3
theorem fresh_of {H H' : Hp} (s : Same H H') {a : Addr} (h : H' a = none) : H a = none := by
  cases z : H a with
  | none => rfl
  | some o => rw [s _ _ z] at h; cases h
def wk12 (fl mo sc sh th wk lo to fa : Addr) (D : Nat) : List (Key × V) := [(.inr "fields", .ref fl), (.inr "depth", natV D), (.inr "model", .ref mo), (.inr "scopes", .ref sc), (.inr "shut", .ref sh), (.inr "things", .ref th),
  (.inr "works", .ref wk), (.inr "put", natV 0), (.inr "loose", .ref lo), (.inr "told", .ref to), (.inr "faults", .ref fa), (.inr "deeds", natV 0)]
def spWorld : Sp := fun vs H Q _ => ∃ (fl mo : Addr) (D : Nat), vs = [.ref fl, natV D, .ref mo] ∧
  ∀ (H' : Hp) (p sc s0 sh th wk lo to fa : Addr), Same H H' → (∀ a, a ∈ [p, sc, sh, th, wk, lo, to, fa] → H a = none) → [p, sc, sh, th, wk, lo, to, fa].Nodup → H' p = some (.dK (wk12 fl mo sc sh th wk lo to fa D)) → H' sc = some (.dK [(.inl 0, .ref s0)]) → H' s0 = some (.tup [.int 0, .non]) →
    H' sh = some (.lst []) → H' th = some (.lst []) → H' wk = some (.dK []) → H' lo = some (.lst []) → H' to = some (.lst []) → H' fa = some (.lst []) → Q (.ref p) H'
theorem ok_world (T : Txt K mg) : OKF P w K mg base 1 "_law_world" P_law_world spWorld := by
  refine okf T.f_law_world sc_law_world (fun _ _ _ _ _ _ us hl => match us, hl with | [_, _, _], _ => rfl) (fun vs H Q E h => ?_) (fun cdv A outer s H vs Q E hr h => ⟨_, (pss_one (ps_ret (pe_disp (pps_cons pe_str (pv 0) (pps_cons pe_str (pv 1) (pps_cons pe_str (pv 2) (pps_cons pe_str (pe_disp (pps_cons pe_int (pe_tup (pa_cons pe_int (pa_cons pe_non pa_nil))) pps_nil) (by rfl) (by rfl) (fun z => by cases z) (by decide)) (pps_cons pe_str (pe_lst pa_nil) (pps_cons pe_str (pe_lst pa_nil) (pps_cons pe_str pe_dnewK (pps_cons pe_str pe_int (pps_cons pe_str (pe_lst pa_nil) (pps_cons pe_str (pe_lst pa_nil) (pps_cons pe_str (pe_lst pa_nil) (pps_cons pe_str pe_int pps_nil)))))))))))) (by rfl) (by rfl) (fun z => by cases z) (by decide)))), ?_⟩)
  · obtain ⟨fl, mo, D, rfl, _⟩ := h
    rfl
  · obtain ⟨fl, mo, D, rfl, q⟩ := h
    intro p np
    refine ⟨_, rfl, _, rfl, _, rfl, ?_⟩
    intro sc nsc
    have a1 : (upd H p (.dK [])) p = some (.dK []) := upd_same
    have s1 : Same H (upd H p (.dK [])) := same_new np
    generalize upd H p (.dK []) = H1 at nsc a1 s1
    have n2 := fresh_of s1 nsc
    have d2 : p ≠ sc := ne_of_none a1 nsc
    have s2 : Same H (upd H1 sc (.dK [])) := s1.trans (same_new nsc)
    have a2 := same_new (o := .dK []) nsc _ _ a1
    have b2 : (upd H1 sc (.dK [])) sc = some (.dK []) := upd_same
    generalize upd H1 sc (.dK []) = H2 at s2 a2 b2
    refine ⟨szl, fun s0 ns0 => ?_⟩
    have s3 := s2.trans (same_new (o := .tup [.int 0, .non]) ns0)
    have a3 := same_new (o := .tup [.int 0, .non]) ns0 _ _ a2
    have b3 := same_new (o := .tup [.int 0, .non]) ns0 _ _ b2
    have c3 : (upd H2 s0 (.tup [.int 0, .non])) s0 = some (.tup [.int 0, .non]) := upd_same
    have d3 : s0 ≠ sc := fun z => by rw [z, b2] at ns0; cases ns0
    have d3p : s0 ≠ p := fun z => by rw [z, a2] at ns0; cases ns0
    generalize upd H2 s0 (.tup [.int 0, .non]) = H3 at s3 a3 b3 c3
    refine ⟨b3, [(.inl 0, .ref s0)], rfl, by show 1 ≤ 15; omega, ?_⟩
    rw [show mergeK [] [((.inl 0 : Key), V.ref s0)] = [(.inl 0, .ref s0)] by kernel_rfl]
    have s4 : Same H (upd H3 sc (.dK [(.inl 0, .ref s0)])) := fun b o z => by
      rw [upd_ne (ne_of_none z n2)]
      exact s3 _ _ z
    have a4 : (upd H3 sc (.dK [(.inl 0, .ref s0)])) p = some (.dK []) := by rw [upd_ne d2]; exact a3
    have b4 : (upd H3 sc (.dK [(.inl 0, .ref s0)])) sc = some (.dK [(.inl 0, .ref s0)]) := upd_same
    have c4 : (upd H3 sc (.dK [(.inl 0, .ref s0)])) s0 = some (.tup [.int 0, .non]) := by rw [upd_ne d3]; exact c3
    generalize upd H3 sc (.dK [(.inl 0, .ref s0)]) = H4 at s4 a4 b4 c4
    refine ⟨szl, fun sh nsh => ?_⟩
    have msh := fresh_of s4 nsh
    have s5 := s4.trans (same_new (o := .lst []) nsh)
    have dp_sh : p ≠ sh := ne_of_none a4 nsh
    have a5 := same_new (o := .lst []) nsh _ _ a4
    have dsc_sh : sc ≠ sh := ne_of_none b4 nsh
    have b5 := same_new (o := .lst []) nsh _ _ b4
    have ds0_sh : s0 ≠ sh := ne_of_none c4 nsh
    have c5 := same_new (o := .lst []) nsh _ _ c4
    have e5 : (upd H4 sh (.lst [])) sh = some (.lst []) := upd_same
    generalize upd H4 sh (.lst []) = H5 at s5 a5 b5 c5 e5
    refine ⟨szl, fun th nth => ?_⟩
    have mth := fresh_of s5 nth
    have s6 := s5.trans (same_new (o := .lst []) nth)
    have dp_th : p ≠ th := ne_of_none a5 nth
    have a6 := same_new (o := .lst []) nth _ _ a5
    have dsc_th : sc ≠ th := ne_of_none b5 nth
    have b6 := same_new (o := .lst []) nth _ _ b5
    have ds0_th : s0 ≠ th := ne_of_none c5 nth
    have c6 := same_new (o := .lst []) nth _ _ c5
    have dsh_th : sh ≠ th := ne_of_none e5 nth
    have e6 := same_new (o := .lst []) nth _ _ e5
    have f6 : (upd H5 th (.lst [])) th = some (.lst []) := upd_same
    generalize upd H5 th (.lst []) = H6 at s6 a6 b6 c6 e6 f6
    intro wk nwk
    have mwk := fresh_of s6 nwk
    have s7 := s6.trans (same_new (o := .dK []) nwk)
    have dp_wk : p ≠ wk := ne_of_none a6 nwk
    have a7 := same_new (o := .dK []) nwk _ _ a6
    have dsc_wk : sc ≠ wk := ne_of_none b6 nwk
    have b7 := same_new (o := .dK []) nwk _ _ b6
    have ds0_wk : s0 ≠ wk := ne_of_none c6 nwk
    have c7 := same_new (o := .dK []) nwk _ _ c6
    have dsh_wk : sh ≠ wk := ne_of_none e6 nwk
    have e7 := same_new (o := .dK []) nwk _ _ e6
    have dth_wk : th ≠ wk := ne_of_none f6 nwk
    have f7 := same_new (o := .dK []) nwk _ _ f6
    have g7 : (upd H6 wk (.dK [])) wk = some (.dK []) := upd_same
    generalize upd H6 wk (.dK []) = H7 at s7 a7 b7 c7 e7 f7 g7
    refine ⟨szl, fun lo nlo => ?_⟩
    have mlo := fresh_of s7 nlo
    have s8 := s7.trans (same_new (o := .lst []) nlo)
    have dp_lo : p ≠ lo := ne_of_none a7 nlo
    have a8 := same_new (o := .lst []) nlo _ _ a7
    have dsc_lo : sc ≠ lo := ne_of_none b7 nlo
    have b8 := same_new (o := .lst []) nlo _ _ b7
    have ds0_lo : s0 ≠ lo := ne_of_none c7 nlo
    have c8 := same_new (o := .lst []) nlo _ _ c7
    have dsh_lo : sh ≠ lo := ne_of_none e7 nlo
    have e8 := same_new (o := .lst []) nlo _ _ e7
    have dth_lo : th ≠ lo := ne_of_none f7 nlo
    have f8 := same_new (o := .lst []) nlo _ _ f7
    have dwk_lo : wk ≠ lo := ne_of_none g7 nlo
    have g8 := same_new (o := .lst []) nlo _ _ g7
    have h8 : (upd H7 lo (.lst [])) lo = some (.lst []) := upd_same
    generalize upd H7 lo (.lst []) = H8 at s8 a8 b8 c8 e8 f8 g8 h8
    refine ⟨szl, fun to nto => ?_⟩
    have mto := fresh_of s8 nto
    have s9 := s8.trans (same_new (o := .lst []) nto)
    have dp_to : p ≠ to := ne_of_none a8 nto
    have a9 := same_new (o := .lst []) nto _ _ a8
    have dsc_to : sc ≠ to := ne_of_none b8 nto
    have b9 := same_new (o := .lst []) nto _ _ b8
    have ds0_to : s0 ≠ to := ne_of_none c8 nto
    have c9 := same_new (o := .lst []) nto _ _ c8
    have dsh_to : sh ≠ to := ne_of_none e8 nto
    have e9 := same_new (o := .lst []) nto _ _ e8
    have dth_to : th ≠ to := ne_of_none f8 nto
    have f9 := same_new (o := .lst []) nto _ _ f8
    have dwk_to : wk ≠ to := ne_of_none g8 nto
    have g9 := same_new (o := .lst []) nto _ _ g8
    have dlo_to : lo ≠ to := ne_of_none h8 nto
    have h9 := same_new (o := .lst []) nto _ _ h8
    have i9 : (upd H8 to (.lst [])) to = some (.lst []) := upd_same
    generalize upd H8 to (.lst []) = H9 at s9 a9 b9 c9 e9 f9 g9 h9 i9
    refine ⟨szl, fun fa nfa => ?_⟩
    have mfa := fresh_of s9 nfa
    have s10 := s9.trans (same_new (o := .lst []) nfa)
    have dp_fa : p ≠ fa := ne_of_none a9 nfa
    have a10 := same_new (o := .lst []) nfa _ _ a9
    have dsc_fa : sc ≠ fa := ne_of_none b9 nfa
    have b10 := same_new (o := .lst []) nfa _ _ b9
    have ds0_fa : s0 ≠ fa := ne_of_none c9 nfa
    have c10 := same_new (o := .lst []) nfa _ _ c9
    have dsh_fa : sh ≠ fa := ne_of_none e9 nfa
    have e10 := same_new (o := .lst []) nfa _ _ e9
    have dth_fa : th ≠ fa := ne_of_none f9 nfa
    have f10 := same_new (o := .lst []) nfa _ _ f9
    have dwk_fa : wk ≠ fa := ne_of_none g9 nfa
    have g10 := same_new (o := .lst []) nfa _ _ g9
    have dlo_fa : lo ≠ fa := ne_of_none h9 nfa
    have h10 := same_new (o := .lst []) nfa _ _ h9
    have dto_fa : to ≠ fa := ne_of_none i9 nfa
    have i10 := same_new (o := .lst []) nfa _ _ i9
    have j10 : (upd H9 fa (.lst [])) fa = some (.lst []) := upd_same
    generalize upd H9 fa (.lst []) = H10 at s10 a10 b10 c10 e10 f10 g10 h10 i10 j10
    refine ⟨a10, [(.inr "fields", .ref fl), (.inr "depth", natV D), (.inr "model", .ref mo), (.inr "scopes", .ref sc), (.inr "shut", .ref sh), (.inr "things", .ref th), (.inr "works", .ref wk), (.inr "put", natV 0), (.inr "loose", .ref lo), (.inr "told", .ref to), (.inr "faults", .ref fa), (.inr "deeds", natV 0)], rfl, by show 12 ≤ 15; omega, ?_⟩
    rw [show mergeK [] [((.inr "fields" : Key), V.ref fl), (.inr "depth", natV D), (.inr "model", .ref mo), (.inr "scopes", .ref sc), (.inr "shut", .ref sh), (.inr "things", .ref th), (.inr "works", .ref wk), (.inr "put", natV 0), (.inr "loose", .ref lo), (.inr "told", .ref to), (.inr "faults", .ref fa), (.inr "deeds", natV 0)] = wk12 fl mo sc sh th wk lo to fa D by kernel_rfl]
    refine q _ p sc s0 sh th wk lo to fa (fun b o z => ?_) (fun a ha => ?_) ?_ upd_same ?_ ?_ ?_ ?_ ?_ ?_ ?_ ?_
    · rw [upd_ne (ne_of_none z np)]
      exact s10 _ _ z
    · simp only [List.mem_cons, List.not_mem_nil, or_false] at ha
      rcases ha with rfl | rfl | rfl | rfl | rfl | rfl | rfl | rfl <;> assumption
    · simp only [List.nodup_cons, List.mem_cons, List.not_mem_nil, or_false, not_or, not_false_eq_true, and_true, List.nodup_nil]
      exact ⟨⟨d2, dp_sh, dp_th, dp_wk, dp_lo, dp_to, dp_fa⟩, ⟨dsc_sh, dsc_th, dsc_wk, dsc_lo, dsc_to, dsc_fa⟩, ⟨dsh_th, dsh_wk, dsh_lo, dsh_to, dsh_fa⟩, ⟨dth_wk, dth_lo, dth_to, dth_fa⟩, ⟨dwk_lo, dwk_to, dwk_fa⟩, ⟨dlo_to, dlo_fa⟩, dto_fa⟩
    · rw [upd_ne (fun z => d2 z.symm)]; exact b10
    · rw [upd_ne d3p]; exact c10
    · rw [upd_ne (fun z => dp_sh z.symm)]; exact e10
    · rw [upd_ne (fun z => dp_th z.symm)]; exact f10
    · rw [upd_ne (fun z => dp_wk z.symm)]; exact g10
    · rw [upd_ne (fun z => dp_lo z.symm)]; exact h10
    · rw [upd_ne (fun z => dp_to z.symm)]; exact i10
    · rw [upd_ne (fun z => dp_fa z.symm)]; exact j10
end
end HL

set_option Elab.async false
set_option linter.all false
set_option maxRecDepth 100000
set_option maxHeartbeats 4000000
/-! L5: the draws of a script; the first deeds -/
namespace HL
open PySem PySem.Spec PyProof.Rows L2
section
variable {P : Program} {w : World} {K : PySem.W.Frag} {mg : Str → Option Value} {base : Heap}
theorem lt_of_getL {α : Type} {l : List α} {i : Nat} {x : α} (h : l[i]? = some x) : i < l.length := (List.getElem?_eq_some_iff.mp h).1
theorem sqL_same {K : PySem.W.Frag} {H H' : Hp} {a : Addr} {xs : List V} (h : SqL K H a xs) (s : Same H H') : SqL K H' a xs := h.imp (fun r => r.imp (s _ _) fun ⟨o, z⟩ => ⟨o, s _ _ z⟩) id
def spBegD (K : PySem.W.Frag) : Sp := fun vs H Q _ => ∃ (a : Addr) (ns : List Int), vs = [.ref a] ∧ SqL K H a (ns.map V.int) ∧ ns.length ≤ 63 ∧ ∀ H' e, Same H H' → DrAt H' e 0 → H e.d = none → H e.w = none → H e.c = none → Q (.ref e.d) H'
theorem ok_begD (T : Txt K mg) : OKF P w K mg base 1 "_law_begun" P_law_begun (spBegD K) := by
  refine okf T.f_law_begun sc_law_begun (fun _ _ _ _ _ _ us hl => match us, hl with | [_], _ => rfl) (fun vs H Q E h => ?_) (fun cdv A outer s H vs Q E hr h => ⟨_, (pss_cons (ps_setLc (i := 1) (own := [("_law_cell", 2)]) (g := (gName 2)) rfl sc_law_begun.nd rfl rfl (sw_true rfl rfl rfl (by decide +kernel)) (pi_list (pv 0)) (blkOk_by (own := [("_law_cell", 2)]) (N := N_law_begun) (sc := defScope s_law_begun) (by decide +kernel)) (fun _ _ _ _ _ => (pg_name (i := 2) sc_law_begun.nd rfl (by first | exact Or.inl rfl | exact Or.inr rfl) (by first | exact .inl rfl | exact .inr rfl))) (fun _ _ _ _ _ => (pts_one (pt_cmpR op_ge (pe_callB call_abs (by rfl) T.b_abs (by decide +kernel) (pa_cons (pv 2) pa_nil)) (pe_op op_pow pe_int pe_int) (nomark _)))) (fun _ _ _ _ _ => (pe_op op_sub (pe_callB call_abs (by rfl) T.b_abs (by decide +kernel) (pa_cons (pv 2) pa_nil)) (pe_op op_pow pe_int pe_int))))
    (pss_one (ps_ret (pe_disp (pps_cons pe_str (pv 1) (pps_cons pe_str (pe_lc (own := [("_law_cell", 2)]) (g := (gName 2)) (tt := tYes) rfl sc_law_begun.nd (pi_list (pv 0)) (blkOk_by (own := [("_law_cell", 2)]) (N := N_law_begun) (sc := defScope s_law_begun) (by decide +kernel)) (fun _ _ _ _ _ => (pg_name (i := 2) sc_law_begun.nd rfl (by first | exact Or.inl rfl | exact Or.inr rfl) (by first | exact .inl rfl | exact .inr rfl))) (fun _ _ _ _ _ => pts_nil) (fun _ _ _ _ _ => (pe_op op_modN (pe_callTy call_int1 (by rfl) T.b_int (by decide +kernel) (pa_cons (pe_callB call_abs (by rfl) T.b_abs (by decide +kernel) (pa_cons (pv 2) pa_nil)) pa_nil)) pe_int))) (pps_cons pe_str pe_int (pps_cons pe_str pe_int pps_nil)))) (by rfl) (by rfl) (fun z => by cases z) (by decide))))), ?_⟩)
  · obtain ⟨a, ns, rfl, _⟩ := h
    rfl
  · obtain ⟨a, ns, rfl, ha, hl, q⟩ := h
    have sz := sizeLine_eq
    refine ⟨_, rfl, a, rfl, ⟨_, ha⟩, fun D nD => ?_⟩
    refine lc_list (K := K) (a := a) (xs := ns.map V.int) (fun j H' => ∃ ws : List Int, H' D = some (.lst (ws.map V.int)) ∧ ws.length ≤ j ∧ KeepD D H H') ⟨[], upd_same, Nat.le_refl _, KeepD.of (same_new nD)⟩ (fun j H' _ ⟨_, _, _, k⟩ => sqL_same ha (k.same nD)) ?_ ?_
    · rintro j x H1 hx ⟨ws, e1, e2, e3⟩
      obtain ⟨i, rfl⟩ : ∃ i : Int, x = .int i := by
        rw [List.getElem?_map] at hx
        cases hq : ns[j]? with
        | none => rw [hq] at hx; cases hx
        | some y => rw [hq] at hx; exact ⟨y, (Option.some.inj hx).symm⟩
      have hj := lt_of_getL hx
      rw [List.length_map] at hj
      refine ⟨rfl, ?_⟩
      refine ⟨_, rfl, i, rfl, _, _, rfl, rfl, ⟨by decide, by decide, by decide⟩, _, _, rfl, rfl, _, rfl, ?_⟩
      refine ite2 (fun _ => ?_) (fun _ => ⟨ws, e1, by omega, e3⟩)
      refine ⟨_, rfl, i, rfl, _, _, rfl, rfl, ⟨by decide, by decide, by decide⟩, _, _, rfl, rfl, _, e1, by rw [List.length_map]; omega, ws ++ [(if i < 0 then -i else i) - 10 ^ (18 : Int).toNat], by rw [upd_same, List.map_append]; rfl, by simp; omega, e3.trans KeepD.upd⟩
    · rintro H1 ⟨ws, e1, e2, e3⟩
      have s1 := e3.same nD
      rw [List.length_map] at e2
      intro p np
      have s2 := same_new (o := .dK []) np
      have s12 := s1.trans s2
      have g1 := s2 _ _ e1
      have g2 : (upd H1 p (.dK [])) p = some (.dK []) := upd_same
      have nDp : D ≠ p := ne_of_none e1 np
      have npH := fresh_of s1 np
      generalize upd H1 p (.dK []) = H2 at s2 s12 g1 g2
      refine ⟨_, rfl, _, rfl, a, rfl, ⟨_, sqL_same ha s12⟩, fun C nC => ?_⟩
      have nDC : D ≠ C := ne_of_none g1 nC
      have npC : p ≠ C := ne_of_none g2 nC
      refine lc_list (K := K) (a := a) (xs := ns.map V.int) (fun j H' => ∃ cs : List Int, H' C = some (.lst (cs.map V.int)) ∧ cs.length ≤ j ∧ KeepD C H2 H') ⟨[], upd_same, Nat.le_refl _, KeepD.of (same_new nC)⟩ (fun j H' _ ⟨_, _, _, k⟩ => sqL_same (sqL_same ha s12) (k.same nC)) ?_ ?_
      · rintro j x H3 hx ⟨cs, h1, h2, h3⟩
        obtain ⟨i, rfl⟩ : ∃ i : Int, x = .int i := by
          rw [List.getElem?_map] at hx
          cases hq : ns[j]? with
          | none => rw [hq] at hx; cases hx
          | some y => rw [hq] at hx; exact ⟨y, (Option.some.inj hx).symm⟩
        have hj := lt_of_getL hx
        rw [List.length_map] at hj
        refine ⟨rfl, ?_⟩
        refine ⟨_, rfl, i, rfl, .inl ⟨_, rfl, ?_⟩⟩
        refine ⟨_, _, rfl, rfl, (by show (2147483629 : Int) ≠ 0; decide), _, h1, by rw [List.length_map]; omega, cs ++ [(if i < 0 then -i else i).fmod 2147483629], by rw [upd_same, List.map_append]; rfl, by simp; omega, h3.trans KeepD.upd⟩
      · rintro H3 ⟨cs, h1, h2, h3⟩
        have s3 := h3.same nC
        have k1 := s3 _ _ g1
        have k2 := s3 _ _ g2
        refine ⟨k2, [(.inr "wide", .ref D), (.inr "cells", .ref C), (.inr "rest", .int 0), (.inr "turn", .int 0)], rfl, by show 4 ≤ 15; omega, ?_⟩
        rw [show mergeK [] [((.inr "wide" : Key), V.ref D), (.inr "cells", .ref C), (.inr "rest", .int 0), (.inr "turn", .int 0)] = drkv ⟨p, D, C⟩ 0 0 by kernel_rfl]
        refine q _ ⟨p, D, C⟩ (fun b o z => ?_) ⟨⟨0, 0, ws, upd_same, by rw [upd_ne nDp]; exact k1, by omega, by omega, by omega⟩, ⟨cs, by rw [upd_ne (fun z => npC z.symm)]; exact h1⟩, nDC⟩ npH nD (fresh_of s12 nC)
        rw [upd_ne (ne_of_none z npH)]
        exact s3 _ _ (s12 _ _ z)
end
end HL

set_option Elab.async false
set_option linter.all false
set_option maxRecDepth 100000
set_option maxHeartbeats 4000000
/-! L6: the first deeds -/
namespace HL
open PySem PySem.Spec PyProof.Rows L2
/-- the level of the v-th scope, by the list of what each begin is under -/
inductive Lv (xs : List Nat) : Nat → Nat → Prop
  | zero : Lv xs 0 0
  | succ (j x l : Nat) (h : xs[j]? = some x) (hl : Lv xs x l) : Lv xs (j + 1) (l + 1)
theorem Lv.app {xs ys : List Nat} {v l : Nat} (h : Lv xs v l) : Lv (xs ++ ys) v l := by
  induction h with
  | zero => exact .zero
  | succ j x l h _ ih => exact .succ j x l (by rw [List.getElem?_append_left (lt_of_getL h)]; exact h) ih
theorem Lv.le {xs : List Nat} {v l : Nat} (h : Lv xs v l) : v ≤ xs.length := by
  cases h with
  | zero => omega
  | succ j x l h _ => exact lt_of_getL h
def PathOk (xs way : List Nat) : Prop := ∀ (i v : Nat), way[i]? = some v → Lv xs v i
def BDok (xs : List Nat) (D : Nat) : Prop := ∀ (j x : Nat), xs[j]? = some x → x ≤ j ∧ ∃ l, Lv xs x l ∧ l < D
def pF (ps : List (Nat × Addr)) : List V := ps.map fun p => V.ref p.2
def pX (ps : List (Nat × Addr)) : List Nat := ps.map fun p => p.1
def wF (ws : List (List Nat × Addr)) : List V := ws.map fun p => V.ref p.2
structure BS (H : Hp) (e : Dr) (f wa : Addr) (D : Nat) (ps : List (Nat × Addr)) (ws : List (List Nat × Addr)) : Prop where
  hf : H f = some (.lst (pF ps))
  hp : ∀ p ∈ ps, H p.2 = some (.tup [.str "begin", natV p.1])
  hwa : H wa = some (.lst (wF ws))
  hw : ∀ p ∈ ws, H p.2 = some (.lst (p.1.map natV)) ∧ p.2 ≠ e.d ∧ p.2 ≠ e.w ∧ p.2 ≠ e.c ∧ p.2 ≠ f ∧ p.2 ≠ wa ∧ p.1 ≠ [] ∧ PathOk (pX ps) p.1
  n0 : ws ≠ []
  ok : BDok (pX ps) D
section
variable {H H' : Hp} {e : Dr} {f wa : Addr} {D : Nat} {ps : List (Nat × Addr)} {ws : List (List Nat × Addr)}
theorem BS.same (h : BS H e f wa D ps ws) (s : Same H H') : BS H' e f wa D ps ws := ⟨s _ _ h.hf, fun p hp => s _ _ (h.hp p hp), s _ _ h.hwa, fun p hp => ⟨s _ _ (h.hw p hp).1, (h.hw p hp).2⟩, h.n0, h.ok⟩
theorem BS.draw {T : Nat} (h : BS H e f wa D ps ws) (hD : DrAt H e T) (k : DKeep e H H') (f1 : f ≠ e.d) (f2 : f ≠ e.w) (w1 : wa ≠ e.d) (w2 : wa ≠ e.w) : BS H' e f wa D ps ws := by
  obtain ⟨⟨r, t, us, k1, k2, _⟩, _⟩ := hD
  exact ⟨k _ _ f1 f2 h.hf, fun p hp => k _ _ (ne_of (h.hp p hp) k1 (fun z => nomatch z)) (ne_of (h.hp p hp) k2 (fun z => nomatch z)) (h.hp p hp), k _ _ w1 w2 h.hwa, fun p hp => ⟨k _ _ (h.hw p hp).2.1 (h.hw p hp).2.2.1 (h.hw p hp).1, (h.hw p hp).2⟩, h.n0, h.ok⟩
theorem BS.push (h : BS H e f wa D ps ws) {t : Addr} {x l : Nat} (ht : H t = some (.tup [.str "begin", natV x])) (hl : Lv (pX ps) x l) (hlD : l < D) (hne : f ≠ wa) : BS (L2.upd H f (.lst (pF ps ++ [.ref t]))) e f wa D (ps ++ [(x, t)]) ws := by
  have hpx : pX (ps ++ [(x, t)]) = pX ps ++ [x] := by unfold pX; rw [List.map_append]; rfl
  refine ⟨by rw [upd_same]; unfold pF; rw [List.map_append]; rfl, fun p hp => ?_, by rw [upd_ne (fun z => hne z.symm)]; exact h.hwa, fun p hp => ?_, h.n0, ?_⟩
  · have y : H p.2 = some (.tup [.str "begin", natV p.1]) := by
      rcases List.mem_append.mp hp with z | z
      · exact h.hp p z
      · rw [List.mem_singleton] at z
        rw [z]
        exact ht
    rw [upd_ne (ne_of y h.hf (fun z => nomatch z))]
    exact y
  · obtain ⟨a1, a2, a3, a4, a5, a6, a7, a8⟩ := h.hw p hp
    refine ⟨by rw [upd_ne a5]; exact a1, a2, a3, a4, a5, a6, a7, fun i v z => ?_⟩
    rw [hpx]
    exact (a8 i v z).app
  · rw [hpx]
    intro j y hy
    have hlen : (pX ps).length = ps.length := List.length_map ..
    rcases Nat.lt_or_ge j (pX ps).length with z | z
    · rw [List.getElem?_append_left z] at hy
      obtain ⟨b1, l', b2, b3⟩ := h.ok j y hy
      exact ⟨b1, l', b2.app, b3⟩
    · have hj := lt_of_getL hy
      rw [List.length_append] at hj
      simp only [List.length_cons, List.length_nil] at hj
      have : j = (pX ps).length := by omega
      subst this
      rw [List.getElem?_append_right (Nat.le_refl _), Nat.sub_self] at hy
      have : x = y := by simpa using hy
      subst this
      exact ⟨hl.le, l, hl.app, hlD⟩
theorem BS.pushw (h : BS H e f wa D ps ws) {b : Addr} {way : List Nat} (hb : H b = some (.lst (way.map natV))) (n : b ≠ e.d ∧ b ≠ e.w ∧ b ≠ e.c ∧ b ≠ f ∧ b ≠ wa) (hw : way ≠ []) (hp : PathOk (pX ps) way) (hne : f ≠ wa) : BS (L2.upd H wa (.lst (wF ws ++ [.ref b]))) e f wa D ps (ws ++ [(way, b)]) := by
  refine ⟨by rw [upd_ne hne]; exact h.hf, fun p hp => ?_, by rw [upd_same]; unfold wF; rw [List.map_append]; rfl, fun p hp => ?_, by simp, h.ok⟩
  · rw [upd_ne (ne_of (h.hp p hp) h.hwa (fun z => nomatch z))]
    exact h.hp p hp
  · rcases List.mem_append.mp hp with z | z
    · obtain ⟨a1, a2, a3, a4, a5, a6, a7, a8⟩ := h.hw p z
      exact ⟨by rw [upd_ne a6]; exact a1, a2, a3, a4, a5, a6, a7, a8⟩
    · rw [List.mem_singleton] at z
      rw [z]
      obtain ⟨n1, n2, n3, n4, n5⟩ := n
      exact ⟨by rw [upd_ne n5]; exact hb, n1, n2, n3, n4, n5, hw, by assumption⟩
end
section
variable {P : Program} {w : World} {K : PySem.W.Frag} {mg : Str → Option Value} {base : Heap}
theorem cut_nat {l : List Nat} {k : Nat} {i : Int} (h : i = (k : Nat)) : cutV (l.map natV) none (some i) = (l.take k).map natV := by
  subst h
  unfold cutV
  rw [HT.sIx_none, HT.sIx_nat, List.drop_zero, Nat.sub_zero, List.length_map, List.map_take]
  rcases Nat.lt_or_ge k l.length with z | z
  · rw [Nat.min_eq_left (by omega)]
  · rw [Nat.min_eq_right z, List.take_of_length_le (by rw [List.length_map]; omega), List.take_of_length_le (by rw [List.length_map]; omega)]
def spBegDeeds : Sp := fun vs H Q _ => ∃ (e : Dr) (T D : Nat), vs = [.ref e.d, natV D] ∧ DrAt H e T ∧ T + 10 ≤ 1000000 ∧ 1 ≤ D ∧ D ≤ 3 ∧
  ∀ (H' : Hp) (f : Addr) (ps : List (Nat × Addr)), H f = none → H' f = some (.lst (pF ps)) → (∀ p ∈ ps, H' p.2 = some (.tup [.str "begin", natV p.1])) → BDok (pX ps) D → ps.length ≤ 9 → DrAt H' e (T + 10) → DKeep e H H' → Q (.ref f) H'
theorem ok_begDeeds (T : Txt K mg) : OKF P w K mg base 4 "_law_begun_deeds" P_law_begun_deeds spBegDeeds := by
  have G_law_take := ok_take (P := P) (w := w) (base := base) T
  have G_law_pick := ok_pick (P := P) (w := w) (base := base) T
  refine okf T.f_law_begun_deeds sc_law_begun_deeds (fun _ _ _ _ _ _ us hl => match us, hl with | [_, _], _ => rfl) (fun vs H Q E h => ?_) (fun cdv A outer s H vs Q E hr h => ⟨_, (pss_cons (ps_par (i := 2) (j := 3) (by rfl) sc_law_begun_deeds.nd rfl rfl (by decide) rfl rfl (pa_cons (pe_lst pa_nil) (pa_cons (pe_lst (pa_cons (pe_lst (pa_cons pe_int pa_nil)) pa_nil)) pa_nil)) (by rfl))
    (pss_cons (ps_for PassesOwn.never rfl (pi_range1 (by rfl) T.b_range (pa_cons (pe_op op_add pe_int (pe_callK K G_law_take (hr.mono (by omega)) (by rfl) (pa_cons (pv 0) (pa_cons pe_int pa_nil)))) pa_nil)) (pg_name (i := 4) sc_law_begun_deeds.nd rfl (Or.inl rfl)) (pss_cons (ps_set (i := 5) sc_law_begun_deeds.nd rfl (Or.inl rfl) (pe_callK K G_law_pick (hr.mono (by omega)) (by rfl) (pa_cons (pv 0) (pa_cons (pv 3) pa_nil))))
    (pss_cons (ps_set (i := 5) sc_law_begun_deeds.nd rfl (Or.inl rfl) (pe_slice (slL K) (pv 5) po_none (po_some (pe_op op_add pe_int (pe_callK K G_law_take (hr.mono (by omega)) (by rfl) (pa_cons (pv 0) (pa_cons (pv 1) pa_nil)))))))
    (pss_cons (ps_while PassesOwn.never (pt_cmpR op_le (pe_callB (lenS K) (by rfl) T.b_len (by decide +kernel) (pa_cons (pv 5) pa_nil)) (pv 1) (nomark _)) (pss_cons (ps_set (i := 6) sc_law_begun_deeds.nd rfl (Or.inl rfl) (pe_op op_add pe_int (pe_callB (lenS K) (by rfl) T.b_len (by decide +kernel) (pa_cons (pv 2) pa_nil))))
    (pss_cons (ps_expr (pe_bm PySem.F.plainAttrs_list PySem.F.slot_list_append PySem.F.type_list_append mt_append (pv 2) (pa_cons (pe_tup (pa_cons pe_str (pa_cons (pe_ix (ixL K) (pv 5) (pe_un un_neg pe_int) (fun _ _ => rfl)) pa_nil))) pa_nil)))
    (pss_one (ps_set (i := 5) sc_law_begun_deeds.nd rfl (Or.inl rfl) (pe_op op_cat (pv 5) (pe_lst (pa_cons (pv 6) pa_nil))))))))
    (pss_one (ps_expr (pe_bm PySem.F.plainAttrs_list PySem.F.slot_list_append PySem.F.type_list_append mt_append (pv 3) (pa_cons (pv 5) pa_nil))))))))
    (pss_one (ps_ret (pv 2))))), ?_⟩)
  · obtain ⟨e, M, D, rfl, _⟩ := h
    rfl
  · obtain ⟨e, M, D, rfl, hD, hM, hD1, hD3, q⟩ := h
    have sz := sizeLine_eq
    refine ⟨szl, fun f nf => ⟨szl, fun b0 nb0 => ⟨szl, fun wa nwa => ⟨_, _, rfl, ?_⟩⟩⟩⟩
    have s1 := same_new (o := .lst []) nf
    have s2 := same_new (o := .lst [.int 0]) nb0
    have s3 := same_new (o := .lst [.ref b0]) nwa
    have s12 := s1.trans s2
    have s123 := s12.trans s3
    have nbH := fresh_of s1 nb0
    have nwH := fresh_of s12 nwa
    obtain ⟨f1, f2, f3⟩ := hD.nd3 nf
    obtain ⟨w1, w2, w3⟩ := hD.nd3 nwH
    obtain ⟨c1, c2, c3⟩ := hD.nd3 nbH
    have hfw : f ≠ wa := ne_of_none (s2 _ _ upd_same) nwa
    have hbf : b0 ≠ f := fun z => by rw [z, upd_same] at nb0; cases nb0
    have hbw : b0 ≠ wa := ne_of_none upd_same nwa
    have hB : BS (upd (upd (upd H f (.lst [])) b0 (.lst [.int 0])) wa (.lst [.ref b0])) e f wa D [] [([0], b0)] := by
      refine ⟨s3 _ _ (s2 _ _ upd_same), (fun _ z => nomatch z), upd_same, fun p hp => ?_, by simp, fun j x z => by cases z⟩
      rw [List.mem_singleton] at hp
      rw [hp]
      refine ⟨s3 _ _ upd_same, c1, c2, c3, hbf, hbw, by simp, fun i v z => ?_⟩
      cases i with
      | zero =>
        have : v = 0 := by simpa using z.symm
        rw [this]
        exact .zero
      | succ i => cases z
    have hD' := hD.same s123
    have K1 : DKeep e H _ := .of s123
    generalize upd (upd (upd H f (.lst [])) b0 (.lst [.int 0])) wa (.lst [.ref b0]) = H1 at hB hD' K1
    refine ⟨_, rfl, e, M, 3, rfl, hD', by omega, by omega, by omega, fun H2 k hk hD2 K2 => ?_⟩
    have hB2 := hB.draw hD' K2 f1 f2 w1 w2
    refine ⟨_, _, rfl, rfl, _, rfl, by omega, by omega, ?_⟩
    rw [show ((1 : Int) + (k : Nat)).toNat = k + 1 by omega]
    refine for_range (fun j σ H' => ∃ (ps : List (Nat × Addr)) (ws : List (List Nat × Addr)) (x4 x5 x6 : Option V), σ = [some (.ref e.d), some (natV D), some (.ref f), some (.ref wa), x4, x5, x6] ∧ BS H' e f wa D ps ws ∧ ps.length ≤ 3 * j ∧ ws.length = j + 1 ∧ DrAt H' e (M + 1 + 2 * j) ∧ DKeep e H H')
      ⟨[], _, none, none, none, rfl, hB2, by simp, by simp, hD2, K1.trans K2⟩ ?_ ?_
    · rintro j σ H3 hj ⟨ps, ws, x4, x5, x6, rfl, h1, h2, h3, h4, h5⟩
      have hwl : (wF ws).length = ws.length := List.length_map ..
      refine ⟨_, rfl, _, rfl, e, M + 1 + 2 * j, wa, wF ws, rfl, h4, by omega, h1.hwa, w2, by rw [hwl]; omega, by rw [hwl]; omega, fun H4 v hv hD4 K4 => ?_⟩
      obtain ⟨pw, hpw, rfl⟩ := List.mem_map.mp hv
      have h14 := h1.draw h4 K4 f1 f2 w1 w2
      obtain ⟨a1, a2, a3, a4, a5, a6, a7, a8⟩ := h14.hw pw hpw
      refine ⟨_, rfl, _, rfl, _, rfl, e, M + 1 + 2 * j + 1, D, rfl, hD4, by omega, by omega, by omega, fun H5 k5 hk5 hD5 K5 => ⟨_, _, rfl, rfl, ?_⟩⟩
      have h15 := h14.draw hD4 K5 f1 f2 w1 w2
      have a1' := K5 _ _ a2 a3 a1
      refine ⟨_, rfl, pw.2, _, rfl, SqL.of a1', fun b nb => ?_⟩
      rw [cut_nat (k := k5 + 1) (by omega)]
      obtain ⟨n1, n2, n3⟩ := hD5.nd3 nb
      have n4 : b ≠ f := fun z => by rw [z, h15.hf] at nb; cases nb
      have n5 : b ≠ wa := fun z => by rw [z, h15.hwa] at nb; cases nb
      have s6 := same_new (o := .lst ((pw.1.take (k5 + 1)).map natV)) nb
      have h16 := h15.same s6
      have hD6 := hD5.same s6
      have K6 : DKeep e H (upd H5 b (.lst ((pw.1.take (k5 + 1)).map natV))) := ((h5.trans K4).trans K5).trans (.of s6)
      have g0 : (upd H5 b (.lst ((pw.1.take (k5 + 1)).map natV))) b = some (.lst ((pw.1.take (k5 + 1)).map natV)) := upd_same
      have g1 : pw.1.take (k5 + 1) ≠ [] := by
        cases hq : pw.1 with
        | nil => exact absurd hq a7
        | cons _ _ => simp
      have g2 : PathOk (pX ps) (pw.1.take (k5 + 1)) := fun i v z => by
        rw [List.getElem?_take] at z
        split at z
        · exact a8 i v z
        · cases z
      have g3 : (pw.1.take (k5 + 1)).length ≤ D := by
        rw [List.length_take]
        omega
      generalize upd H5 b (.lst ((pw.1.take (k5 + 1)).map natV)) = H6 at h16 hD6 K6 g0
      generalize pw.1.take (k5 + 1) = way at g0 g1 g2 g3
      have hw1 : 1 ≤ way.length := List.length_pos_iff.mpr g1
      refine ⟨fun m σ H' => ∃ (qs : List (Nat × Addr)) (way : List Nat) (b : Addr) (x4 x6 : Option V), σ = [some (.ref e.d), some (natV D), some (.ref f), some (.ref wa), x4, some (.ref b), x6] ∧ BS H' e f wa D qs ws ∧ H' b = some (.lst (way.map natV)) ∧ (b ≠ e.d ∧ b ≠ e.w ∧ b ≠ e.c ∧ b ≠ f ∧ b ≠ wa) ∧ way ≠ [] ∧ PathOk (pX qs) way ∧ way.length ≤ D + 1 ∧
          m = D + 1 - way.length ∧ qs.length + (D + 1 - way.length) ≤ 3 * j + 3 ∧ DrAt H' e (M + 1 + 2 * j + 2) ∧ DKeep e H H',
        ⟨_, ps, way, b, _, _, rfl, h16, g0, ⟨n1, n2, n3, n4, n5⟩, g1, g2, by omega, rfl, by omega, hD6, K6⟩, ?_⟩
      rintro m σ H7 ⟨qs, way, b, x4, x6, rfl, t1, t2, ⟨m1, m2, m3, m4, m5⟩, t4, t5, t6, rfl, t7, t8, t9⟩
      have hql : (pF qs).length = qs.length := List.length_map ..
      have hqx : (pX qs).length = qs.length := List.length_map ..
      have hwl2 : (way.map natV).length = way.length := List.length_map ..
      refine ⟨_, rfl, _, _, rfl, .inl (SqL.of t2), _, rfl, _, _, rfl, rfl, _, rfl, ?_⟩
      rw [hwl2]
      refine ite2 (fun c => ?_) (fun c => ?_)
      · have c1 : way.length ≤ D := by
          have := of_decide_eq_true c
          omega
        refine ⟨_, fun _ _ z => z, ?_⟩
        refine ⟨_, rfl, _, _, rfl, .inl (SqL.of t1.hf), _, _, rfl, rfl, ?_⟩
        rw [hql]
        have hlast := List.dropLast_concat_getLast t4
        generalize hv : way.getLast t4 = v at hlast
        have hlen : way.dropLast.length = way.length - 1 := List.length_dropLast
        have hwp : 1 ≤ way.length := List.length_pos_iff.mpr t4
        have hLv : Lv (pX qs) v (way.length - 1) := t5 _ v (by
          rw [← hlast, List.getElem?_append_right (by rw [List.length_append, List.length_dropLast]; simp)]
          rw [List.length_append, List.length_dropLast]
          simp)
        have t2' : H7 b = some (.lst (way.dropLast.map natV ++ [natV v])) := by
          rw [t2]
          conv => lhs; rw [← hlast]
          rw [List.map_append]
          rfl
        refine ⟨_, rfl, tyL2 t1.hf, _, rfl, _, rfl, b, _, -1, _, rfl, rfl, SqL.of t2', atI_last _ _, szl, fun t nt => ?_⟩
        have s8 := same_new (o := .tup [.str "begin", natV v]) nt
        have u1 := t1.same s8
        have u2 := s8 _ _ t2
        have uD := t8.same s8
        have uK : DKeep e H (upd H7 t (.tup [.str "begin", natV v])) := t9.trans (.of s8)
        have ut : (upd H7 t (.tup [.str "begin", natV v])) t = some (.tup [.str "begin", natV v]) := upd_same
        generalize upd H7 t (.tup [.str "begin", natV v]) = H8 at u1 u2 uD uK ut
        refine ⟨f, _, _, rfl, rfl, u1.hf, by rw [hql]; omega, ?_⟩
        have v1 := u1.push ut hLv (by omega) hfw
        have v2 : (upd H8 f (.lst (pF qs ++ [.ref t]))) b = some (.lst (way.map natV)) := by rw [upd_ne m4]; exact u2
        have vD := uD.priv (o := .lst (pF qs ++ [.ref t])) f1 f2 f3
        have vK := uK.priv (o := .lst (pF qs ++ [.ref t])) nf
        generalize upd H8 f (.lst (pF qs ++ [.ref t])) = H9 at v1 v2 vD vK
        refine ⟨_, rfl, _, rfl, szl, fun r nr => ?_⟩
        have s9 := same_new (o := .lst [natV (1 + qs.length)]) nr
        refine ⟨b, r, _, _, rfl, rfl, s9 _ _ v2, upd_same, by rw [hwl2]; simp only [List.length_cons, List.length_nil]; omega, fun z nz => ?_⟩
        have s10 := same_new (o := .lst (way.map natV ++ [natV (1 + qs.length)])) nz
        have s910 := s9.trans s10
        have nzH := fresh_of s9 nz
        obtain ⟨z1, z2, z3⟩ := vD.nd3 nzH
        have hqx2 : pX (qs ++ [(v, t)]) = pX qs ++ [v] := by unfold pX; rw [List.map_append]; rfl
        refine ⟨D + 1 - (way ++ [1 + qs.length]).length, by rw [List.length_append]; simp only [List.length_cons, List.length_nil]; omega, qs ++ [(v, t)], way ++ [1 + qs.length], z, _, _, rfl, v1.same s910, ?_, ⟨z1, z2, z3, (fun y => by rw [y, v1.hf] at nzH; cases nzH), (fun y => by rw [y, v1.hwa] at nzH; cases nzH)⟩, by simp, fun i y hy => ?_, by rw [List.length_append]; simp only [List.length_cons, List.length_nil]; omega, rfl, by rw [List.length_append, List.length_append]; simp only [List.length_cons, List.length_nil]; omega, vD.same s910, vK.trans (.of s910)⟩
        · rw [List.map_append]
          exact upd_same
        · rw [hqx2]
          rcases Nat.lt_or_ge i way.length with y1 | y1
          · rw [List.getElem?_append_left y1] at hy
            exact (t5 i y hy).app
          · have y2 := lt_of_getL hy
            rw [List.length_append] at y2
            simp only [List.length_cons, List.length_nil] at y2
            have y3 : i = way.length := by omega
            subst y3
            rw [List.getElem?_append_right (Nat.le_refl _), Nat.sub_self] at hy
            have y4 : 1 + qs.length = y := by simpa using hy
            have y5 : Lv (pX qs ++ [v]) (qs.length + 1) (way.length - 1 + 1) := .succ _ v _ (by rw [List.getElem?_append_right (by rw [hqx]; exact Nat.le_refl _), hqx, Nat.sub_self]; rfl) hLv.app
            rw [← y4, show 1 + qs.length = qs.length + 1 by omega]
            rw [show way.length - 1 + 1 = way.length by omega] at y5
            exact y5
      · have c1 : D < way.length := by
          rcases Nat.lt_or_ge D way.length with z | z
          · exact z
          · exact absurd (decide_eq_true (by omega)) c
        refine ⟨_, rfl, tyL2 t1.hwa, _, rfl, wa, _, _, rfl, rfl, t1.hwa, by rw [hwl]; omega, ?_⟩
        have v1 := t1.pushw t2 ⟨m1, m2, m3, m4, m5⟩ t4 t5 hfw
        refine ⟨qs, ws ++ [(way, b)], _, _, _, rfl, v1, by omega, by rw [List.length_append, h3]; rfl, (t8.priv w1 w2 w3).mono (by omega), t9.priv nwH⟩
    · rintro σ H3 ⟨ps, ws, x4, x5, x6, rfl, h1, h2, h3, h4, h5⟩
      exact ⟨_, rfl, q H3 f ps nf h1.hf h1.hp h1.ok (by omega) (h4.mono (by omega)) h5⟩
end
end HL

set_option Elab.async false
set_option linter.all false
set_option maxRecDepth 100000
set_option maxHeartbeats 4000000
/-! L7: the parts -/
namespace HL
open PySem PySem.Spec PyProof.Rows L2
/-- names lo, lo + 1, .. -/
def nmR (lo n : Nat) : Str := ⟨((List.range' lo n).map (97 + ·)).toArray⟩
theorem nmR7 : ("abcdefg" : Str) = nmR 0 7 := by decide +kernel
theorem nmR_size (lo n : Nat) : (nmR lo n).cps.size = n := by simp [nmR]
theorem nmR_len (lo n : Nat) : (nmR lo n).length = n := nmR_size lo n
theorem nmR_at {lo n i : Nat} (h : i < n) : (nmR lo n).cps.toList[i]? = some (97 + (lo + i)) := by simp [nmR, h]
theorem nmR_get {lo n i c : Nat} (h : (nmR lo n).cps[i]? = some c) : i < n ∧ c = 97 + (lo + i) := by
  have hi : i < n := by
    have := (Array.getElem?_eq_some_iff.mp h).1
    rw [nmR_size] at this
    exact this
  refine ⟨hi, ?_⟩
  have z := nmR_at (lo := lo) hi
  rw [Array.getElem?_toList, h] at z
  exact Option.some.inj z
theorem cut7 : ∀ k : Nat, k < 8 → cutS (nmR 0 7) none (some (k : Int)) = nmR 0 k := by decide +kernel
theorem cutR : ∀ n : Nat, n < 8 → ∀ k : Nat, k < 8 → k ≤ n → cutS (nmR 0 n) (some (k : Int)) none = nmR k (n - k) := by decide +kernel
theorem lc_str {x : Str} {g : TG} {tt : TT} {te : TE} {vs : List Nat} {σ : L2.St} {H1 : Hp} {D : Addr} {Qd : Hp → Prop} (Pv : Nat → Hp → Prop) (h0 : Pv 0 (upd H1 D (.lst [])))
    (hs : ∀ i c H, x.cps[i]? = some c → Pv i H → g (.str ⟨#[c]⟩) (wipe σ vs) H fun σ2 H2 => wipe σ2 vs = wipe σ vs ∧ tt σ2 H2 fun b H3 =>
      if b = true then te σ2 H3 fun y H4 => ∃ acc, H4 D = some (.lst acc) ∧ acc.length < sizeLine ∧ Pv (i + 1) (upd H4 D (.lst (acc ++ [y]))) else Pv (i + 1) H3) (hd : ∀ H, Pv x.cps.size H → Qd H) :
    ∃ W : Nat → Nat → Hp → Prop, (∃ m, W 0 m (upd H1 D (.lst []))) ∧ ∀ i m H, W i m H →
      ((Its x).stop i H ∧ Qd H) ∨ ((Its x).go i H ∧ ∃ Nx : Hp → Prop, (∀ H', Nx H' → ∃ m', m' < m ∧ W (i + 1) m' H') ∧ ∀ v H', (Its x).yld i H v H' → g v (wipe σ vs) H' fun σ2 H2 => wipe σ2 vs = wipe σ vs ∧ tt σ2 H2 fun b H3 =>
        if b = true then te σ2 H3 fun y H4 => ∃ acc, H4 D = some (.lst acc) ∧ acc.length < sizeLine ∧ Nx (upd H4 D (.lst (acc ++ [y]))) else Nx H3) := by
  refine ⟨fun i m H => m = x.cps.size - i ∧ i ≤ x.cps.size ∧ Pv i H, ⟨_, rfl, Nat.zero_le _, h0⟩, ?_⟩
  rintro i m H ⟨rfl, hi, p⟩
  rcases Nat.lt_or_ge i x.cps.size with lt | ge
  · refine .inr ⟨lt, Pv (i + 1), fun H' p' => ⟨x.cps.size - (i + 1), by omega, rfl, lt, p'⟩, ?_⟩
    rintro v H' ⟨rfl, c, hc, rfl⟩
    exact hs i c _ hc p
  · have e : i = x.cps.size := by omega
    subst e
    exact .inl ⟨ge, hd H p⟩
structure Prt where
  life : Int
  wants : List (Bool × Nat)
  pA : Addr
  wA : Addr
  qs : List Addr
def mopA (j : Nat) (l : List Prt) : List (Key × V) := (l.zipIdx j).map fun p => ((.inr (nm p.2) : Key), V.ref p.1.pA)
def mop (l : List Prt) : List (Key × V) := mopA 0 l
theorem mop_none : ∀ (l : List Prt) (j m : Nat), m < j ∨ j + l.length ≤ m → valV (mopA j l) (.inr (nm m)) = none
  | [], j, m, h => rfl
  | x :: l, j, m, h => by
    unfold mopA
    rw [List.zipIdx_cons, List.map_cons, valV_neg (fun z => by
      have := nm_inj (Sum.inr.inj z)
      simp at h this
      omega)]
    exact mop_none l (j + 1) m (by simp at h; omega)
theorem mop_new (l : List Prt) (p : Prt) : putK (mop l) (.inr (nm l.length)) (.ref p.pA) = mop (l ++ [p]) := by
  unfold mop
  rw [putK_new _ (mop_none l 0 l.length (.inr (by omega)))]
  simp [mopA, List.zipIdx_append]
structure PrtAt (H : Hp) (p : Prt) : Prop where
  a : H p.pA = some (.tup [.int p.life, .ref p.wA])
  w : H p.wA = some (.tup (p.qs.map V.ref))
  l : p.qs.length = p.wants.length
  q : ∀ (j : Nat) (q : Bool × Nat) (a : Addr), p.wants[j]? = some q → p.qs[j]? = some a → H a = some (.tup [.str (wayS q.1), .str (nm q.2)])
structure PrtOk (D n i : Nat) (p : Prt) : Prop where
  l1 : -1 ≤ p.life
  l2 : p.life ≤ D
  w : ∀ q ∈ p.wants, i < q.2 ∧ q.2 < n
  n : p.wants.length + i + 1 ≤ n
/-- what is no dict and no list is kept by draws -/
theorem PrtAt.mono {H H' : Hp} {p : Prt} (h : PrtAt H p) (k : ∀ a xs, H a = some (.tup xs) → H' a = some (.tup xs)) : PrtAt H' p := ⟨k _ _ h.a, k _ _ h.w, h.l, fun j q a h1 h2 => k _ _ (h.q j q a h1 h2)⟩
theorem DKeep.tup {e : Dr} {H H' : Hp} {T : Nat} (k : DKeep e H H') (hD : DrAt H e T) {a : Addr} {xs : List V} (h : H a = some (.tup xs)) : H' a = some (.tup xs) := by
  obtain ⟨⟨r, t, us, k1, k2, _⟩, _⟩ := hD
  exact k _ _ (ne_of h k1 (fun z => nomatch z)) (ne_of h k2 (fun z => nomatch z)) h
theorem DKeep.fresh {e : Dr} {H H' : Hp} {T : Nat} (k : DKeep e H H') (hD : DrAt H' e T) {a : Addr} (h : H' a = none) : H a = none := by
  obtain ⟨h1, h2⟩ := hD.nd h
  cases z : H a with
  | none => rfl
  | some o => rw [k _ _ h1 h2 z] at h; cases h
theorem nms_of {M : List Str} {L : List Nat} {R : Nat → Prop} (h : ∀ x ∈ M, x ∈ L.map nm) (hR : ∀ x ∈ L, R x) : ∃ N : List Nat, M = N.map nm ∧ ∀ x ∈ N, R x := by
  induction M with
  | nil => exact ⟨[], rfl, fun _ z => nomatch z⟩
  | cons x M ih =>
    obtain ⟨N, e, h2⟩ := ih fun y hy => h y (List.mem_cons_of_mem _ hy)
    obtain ⟨i, hi, rfl⟩ := List.mem_map.mp (h x (List.mem_cons_self ..))
    refine ⟨i :: N, by rw [e]; rfl, fun y hy => ?_⟩
    rcases List.mem_cons.mp hy with z | z
    · rw [z]; exact hR i hi
    · exact h2 y z
section
variable {P : Program} {w : World} {K : PySem.W.Frag} {mg : Str → Option Value} {base : Heap}
def spParts : Sp := fun vs H Q _ => ∃ (e : Dr) (T D : Nat), vs = [.ref e.d, natV D, natV 6] ∧ DrAt H e T ∧ T + 200 ≤ 1000000 ∧ D ≤ 3 ∧
  ∀ (H' : Hp) (mo : Addr) (l : List Prt), H mo = none → H' mo = some (.dK (mop l)) → 1 ≤ l.length → l.length ≤ 6 → (∀ (i : Nat) (p : Prt), l[i]? = some p → PrtAt H' p ∧ PrtOk D l.length i p) → DrAt H' e (T + 200) → DKeep e H H' → Q (.ref mo) H'
theorem ok_parts (T : Txt K mg) : OKF P w K mg base 4 "_law_small_parts" P_law_small_parts spParts := by
  have G_law_take := ok_take (P := P) (w := w) (base := base) T
  have G_law_pick := ok_pick (P := P) (w := w) (base := base) T
  have G_law_shuffled := ok_shuffled (P := P) (w := w) (base := base) T
  refine okf T.f_law_small_parts sc_law_small_parts (fun _ _ _ _ _ _ us hl => match us, hl with | [_, _, _], _ => rfl) (fun vs H Q E h => ?_) (fun cdv A outer s H vs Q E hr h => ⟨_, (pss_cons (ps_par (i := 3) (j := 4) (by rfl) sc_law_small_parts.nd rfl rfl (by decide) rfl rfl (pa_cons pe_dnewK (pa_cons (pe_slice sl_str pe_str po_none (po_some (pe_op op_add pe_int (pe_callK K G_law_take (hr.mono (by omega)) (by rfl) (pa_cons (pv 0) (pa_cons (pv 2) pa_nil)))))) pa_nil)) (by rfl))
    (pss_cons (ps_for PassesOwn.never rfl (pi_range1 (by rfl) T.b_range (pa_cons (pe_callB call_len_str (by rfl) T.b_len (by decide +kernel) (pa_cons (pv 4) pa_nil)) pa_nil)) (pg_name (i := 5) sc_law_small_parts.nd rfl (Or.inl rfl)) (pss_cons (ps_setLc (i := 6) (own := [("_law_name", 8)]) (g := (gName 8)) rfl sc_law_small_parts.nd rfl rfl (sw_true rfl rfl rfl (by decide +kernel)) (pi_str (pe_slice sl_str (pv 4) (po_some (pe_op op_add (pv 5) pe_int)) po_none)) (blkOk_by (own := [("_law_name", 8)]) (N := N_law_small_parts) (sc := defScope s_law_small_parts) (by decide +kernel)) (fun _ _ _ _ _ => (pg_name (i := 8) sc_law_small_parts.nd rfl (by first | exact Or.inl rfl | exact Or.inr rfl) (by first | exact .inl rfl | exact .inr rfl))) (fun _ _ _ _ _ => (pts_one (pt_cmpR op_gt (pe_callK K G_law_take (hr.mono (by omega)) (by rfl) (pa_cons (pv 0) (pa_cons pe_int pa_nil))) pe_int (nomark _)))) (fun _ _ _ _ _ => (pv 8)))
    (pss_cons (ps_setLc (i := 7) (own := [("_law_name", 8)]) (g := (gName 8)) (tt := tYes) rfl sc_law_small_parts.nd rfl rfl (sw_true rfl rfl rfl (by decide +kernel)) (pi_list (pe_callK K G_law_shuffled (hr.mono (by omega)) (by rfl) (pa_cons (pv 0) (pa_cons (pv 6) pa_nil)))) (blkOk_by (own := [("_law_name", 8)]) (N := N_law_small_parts) (sc := defScope s_law_small_parts) (by decide +kernel)) (fun _ _ _ _ _ => (pg_name (i := 8) sc_law_small_parts.nd rfl (by first | exact Or.inl rfl | exact Or.inr rfl) (by first | exact .inl rfl | exact .inr rfl))) (fun _ _ _ _ _ => pts_nil) (fun _ _ _ _ _ => (pe_tup (pa_cons (pe_callK K G_law_pick (hr.mono (by omega)) (by rfl) (pa_cons (pv 0) (pa_cons (pe_lst (pa_cons pe_str (pa_cons pe_str (pa_cons pe_str pa_nil)))) pa_nil))) (pa_cons (pv 8) pa_nil)))))
    (pss_one (ps_dput (hu_of hr) (pv 3) (pe_ix ix_str (pv 4) (pv 5) (fun _ _ => rfl)) (pe_tup (pa_cons (pe_callK K G_law_pick (hr.mono (by omega)) (by rfl) (pa_cons (pv 0) (pa_cons (pe_lst (pa_cons (pe_un un_neg pe_int) (pa_cons (pe_un un_neg pe_int) (pa_cons pe_int (pa_cons (pv 1) (pa_cons (pe_callK K G_law_take (hr.mono (by omega)) (by rfl) (pa_cons (pv 0) (pa_cons (pe_op op_add (pv 1) pe_int) pa_nil))) pa_nil)))))) pa_nil))) (pa_cons (pe_callTy (tupO K) (by rfl) T.b_tuple (by decide +kernel) (pa_cons (pv 7) pa_nil)) pa_nil))) rfl)))))
    (pss_one (ps_ret (pv 3))))), ?_⟩)
  · obtain ⟨e, M, D, rfl, _⟩ := h
    rfl
  · obtain ⟨e, M, D, rfl, hD, hM, hD3, q⟩ := h
    have sz := sizeLine_eq
    intro mo nmo
    have s1 := same_new (o := .dK []) nmo
    obtain ⟨m1, m2, m3⟩ := hD.nd3 nmo
    have hD1 := hD.same s1
    have K1 : DKeep e H (upd H mo (.dK [])) := .of s1
    have g1 : (upd H mo (.dK [])) mo = some (.dK (mop [])) := upd_same
    generalize upd H mo (.dK []) = H1 at s1 hD1 K1 g1
    refine ⟨_, rfl, _, rfl, e, M, 6, rfl, hD1, by omega, by omega, by omega, fun H2 n0 hn0 hD2 K2 => ⟨_, _, rfl, rfl, _, rfl, _, rfl, ?_⟩⟩
    rw [nmR7]
    refine ⟨by rw [nmR_len]; omega, _, _, rfl, ?_⟩
    rw [show (1 : Int) + ((n0 : Nat) : Int) = ((n0 + 1 : Nat) : Int) by omega, cut7 (n0 + 1) (by omega)]
    have hn1 : n0 + 1 ≤ 6 := by omega
    have hn2 : 1 ≤ n0 + 1 := by omega
    generalize n0 + 1 = n at hn1 hn2
    have g2 := K2 _ _ m1 m2 g1
    have K12 := K1.trans K2
    refine ⟨_, rfl, _, rfl, by rw [nmR_len]; omega, _, rfl, by rw [nmR_len]; omega, by rw [nmR_len]; omega, ?_⟩
    rw [show (((nmR 0 n).length : Nat) : Int).toNat = n by rw [nmR_len]; omega]
    refine for_range (fun k σ H' => ∃ (l : List Prt) (x5 x6 x7 : Option V), σ = [some (.ref e.d), some (natV D), some (natV 6), some (.ref mo), some (.str (nmR 0 n)), x5, x6, x7, none] ∧ H' mo = some (.dK (mop l)) ∧ l.length = k ∧ (∀ (i : Nat) (p : Prt), l[i]? = some p → PrtAt H' p ∧ PrtOk D n i p) ∧ DrAt H' e (M + 1 + 17 * k) ∧ DKeep e H H')
      ⟨[], none, none, none, rfl, g2, rfl, fun i p z => (nomatch z), hD2, K12⟩ ?_ ?_
    · rintro k σ H3 hk ⟨l, x5, x6, x7, rfl, h1, h2, h3, h4, h5⟩
      rw [Int.zero_add]
      -- the others
      refine ⟨_, rfl, _, rfl, _, _, rfl, rfl, _, rfl, _, rfl, by rw [nmR_len]; omega, _, rfl, fun B nB => ?_⟩
      rw [show ((k : Nat) : Int) + 1 = ((k + 1 : Nat) : Int) by omega, cutR n (by omega) (k + 1) (by omega) (by omega)]
      have nBH := h5.fresh h4 nB
      obtain ⟨b1, b2, b3⟩ := h4.nd3 nB
      have sB := same_new (o := .lst []) nB
      have nBm : mo ≠ B := ne_of_none h1 nB
      refine lc_str (x := nmR (k + 1) (n - (k + 1))) (fun i H' => ∃ L : List Nat, H' B = some (.lst ((L.map nm).map V.str)) ∧ L.length ≤ i ∧ (∀ x ∈ L, k < x ∧ x < n) ∧ H' mo = some (.dK (mop l)) ∧ (∀ a xs, H3 a = some (.tup xs) → H' a = some (.tup xs)) ∧ DrAt H' e (M + 1 + 17 * k + i) ∧ DKeep e H H')
        ⟨[], upd_same, Nat.le_refl _, (fun _ z => nomatch z), sB _ _ h1, fun a xs z => sB _ _ z, h4.same sB, h5.trans (.of sB)⟩ ?_ ?_
      · rintro i c H4 hc ⟨L, e1, e2, e3, e4, e5, e6, e7⟩
        obtain ⟨hi, rfl⟩ := nmR_get hc
        refine ⟨rfl, ?_⟩
        refine ⟨_, rfl, e, M + 1 + 17 * k + i, 3, rfl, e6, by omega, by omega, by omega, fun H5 t ht hD5 K5 => ⟨_, _, rfl, rfl, _, rfl, ?_⟩⟩
        have e1' := K5 _ _ b1 b2 e1
        have e4' := K5 _ _ m1 m2 e4
        refine ite2 (fun _ => ?_) (fun _ => ⟨L, e1', by omega, e3, e4', fun a xs z => K5.tup e6 (e5 a xs z), hD5, e7.trans K5⟩)
        refine ⟨_, rfl, _, e1', by rw [List.length_map, List.length_map]; omega, L ++ [k + 1 + i], ?_, by simp; omega, ?_, by rw [upd_ne nBm]; exact e4', fun a xs z => ?_, hD5.priv b1 b2 b3, (e7.trans K5).priv nBH⟩
        · rw [upd_same, List.map_append, List.map_append]
          rfl
        · intro x hx
          rcases List.mem_append.mp hx with z | z
          · exact e3 x z
          · rw [List.mem_singleton] at z
            omega
        · have y := K5.tup e6 (e5 a xs z)
          rw [upd_ne (ne_of y e1' (fun z => nomatch z))]
          exact y
      · rintro H4 ⟨L, e1, e2, e3, e4, e5, e6, e7⟩
        rw [nmR_size] at e2 e6
        -- shuffled
        have hLs : ∀ x ∈ L.map nm, PyData.strOk x = true := fun x hx => by
          obtain ⟨y, hy, rfl⟩ := List.mem_map.mp hx
          exact nm_ok (by have := e3 y hy; omega)
        have hLl : (L.map nm).length = L.length := List.length_map ..
        refine ⟨_, rfl, _, rfl, e, M + 1 + 17 * k + (n - (k + 1)), B, L.map nm, rfl, e6, by rw [hLl]; omega, e1, hLs, by rw [hLl]; omega, fun H5 p N np hp hNl hN hD5 K5 => ?_⟩
        obtain ⟨N, rfl, hN2⟩ := nms_of hN e3
        rw [hLl] at hNl hD5
        rw [List.length_map] at hNl
        have e4' := K5 _ _ m1 m2 e4
        have e5' : ∀ a xs, H3 a = some (.tup xs) → H5 a = some (.tup xs) := fun a xs z => K5.tup e6 (e5 a xs z)
        have e7' := e7.trans K5
        obtain ⟨p1, p2, p3⟩ := e6.nd3 np
        refine ⟨p, rfl, ⟨_, SqL.of hp⟩, fun C nC => ?_⟩
        have nCH := e7'.fresh hD5 nC
        obtain ⟨c1, c2, c3⟩ := hD5.nd3 nC
        have sC := same_new (o := .lst []) nC
        have nCm : mo ≠ C := ne_of_none e4' nC
        have npC : p ≠ C := ne_of_none hp nC
        refine lc_list (K := K) (a := p) (xs := (N.map nm).map V.str) (fun i H' => ∃ (us : List (Bool × Nat)) (qs : List Addr), H' C = some (.lst (qs.map V.ref)) ∧ qs.length = i ∧ us.length = i ∧ (∀ q ∈ us, k < q.2 ∧ q.2 < n) ∧
            (∀ (j : Nat) (q : Bool × Nat) (a : Addr), us[j]? = some q → qs[j]? = some a → H' a = some (.tup [.str (wayS q.1), .str (nm q.2)])) ∧ H' mo = some (.dK (mop l)) ∧ H' p = some (.lst ((N.map nm).map V.str)) ∧ (∀ a xs, H3 a = some (.tup xs) → H' a = some (.tup xs)) ∧ DrAt H' e (M + 1 + 17 * k + (n - (k + 1)) + L.length + i) ∧ DKeep e H H')
          ⟨[], [], upd_same, rfl, rfl, (fun _ z => nomatch z), (fun _ _ _ z => by cases z), sC _ _ e4', sC _ _ hp, fun a xs z => sC _ _ (e5' a xs z), hD5.same sC, e7'.trans (.of sC)⟩ (fun i H' _ ⟨_, _, _, _, _, _, _, _, z, _⟩ => SqL.of z) ?_ ?_
        · rintro i x H6 hx ⟨us, qs, f1, f2, f3, f4, f5, f6, f7, f8, f9, f10⟩
          obtain ⟨y, hy, rfl⟩ : ∃ y, N[i]? = some y ∧ x = .str (nm y) := by
            rw [List.getElem?_map, List.getElem?_map] at hx
            cases hq : N[i]? with
            | none => rw [hq] at hx; cases hx
            | some y => rw [hq] at hx; exact ⟨y, rfl, (Option.some.inj hx).symm⟩
          have hi := lt_of_get hy
          obtain ⟨y1, y2⟩ := hN2 y (List.mem_of_getElem? hy)
          refine ⟨rfl, ?_⟩
          refine rdPick [.str "held", .str "held", .str "each"] rfl (fun R z => z) f9 (by omega) (by simp) (by simp) fun H7 v hv hD7 K7 => ?_
          obtain ⟨bw, rfl⟩ : ∃ bw : Bool, v = .str (wayS bw) := by
            simp only [List.mem_cons, List.not_mem_nil, or_false] at hv
            rcases hv with rfl | rfl | rfl
            · exact ⟨true, rfl⟩
            · exact ⟨true, rfl⟩
            · exact ⟨false, rfl⟩
          refine ⟨_, rfl, szl, fun t nt => ?_⟩
          have st := same_new (o := .tup [.str (wayS bw), .str (nm y)]) nt
          have k1 := st _ _ (K7 _ _ c1 c2 f1)
          have k2 := st _ _ (K7 _ _ m1 m2 f6)
          have k3 := st _ _ (K7 _ _ p1 p2 f7)
          have k4 : ∀ a xs, H6 a = some (.tup xs) → (upd H7 t (.tup [.str (wayS bw), .str (nm y)])) a = some (.tup xs) := fun a xs z => st _ _ (K7.tup f9 z)
          have kD := hD7.same st
          have kK := (f10.trans K7).trans (.of st)
          have kt : (upd H7 t (.tup [.str (wayS bw), .str (nm y)])) t = some (.tup [.str (wayS bw), .str (nm y)]) := upd_same
          generalize upd H7 t (.tup [.str (wayS bw), .str (nm y)]) = H8 at k1 k2 k3 k4 kD kK kt
          have up8 : ∀ a xs, H8 a = some (.tup xs) → (upd H8 C (.lst (qs.map V.ref ++ [.ref t]))) a = some (.tup xs) := fun a xs z => by
            rw [upd_ne (ne_of z k1 (fun z => nomatch z))]
            exact z
          refine ⟨_, k1, by rw [List.length_map, f2]; omega, us ++ [(bw, y)], qs ++ [t], by rw [upd_same, List.map_append]; rfl, by rw [List.length_append, f2]; rfl, by rw [List.length_append, f3]; rfl, fun q0 hq => ?_, fun j q0 a z1 z2 => ?_, by rw [upd_ne nCm]; exact k2, by rw [upd_ne npC]; exact k3, fun a xs z => up8 _ _ (k4 _ _ (f8 a xs z)), kD.priv c1 c2 c3, kK.priv nCH⟩
          · rcases List.mem_append.mp hq with z | z
            · exact f4 q0 z
            · rw [List.mem_singleton] at z
              rw [z]
              exact ⟨y1, y2⟩
          · apply up8
            rcases Nat.lt_or_ge j i with z | z
            · rw [List.getElem?_append_left (by omega)] at z1 z2
              exact k4 _ _ (f5 j q0 a z1 z2)
            · have z3 := lt_of_get z1
              rw [List.length_append, f3] at z3
              simp only [List.length_cons, List.length_nil] at z3
              have z4 : j = i := by omega
              subst z4
              rw [List.getElem?_append_right (by omega), f3, Nat.sub_self] at z1
              rw [List.getElem?_append_right (by omega), f2, Nat.sub_self] at z2
              cases z1
              cases z2
              exact kt
        · rintro H6 ⟨us, qs, f1, f2, f3, f4, f5, f6, f7, f8, f9, f10⟩
          rw [List.length_map, List.length_map, hNl] at f2 f3 f9
          -- life
          refine ⟨_, rfl, _, rfl, _, rfl, _, rfl, _, rfl, _, rfl, _, _, rfl, rfl, e, _, D + 1, rfl, f9, by omega, by omega, by omega, fun H7 t ht hD7 K7 => ⟨szl, fun lp nlp => ?_⟩⟩
          have g1' := K7 _ _ m1 m2 f6
          have g2' := K7 _ _ c1 c2 f1
          have sl := same_new (o := .lst [V.int (-1), V.int (-1), V.int 0, natV D, natV t]) nlp
          have hD7' := hD7.same sl
          refine ⟨e, _, lp, [V.int (-1), V.int (-1), V.int 0, natV D, natV t], rfl, hD7', by omega, upd_same, (hD7.nd3 nlp).2.1, by simp, by simp, fun H8 v hv hD8 K8 => ?_⟩
          have K78 : DKeep e H6 H8 := (K7.trans (.of sl)).trans K8
          have g1 := K78 _ _ m1 m2 f6
          have g2 := K78 _ _ c1 c2 f1
          have tk : ∀ a xs, H6 a = some (.tup xs) → H8 a = some (.tup xs) := fun a xs z => K78.tup f9 z
          have K8' := f10.trans K78
          obtain ⟨lf, rfl, hl1, hl2⟩ : ∃ lf : Int, v = .int lf ∧ -1 ≤ lf ∧ lf ≤ D := by
            simp only [List.mem_cons, List.not_mem_nil, or_false] at hv
            rcases hv with rfl | rfl | rfl | rfl | rfl
            · exact ⟨_, rfl, by omega, by omega⟩
            · exact ⟨_, rfl, by omega, by omega⟩
            · exact ⟨_, rfl, by omega, by omega⟩
            · exact ⟨_, rfl, by omega, by omega⟩
            · exact ⟨_, rfl, by omega, by omega⟩
          refine ⟨_, rfl, C, _, rfl, .inl ⟨SqL.of g2, fun wA nwA => ⟨szl, fun pA npA => ?_⟩⟩⟩
          have sw := same_new (o := .tup (qs.map V.ref)) nwA
          have sp := same_new (o := .tup [.int lf, .ref wA]) npA
          have swp := sw.trans sp
          have j1 := swp _ _ g1
          have j2 := sp _ _ (upd_same : (upd H8 wA (.tup (qs.map V.ref))) wA = some (.tup (qs.map V.ref)))
          have j3 : (upd (upd H8 wA (.tup (qs.map V.ref))) pA (.tup [.int lf, .ref wA])) pA = some (.tup [.int lf, .ref wA]) := upd_same
          have jt : ∀ a xs, H6 a = some (.tup xs) → (upd (upd H8 wA (.tup (qs.map V.ref))) pA (.tup [.int lf, .ref wA])) a = some (.tup xs) := fun a xs z => swp _ _ (tk a xs z)
          have jD := hD8.same swp
          have jK := K8'.trans (.of swp)
          generalize upd (upd H8 wA (.tup (qs.map V.ref))) pA (.tup [.int lf, .ref wA]) = H9 at j1 j2 j3 jt jD jK
          have hml : (mop l).length = l.length := by unfold mop mopA; rw [List.length_map, List.length_zipIdx]
          have hat : (nmR 0 n).cps.toList[k]? = some (97 + k) := by
            have z := nmR_at (lo := 0) hk
            rw [Nat.zero_add] at z
            exact z
          refine ⟨_, rfl, _, rfl, _, rfl, _, _, _, rfl, rfl, by rw [nmR_len]; omega, atI_nat hat, mo, _, rfl, DPut.k (k := .inr (nm k)) j1 (by rw [hml]; omega), ?_⟩
          have hmp : putK (mop l) (.inr (nm k)) (.ref pA) = mop (l ++ [⟨lf, us, pA, wA, qs⟩]) := by
            rw [← h2]
            exact mop_new l ⟨lf, us, pA, wA, qs⟩
          rw [hmp]
          have upm : ∀ a xs, H9 a = some (.tup xs) → (upd H9 mo (.dK (mop (l ++ [⟨lf, us, pA, wA, qs⟩])))) a = some (.tup xs) := fun a xs z => by
            rw [upd_ne (ne_of z j1 (fun z => nomatch z))]
            exact z
          refine ⟨l ++ [⟨lf, us, pA, wA, qs⟩], _, _, _, rfl, upd_same, by rw [List.length_append, h2]; rfl, fun i p z => ?_, (jD.priv m1 m2 m3).mono (by omega), jK.priv nmo⟩
          rcases Nat.lt_or_ge i l.length with y | y
          · rw [List.getElem?_append_left y] at z
            obtain ⟨y1, y2⟩ := h3 i p z
            exact ⟨y1.mono fun a xs y3 => upm _ _ (jt _ _ (f8 a xs y3)), y2⟩
          · have y1 := lt_of_get z
            rw [List.length_append] at y1
            simp only [List.length_cons, List.length_nil] at y1
            have y2 : i = l.length := by omega
            rw [y2, List.getElem?_append_right (Nat.le_refl _), Nat.sub_self] at z
            cases z
            rw [y2, h2]
            refine ⟨⟨upm _ _ j3, upm _ _ j2, by show qs.length = us.length; omega, fun j q0 a z1 z2 => upm _ _ (jt _ _ (f5 j q0 a z1 z2))⟩, hl1, hl2, f4, ?_⟩
            show us.length + k + 1 ≤ n
            omega
    · rintro σ H3 ⟨l, x5, x6, x7, rfl, h1, h2, h3, h4, h5⟩
      exact ⟨_, rfl, q H3 mo l nmo h1 (by omega) (by omega) (fun i p z => by rw [h2]; exact h3 i p z) (h4.mono (by omega)) h5⟩
end
end HL

set_option Elab.async false
set_option linter.all false
set_option maxRecDepth 100000
set_option maxHeartbeats 4000000
/-! L8: a free deed -/
namespace HL
open PySem PySem.Spec PyProof.Rows L2
/-- a draw's state lies outside the world -/
structure DSep (e : Dr) (W : WS) : Prop where
  d : e.d ∉ muts W
  w : e.w ∉ muts W
  c : e.c ∉ muts W
  fl : W.c.fl ≠ e.d
  mo : W.c.mo ≠ e.d
theorem WAt.draw {H H' : Hp} {W : WS} {e : Dr} {T : Nat} (h : WAt H W) (s : DSep e W) (hD : DrAt H e T) (k : DKeep e H H') : WAt H' W := by
  obtain ⟨⟨r, t, us, k1, k2, _⟩, _⟩ := hD
  refine ⟨fun p hp => ?_, h.nd, fun a o q => ?_, h.sep⟩
  · have hm : p.1 ∈ muts W := List.mem_map.mpr ⟨p, hp, rfl⟩
    exact k _ _ (fun z => s.d (by rw [← z]; exact hm)) (fun z => s.w (by rw [← z]; exact hm)) (h.cel p hp)
  · have z := h.st a o q
    cases q with
    | fl => exact k _ _ s.fl (ne_of z k2 (fun z => nomatch z)) z
    | mo => exact k _ _ s.mo (ne_of z k2 (fun z => nomatch z)) z
    | part i hi => exact k _ _ (ne_of z k1 (fun z => nomatch z)) (ne_of z k2 (fun z => nomatch z)) z
    | wts i hi => exact k _ _ (ne_of z k1 (fun z => nomatch z)) (ne_of z k2 (fun z => nomatch z)) z
    | want i hi j q e => exact k _ _ (ne_of z k1 (fun z => nomatch z)) (ne_of z k2 (fun z => nomatch z)) z
    | scp s hs => exact k _ _ (ne_of z k1 (fun z => nomatch z)) (ne_of z k2 (fun z => nomatch z)) z
    | hld t ht => exact k _ _ (ne_of z k1 (fun z => nomatch z)) (ne_of z k2 (fun z => nomatch z)) z
    | wrk x hx => exact k _ _ (ne_of z k1 (fun z => nomatch z)) (ne_of z k2 (fun z => nomatch z)) z
    | bk => exact k _ _ (ne_of z k1 (fun z => nomatch z)) (ne_of z k2 (fun z => nomatch z)) z
    | bT => exact k _ _ (ne_of z k1 (fun z => nomatch z)) (ne_of z k2 (fun z => nomatch z)) z
theorem DSep.ext {H H' : Hp} {W W' : WS} {e : Dr} {T : Nat} (s : DSep e W) (hD : DrAt H e T) (x : Ext W H W' H') (hc : W'.c = W.c) : DSep e W' ∧ DrAt H' e T := by
  obtain ⟨⟨r, t, us, k1, k2, k3⟩, ⟨cs, k4⟩, k5⟩ := hD
  have no : ∀ {a : Addr} {o : HO}, a ∉ muts W → H a = some o → a ∉ muts W' := fun {a o} h1 h2 h3 => by
    rcases x.new a h3 with z | z
    · exact h1 z
    · rw [h2] at z; cases z
  exact ⟨⟨no s.d k1, no s.w k2, no s.c k4, by rw [hc]; exact s.fl, by rw [hc]; exact s.mo⟩, ⟨r, t, us, x.keep _ _ s.d k1, x.keep _ _ s.w k2, k3⟩, ⟨cs, x.keep _ _ s.c k4⟩, k5⟩
theorem rd_eq0n {K : PySem.W.Frag} {H : Hp} {Q : VK} {a b : Addr} {l : List Nat} (ha : H a = some (.lst (l.map natV))) (hb : H b = some (.lst [])) (q : Q (.bl l.isEmpty) H) : rEqD K (.ref a) (.ref b) H Q :=
  rd_eq0 (f := natV) (fun k => .int k) (l := l) ha hb (fun k _ => .int _) (fun k _ => flat_int _) q
theorem rd_ne0n {K : PySem.W.Frag} {H : Hp} {Q : VK} {a b : Addr} {l : List Nat} (ha : H a = some (.lst (l.map natV))) (hb : H b = some (.lst [])) (q : Q (.bl (!l.isEmpty)) H) : rNeD K (.ref a) (.ref b) H Q :=
  rd_ne0 (f := natV) (fun k => .int k) (l := l) ha hb (fun k _ => .int _) (fun k _ => flat_int _) q
theorem rdOrS {t u : TT} {σ : L2.St} {H : Hp} {Q : Bool → Hp → Prop} (c d : Bool) (ht : ∀ R : Bool → Hp → Prop, R c H → t σ H R) (hu : c = false → ∀ R : Bool → Hp → Prop, (∀ H', Same H H' → R d H') → u σ H R) (q : ∀ H', Same H H' → Q (c || d) H') : tOr t u σ H Q := by
  refine ht _ ?_
  cases c with
  | true => exact q H fun _ _ z => z
  | false => exact hu rfl Q q
theorem rdAndS {t u : TT} {σ : L2.St} {H : Hp} {Q : Bool → Hp → Prop} (c d : Bool) (ht : ∀ R : Bool → Hp → Prop, R c H → t σ H R) (hu : c = true → ∀ R : Bool → Hp → Prop, (∀ H', Same H H' → R d H') → u σ H R) (q : ∀ H', Same H H' → Q (c && d) H') : tAnd t u σ H Q := by
  refine ht _ ?_
  cases c with
  | false => exact q H fun _ _ z => z
  | true => exact hu rfl Q q
theorem lc_vals {d : Addr} {o : Obj} {kvs : List (Key × V)} {g : TG} {tt : TT} {te : TE} {vs : List Nat} {σ : L2.St} {H1 : Hp} {D : Addr} {Qd : Hp → Prop} (Pv : Nat → Hp → Prop) (h0 : Pv 0 (upd H1 D (.lst []))) (hl : ∀ i H, i ≤ kvs.length → Pv i H → H d = some (.frz o (.dK kvs)))
    (hs : ∀ i k x H, kvs[i]? = some (k, x) → Pv i H → g x (wipe σ vs) H fun σ2 H2 => wipe σ2 vs = wipe σ vs ∧ tt σ2 H2 fun b H3 =>
      if b = true then te σ2 H3 fun y H4 => ∃ acc, H4 D = some (.lst acc) ∧ acc.length < sizeLine ∧ Pv (i + 1) (upd H4 D (.lst (acc ++ [y]))) else Pv (i + 1) H3) (hd : ∀ H, Pv kvs.length H → Qd H) :
    ∃ W : Nat → Nat → Hp → Prop, (∃ m, W 0 m (upd H1 D (.lst []))) ∧ ∀ i m H, W i m H →
      ((Itd d o kvs).stop i H ∧ Qd H) ∨ ((Itd d o kvs).go i H ∧ ∃ Nx : Hp → Prop, (∀ H', Nx H' → ∃ m', m' < m ∧ W (i + 1) m' H') ∧ ∀ v H', (Itd d o kvs).yld i H v H' → g v (wipe σ vs) H' fun σ2 H2 => wipe σ2 vs = wipe σ vs ∧ tt σ2 H2 fun b H3 =>
        if b = true then te σ2 H3 fun y H4 => ∃ acc, H4 D = some (.lst acc) ∧ acc.length < sizeLine ∧ Nx (upd H4 D (.lst (acc ++ [y]))) else Nx H3) := by
  refine ⟨fun i m H => m = kvs.length - i ∧ i ≤ kvs.length ∧ Pv i H, ⟨_, rfl, Nat.zero_le _, h0⟩, ?_⟩
  rintro i m H ⟨rfl, hi, p⟩
  have q := hl i H hi p
  rcases Nat.lt_or_ge i kvs.length with lt | ge
  · refine .inr ⟨⟨q, lt⟩, Pv (i + 1), fun H' p' => ⟨kvs.length - (i + 1), by omega, rfl, lt, p'⟩, ?_⟩
    rintro v H' ⟨rfl, k, hk⟩
    exact hs i k v _ hk p
  · have e : i = kvs.length := by omega
    subst e
    exact .inl ⟨⟨q, ge⟩, hd H p⟩
def undO (W : WS) (s : Nat) : Option Nat := match W.scs[s]? with
  | some x => x.und
  | none => none
theorem undO_of {W : WS} {s : Nat} {x : Scp} (h : W.scs[s]? = some x) : undO W s = x.und := by
  unfold undO
  rw [h]
theorem cut3_mem {xs : List V} {v : V} (h : v ∈ cutV xs (some (-3)) none) : v ∈ xs := List.mem_of_mem_drop (List.mem_of_mem_take h)
theorem cut3_pos {xs : List V} (h : 0 < xs.length) : 0 < (cutV xs (some (-3)) none).length := by
  unfold cutV
  have e : HT.sIx xs.length 0 (some (-3)) = ((-3 : Int) + xs.length).toNat := rfl
  rw [e, HT.sIx_none, List.length_take, List.length_drop]
  omega
section
variable {P : Program} {w : World} {K : PySem.W.Frag} {mg : Str → Option Value} {base : Heap}
def spFree : Sp := fun vs H Q _ => ∃ (e : Dr) (T : Nat) (W : WS), vs = [.ref e.d, .ref W.c.w] ∧ DrAt H e T ∧ T + 10 ≤ 1000000 ∧ WAt H W ∧ WInv W ∧ DSep e W ∧ W.scs.length < 60 ∧ W.wks.length < 60 ∧
  ∀ H' a, WAt H' W → DrAt H' e (T + 10) → DKeep e H H' → Deed H' W a → Q (.ref a) H'
theorem ok_free (T : Txt K mg) : OKF P w K mg base 5 "_law_free_deed" P_law_free_deed spFree := by
  have G_law_take := ok_take (P := P) (w := w) (base := base) T
  have G_law_pick := ok_pick (P := P) (w := w) (base := base) T
  have G_law_open_ones := ok_open_ones (P := P) (w := w) (base := base) T
  have G_law_requests := ok_requests (P := P) (w := w) (base := base) T
  refine okf T.f_law_free_deed sc_law_free_deed (fun _ _ _ _ _ _ us hl => match us, hl with | [_, _], _ => rfl) (fun vs H Q E h => ?_) (fun cdv A outer s H vs Q E hr h => ⟨_, (pss_cons (ps_par (i := 2) (j := 3) (by rfl) sc_law_free_deed.nd rfl rfl (by decide) rfl rfl (pa_cons (pe_callK K G_law_open_ones (hr.mono (by omega)) (by rfl) (pa_cons (pv 1) pa_nil)) (pa_cons (pe_callK K G_law_requests (hr.mono (by omega)) (by rfl) (pa_cons (pv 1) pa_nil)) pa_nil)) (by rfl))
    (pss_cons (ps_set (i := 4) sc_law_free_deed.nd rfl (Or.inl rfl) (pe_callK K G_law_take (hr.mono (by omega)) (by rfl) (pa_cons (pv 0) (pa_cons pe_int pa_nil))))
    (pss_cons (ps_if (PW.pt (pw_or (pt_cmpR op_lt (pv 4) pe_int (nomark _)) (pw_or1 (pt_cmpR (eqD K hr.units) (pv 3) (pe_lst pa_nil) (nomark _))))) (pss_cons (ps_setLc (i := 5) (own := [("_law_one", 9)]) (g := (gName 9)) rfl sc_law_free_deed.nd rfl rfl (sw_true rfl rfl rfl (by decide +kernel)) (pi_list (pv 2)) (blkOk_by (own := [("_law_one", 9)]) (N := N_law_free_deed) (sc := defScope s_law_free_deed) (by decide +kernel)) (fun _ _ _ _ _ => (pg_name (i := 9) sc_law_free_deed.nd rfl (by first | exact Or.inl rfl | exact Or.inr rfl) (by first | exact .inl rfl | exact .inr rfl))) (fun _ _ _ _ _ => (pts_one (pt_cmpR op_lt (pe_ix (ixT K) (pe_dget (hu_of hr) (pe_dget (hu_of hr) (pv 1) pe_str (fun _ _ => rfl)) (pv 9) (fun _ _ => rfl)) pe_int (fun _ _ => rfl)) (pe_dget (hu_of hr) (pv 1) pe_str (fun _ _ => rfl)) (nomark _)))) (fun _ _ _ _ _ => (pv 9)))
    (pss_one (ps_ret (pe_tup (pa_cons pe_str (pa_cons (pe_callK K G_law_pick (hr.mono (by omega)) (by rfl) (pa_cons (pv 0) (pa_cons (pe_slice (slL K) (pv 5) (po_some (pe_un un_neg pe_int)) po_none) pa_nil))) pa_nil)))))) pss_nil)
    (C8.pss_cut (ps_if (pt_cmpR op_lt (pv 4) pe_int (nomark _)) (pss_cons (ps_set (i := 6) sc_law_free_deed.nd rfl (Or.inr rfl) (pe_op op_cat (pe_lst (pa_cons pe_int pa_nil)) (pe_lc (own := [("_law_one", 9)]) (g := (gName 9)) (tt := tYes) rfl sc_law_free_deed.nd (pi_list (pv 2)) (blkOk_by (own := [("_law_one", 9)]) (N := N_law_free_deed) (sc := defScope s_law_free_deed) (by decide +kernel)) (fun _ _ _ _ _ => (pg_name (i := 9) sc_law_free_deed.nd rfl (by first | exact Or.inl rfl | exact Or.inr rfl) (by first | exact .inl rfl | exact .inr rfl))) (fun _ _ _ _ _ => pts_nil) (fun _ _ _ _ _ => (pe_ix (ixT K) (pe_dget (hu_of hr) (pe_dget (hu_of hr) (pv 1) pe_str (fun _ _ => rfl)) (pv 9) (fun _ _ => rfl)) pe_int (fun _ _ => rfl))))))
    (C8.pss_cut (ps_if (pt_cmpR op_eq (pe_dget (hu_of hr) (pe_dget (hu_of hr) (pv 1) pe_str (fun _ _ => rfl)) pe_str (fun _ _ => rfl)) pe_str (nomark _)) (pss_one (ps_set (i := 6) sc_law_free_deed.nd rfl (Or.inr rfl) (pe_op op_cat (pv 6) (pe_lock (pe_lc (own := [("_law_work", 10)]) (g := (gName 10)) (tt := tYes) rfl sc_law_free_deed.nd (pi_values (pe_dget (hu_of hr) (pv 1) pe_str (fun _ _ => rfl))) (blkOk_by (own := [("_law_work", 10)]) (N := N_law_free_deed) (sc := defScope s_law_free_deed) (by decide +kernel)) (fun _ _ _ _ _ => (pg_name (i := 10) sc_law_free_deed.nd rfl (by first | exact Or.inl rfl | exact Or.inr rfl) (by first | exact .inl rfl | exact .inr rfl))) (fun _ _ _ _ _ => pts_nil) (fun _ _ _ _ _ => (pe_ix (ixT K) (pv 10) pe_int (fun _ _ => rfl)))))))) pss_nil)
    (pss_cons (ps_setLc (i := 7) (own := [("_law_one", 9)]) (g := (gName 9)) rfl sc_law_free_deed.nd rfl rfl (sw_true rfl rfl rfl (by decide +kernel)) (pi_list (pv 2)) (blkOk_by (own := [("_law_one", 9)]) (N := N_law_free_deed) (sc := defScope s_law_free_deed) (by decide +kernel)) (fun _ _ _ _ _ => (pg_name (i := 9) sc_law_free_deed.nd rfl (by first | exact Or.inl rfl | exact Or.inr rfl) (by first | exact .inl rfl | exact .inr rfl))) (fun _ _ _ _ _ => (pts_one (pt_cmpR (ninS K) (pv 9) (pv 6) (by rfl)))) (fun _ _ _ _ _ => (pv 9)))
    (pss_one (ps_if (pt_cmpR (neD K hr.units) (pv 7) (pe_lst pa_nil) (nomark _)) (pss_one (ps_ret (pe_tup (pa_cons pe_str (pa_cons (pe_callK K G_law_pick (hr.mono (by omega)) (by rfl) (pa_cons (pv 0) (pa_cons (pv 7) pa_nil))) pa_nil))))) pss_nil))))) pss_nil)
    (pss_cons (ps_if (PW.pt (pw_and (pt_cmpR op_eq (pv 4) pe_int (nomark _)) (pw_and1 (pt_cmpR (op_neE0 hr.units0) (pe_dget (hu_of hr) (pv 1) pe_str (fun _ _ => rfl)) pe_dnewK (nomark _))))) (pss_one (ps_ret (pe_tup (pa_cons pe_str (pa_cons (pe_callK K G_law_pick (hr.mono (by omega)) (by rfl) (pa_cons (pv 0) (pa_cons (pe_callB (call_sortedDI rfl) (by rfl) T.b_sorted (by decide +kernel) (pa_cons (pe_dget (hu_of hr) (pv 1) pe_str (fun _ _ => rfl)) pa_nil)) pa_nil))) pa_nil))))) pss_nil)
    (pss_cons (ps_set (i := 8) sc_law_free_deed.nd rfl (Or.inl rfl) (pe_callK K G_law_pick (hr.mono (by omega)) (by rfl) (pa_cons (pv 0) (pa_cons (pe_lst (pa_cons pe_str (pa_cons pe_str (pa_cons pe_str (pa_cons pe_str (pa_cons pe_str pa_nil)))))) pa_nil))))
    (pss_one (ps_ret (pe_tup (pa_cons (pv 8) (pa_cons (pe_callK K G_law_pick (hr.mono (by omega)) (by rfl) (pa_cons (pv 0) (pa_cons (pv 3) pa_nil))) (pa_cons (pe_callK K G_law_pick (hr.mono (by omega)) (by rfl) (pa_cons (pv 0) (pa_cons (pe_callB (call_sortedD rfl) (by rfl) T.b_sorted (by decide +kernel) (pa_cons (pe_dget (hu_of hr) (pv 1) pe_str (fun _ _ => rfl)) pa_nil)) pa_nil))) pa_nil)))))))))))), ?_⟩)
  · obtain ⟨e, M, W, rfl, _⟩ := h
    rfl
  · obtain ⟨e, M, W, rfl, hD, hM, hW, hI, hS, hz1, hz2, q⟩ := h
    have sz := sizeLine_eq
    have hpos := hI.s.pos
    have hD1 := hI.c.D1
    refine ⟨_, rfl, W, rfl, hW, by omega, fun H1 ma Lm s1 nma em hLl hLm => ?_⟩
    refine ⟨_, rfl, W, rfl, hW.same s1, by omega, fun H2 ra Lr s2 nra er hRl hRm => ⟨_, _, rfl, ?_⟩⟩
    have s12 := s1.trans s2
    have em2 := s2 _ _ em
    obtain ⟨m1, m2, m3⟩ := hD.nd3 nma
    obtain ⟨r1, r2, r3⟩ := hD.nd3 (fresh_of s1 nra)
    refine ⟨_, rfl, e, M, 10, rfl, hD.same s12, by omega, by omega, by omega, fun H3 wy hwy hD3 K3 => ?_⟩
    have em3 := K3 _ _ m1 m2 em2
    have er3 := K3 _ _ r1 r2 er
    have hW3 := (hW.same s12).draw hS (hD.same s12) K3
    have K03 : DKeep e H H3 := DKeep.trans (.of s12) K3
    have kp : ∀ {H' : Hp}, Same H3 H' → WAt H' W ∧ DrAt H' e (M + 1) ∧ DKeep e H H' ∧ H' ma = some (.lst (Lm.map natV)) ∧ H' ra = some (.lst (Lr.map natV)) := fun {H'} s => ⟨hW3.same s, hD3.same s, K03.trans (.of s), s _ _ em3, s _ _ er3⟩
    refine rdOrS (t := tTest (tOp (rI0 fun i j => V.bl (decide (i < j))) (tVar 4) (tC (V.int 2)))) (u := tTest (tOp (rEqD K) (tVar 3) (tLst tNil))) (decide (wy < 2)) Lr.isEmpty (fun R z => ⟨_, rfl, _, _, rfl, rfl, _, rfl, ?_⟩) (fun _ R z => ⟨_, rfl, szl, fun l nl => rd_eq0n (same_new nl _ _ er3) upd_same ⟨_, rfl, z _ (same_new nl)⟩⟩) ?_
    · rw [show decide (((wy : Nat) : Int) < 2) = decide (wy < 2) from decide_eq_decide.mpr (by omega)]
      exact z
    intro H4 s4
    obtain ⟨hW4, hD4, K4, em4, er4⟩ := kp s4
    refine ite2 (fun c => ?_) (fun c => ?_)
    · -- begin
      refine ⟨_, rfl, ma, rfl, ⟨_, SqL.of em4⟩, fun D nD => ?_⟩
      have nmD : ma ≠ D := ne_of_none em4 nD
      refine lc_list (K := K) (a := ma) (xs := Lm.map natV) (fun j H' => ∃ L : List Nat, H' D = some (.lst (L.map natV)) ∧ L.length ≤ j ∧ KeepD D H4 H' ∧ (∀ s ∈ L, s ∈ Lm ∧ lv W s < W.c.D) ∧ ∀ s ∈ Lm.take j, lv W s < W.c.D → s ∈ L)
        ⟨[], upd_same, Nat.le_refl _, KeepD.of (same_new nD), (fun _ z => nomatch z), (fun _ z => nomatch z)⟩ (fun j H' _ ⟨L, _, _, e3, _⟩ => SqL.of (e3 _ _ nmD em4)) ?_ ?_
      · rintro j x H5 hx ⟨L, e1, e2, e3, e4, e5⟩
        obtain ⟨y, hy, rfl⟩ : ∃ y, Lm[j]? = some y ∧ x = natV y := by
          rw [List.getElem?_map] at hx
          cases hq : Lm[j]? with
          | none => rw [hq] at hx; cases hx
          | some y => rw [hq] at hx; exact ⟨y, rfl, (Option.some.inj hx).symm⟩
        have hW5 := hW4.same (e3.same nD)
        have hym := List.mem_of_getElem? hy
        have hj := lt_of_get hy
        obtain ⟨x, hx⟩ := scp_of ((hLm y).mp hym).1
        refine ⟨rfl, rdW rfl hW5 (wk_scopes W) ⟨_, rfl, _, _, rfl, dscope hW5 hx, ?_⟩⟩
        refine ⟨_, _, 0, _, rfl, rfl, tscope hW5 hx, rfl, rdW rfl hW5 (wk_depth W) ⟨_, _, rfl, rfl, _, rfl, ?_⟩⟩
        rw [show decide (((x.lev : Nat) : Int) < ((W.c.D : Nat) : Int)) = decide (lv W y < W.c.D) from decide_eq_decide.mpr (by rw [lv_of hx]; omega)]
        have tk : Lm.take (j + 1) = Lm.take j ++ [y] := by rw [List.take_add_one, hy]; rfl
        refine ite2 (fun d => ?_) (fun d => ?_)
        · have d1 := of_decide_eq_true d
          refine ⟨_, rfl, _, e1, by rw [List.length_map]; omega, L ++ [y], by rw [upd_same, List.map_append]; rfl, by simp; omega, e3.trans KeepD.upd, fun s hs => ?_, fun s hs hl => ?_⟩
          · rcases List.mem_append.mp hs with z | z
            · exact e4 s z
            · rw [List.mem_singleton] at z
              rw [z]
              exact ⟨hym, d1⟩
          · rw [tk] at hs
            rcases List.mem_append.mp hs with z | z
            · exact List.mem_append_left _ (e5 s z hl)
            · exact List.mem_append_right _ z
        · refine ⟨L, e1, by omega, e3, e4, fun s hs hl => ?_⟩
          rw [tk] at hs
          rcases List.mem_append.mp hs with z | z
          · exact e5 s z hl
          · rw [List.mem_singleton] at z
            rw [z] at hl
            exact absurd (decide_eq_true hl) d
      · rintro H5 ⟨L, e1, e2, e3, e4, e5⟩
        rw [List.length_map, List.take_length] at e5
        rw [List.length_map] at e2
        have s5 := e3.same nD
        have h0 : 0 ∈ L := e5 0 ((hLm 0).mpr ⟨hpos, hI.sh0⟩) (by rw [hI.s.lv0]; omega)
        have hLp : 0 < (L.map natV).length := by rw [List.length_map]; exact List.length_pos_of_mem h0
        have hcl := cutV_length (L.map natV) (some (-3)) none
        rw [List.length_map] at hcl
        refine ⟨_, rfl, _, rfl, _, rfl, _, rfl, D, _, rfl, SqL.of e1, fun p np => ?_⟩
        have s6 := same_new (o := .lst (cutV (L.map natV) (some (-3)) none)) np
        have hD6 := (hD4.same s5).same s6
        refine ⟨e, M + 1, p, _, rfl, hD6, by omega, upd_same, ((hD4.same s5).nd3 np).2.1, cut3_pos hLp, by omega, fun H7 v hv hD7 K7 => ⟨szl, fun t nt => ?_⟩⟩
        obtain ⟨u, hu, rfl⟩ := List.mem_map.mp (cut3_mem hv)
        obtain ⟨u1, u2⟩ := e4 u hu
        obtain ⟨u3, u4⟩ := (hLm u).mp u1
        have s8 := same_new (o := .tup [.str "begin", natV u]) nt
        exact q _ t ((((hW4.same s5).same s6).draw hS hD6 K7).same s8) ((hD7.same s8).mono (by omega)) (((K4.trans (.of (s5.trans s6))).trans K7).trans (.of s8)) (.begin u upd_same u3 u2 u4)
    · have hwy2 : ¬ wy < 2 := fun z => c (by rw [decide_eq_true z]; rfl)
      have hLr : Lr ≠ [] := fun z => c (by rw [z]; simp)
      refine ⟨fun σ' H' => ∃ x6 x7 : Option V, σ' = [some (.ref e.d), some (.ref W.c.w), some (.ref ma), some (.ref ra), some (natV wy), none, x6, x7, none, none, none] ∧ Same H4 H', ?_, ?_⟩
      · refine ⟨_, rfl, _, _, rfl, rfl, _, rfl, ?_⟩
        refine ite2 (fun _ => ?_) (fun _ => ⟨none, none, rfl, fun _ _ z => z⟩)
        refine ⟨szl, fun z0 nz0 => ?_⟩
        have s5 := same_new (o := .lst [.int 0]) nz0
        have hz0 : (upd H4 z0 (.lst [.int 0])) z0 = some (.lst [.int 0]) := upd_same
        have em5 := s5 _ _ em4
        have hW5 := hW4.same s5
        generalize upd H4 z0 (.lst [.int 0]) = H5 at s5 hz0 em5 hW5
        refine ⟨_, rfl, ma, rfl, ⟨_, SqL.of em5⟩, fun B nB => ?_⟩
        have nmB : ma ≠ B := ne_of_none em5 nB
        refine lc_list (K := K) (a := ma) (xs := Lm.map natV) (fun j H' => H' B = some (.lst (((Lm.take j).map (undO W)).map optV)) ∧ KeepD B H5 H') ⟨upd_same, KeepD.of (same_new nB)⟩ (fun j H' _ ⟨_, e3⟩ => SqL.of (e3 _ _ nmB em5)) ?_ ?_
        · rintro j x H6 hx ⟨e1, e3⟩
          obtain ⟨y, hy, rfl⟩ : ∃ y, Lm[j]? = some y ∧ x = natV y := by
            rw [List.getElem?_map] at hx
            cases hq : Lm[j]? with
            | none => rw [hq] at hx; cases hx
            | some y => rw [hq] at hx; exact ⟨y, rfl, (Option.some.inj hx).symm⟩
          have hW6 := hW5.same (e3.same nB)
          have hj := lt_of_get hy
          obtain ⟨x, hx⟩ := scp_of ((hLm y).mp (List.mem_of_getElem? hy)).1
          refine ⟨rfl, rdW rfl hW6 (wk_scopes W) ⟨_, rfl, _, _, rfl, dscope hW6 hx, ?_⟩⟩
          have tk : Lm.take (j + 1) = Lm.take j ++ [y] := by rw [List.take_add_one, hy]; rfl
          refine ⟨_, _, 1, _, rfl, rfl, tscope hW6 hx, rfl, _, e1, by rw [List.length_map, List.length_map, List.length_take]; omega, ?_, e3.trans KeepD.upd⟩
          rw [upd_same, tk, List.map_append, List.map_append]
          show _ = some (HO.lst (_ ++ [optV (undO W y)]))
          rw [undO_of hx]
        · rintro H6 ⟨e1, e3⟩
          rw [List.length_map, List.take_length] at e1
          have s6 := e3.same nB
          refine ⟨z0, B, _, _, rfl, rfl, s6 _ _ hz0, e1, by rw [List.length_map, List.length_map]; simp only [List.length_cons, List.length_nil]; omega, fun b nb => ?_⟩
          have s7 := same_new (o := .lst ([V.int 0] ++ ((Lm.map (undO W)).map optV))) nb
          have s47 := (s5.trans s6).trans s7
          have hb : (upd H6 b (.lst ([V.int 0] ++ ((Lm.map (undO W)).map optV)))) b = some (.lst ((some 0 :: Lm.map (undO W)).map optV)) := upd_same
          generalize upd H6 b (.lst ([V.int 0] ++ ((Lm.map (undO W)).map optV))) = H7 at s7 s47 hb
          obtain ⟨hW7, hD7, K7, em7, er7⟩ := kp (s4.trans s47)
          refine ⟨fun σ' H' => ∃ (b : Addr) (bl : List (Option Nat)), σ' = [some (.ref e.d), some (.ref W.c.w), some (.ref ma), some (.ref ra), some (natV wy), none, some (.ref b), none, none, none, none] ∧ Same H4 H' ∧ H' b = some (.lst (bl.map optV)) ∧ some 0 ∈ bl ∧ (∀ s ∈ Lm, undO W s ∈ bl) ∧ (W.c.works = "wait" → ∀ x ∈ W.wks, some x.req ∈ bl), ?_, ?_⟩
          · refine rdF rfl hW7 (fl_works _) ⟨rfl, _, rfl, ?_⟩
            rw [decstr]
            have base : some 0 ∈ (some 0 :: Lm.map (undO W)) ∧ ∀ s ∈ Lm, undO W s ∈ (some 0 :: Lm.map (undO W)) := ⟨List.mem_cons_self .., fun s hs => List.mem_cons_of_mem _ (List.mem_map.mpr ⟨s, hs, rfl⟩)⟩
            refine ite2 (fun d => ?_) (fun d => ⟨b, _, rfl, s47, hb, base.1, base.2, fun z => absurd (decide_eq_true z) d⟩)
            refine ⟨_, rfl, W.c.wk, _, hW7.hwk, trivial, fun od => ?_⟩
            have hwne : W.c.w ≠ W.c.wk := ne_of hW7.hw hW7.hwk (fun z => by
              have := HO.dK.inj z
              have y := congrArg List.head? this
              cases hq : W.wks with
              | nil => rw [hq] at y; cases y
              | cons a as => rw [hq] at y; cases y)
            have hf0 : (upd H7 W.c.wk (.frz od (.dK (wokv W.wks)))) W.c.wk = some (.frz od (.dK (wokv W.wks))) := upd_same
            have hfk : ∀ a o, a ≠ W.c.wk → H7 a = some o → (upd H7 W.c.wk (.frz od (.dK (wokv W.wks)))) a = some o := fun a o h1 h2 => by
              rw [upd_ne h1]
              exact h2
            have hfn : ∀ a, (upd H7 W.c.wk (.frz od (.dK (wokv W.wks)))) a = none → H7 a = none := fun a h => by
              by_cases y : a = W.c.wk
              · rw [y, upd_same] at h
                cases h
              · rw [upd_ne y] at h
                exact h
            generalize upd H7 W.c.wk (.frz od (.dK (wokv W.wks))) = Hf at hf0 hfk hfn
            refine ⟨_, rfl, _, _, rfl, dget_of (k := .inr "works") (hfk _ _ hwne hW7.hw) (wk_works W), W.c.wk, od, _, rfl, hf0, fun D nD => ?_⟩
            have nDw : W.c.wk ≠ D := ne_of_none hf0 nD
            have hkl : (wokv W.wks).length = W.wks.length := List.length_map ..
            refine lc_vals (d := W.c.wk) (o := od) (kvs := wokv W.wks) (fun j H' => H' D = some (.lst (((W.wks.take j).map fun x => some x.req).map optV)) ∧ KeepD D Hf H') ⟨upd_same, KeepD.of (same_new nD)⟩ (fun j H' _ ⟨_, e⟩ => e _ _ nDw hf0) ?_ ?_
            · rintro j k y H8 hk ⟨k1, k2⟩
              obtain ⟨x, hx, hk2⟩ : ∃ x, W.wks[j]? = some x ∧ (k, y) = ((.inl (x.key : Int) : Key), V.ref x.ad) := by
                unfold wokv at hk
                rw [List.getElem?_map] at hk
                cases hq : W.wks[j]? with
                | none => rw [hq] at hk; cases hk
                | some x => rw [hq] at hk; exact ⟨x, rfl, (Option.some.inj hk).symm⟩
              cases hk2
              have hj := lt_of_get hx
              have hxt := hW7.st _ _ (.wrk x (List.mem_of_getElem? hx))
              have hxt2 := hfk _ _ (ne_of hxt hW7.hwk (fun z => nomatch z)) hxt
              have hxt3 := k2 _ _ (ne_of_none hxt2 nD) hxt2
              have tk : W.wks.take (j + 1) = W.wks.take j ++ [x] := by rw [List.take_add_one, hx]; rfl
              refine ⟨rfl, _, rfl, x.ad, _, 0, _, rfl, rfl, SqT.of hxt3, atI_nat (j := 0) rfl, _, k1, by rw [List.length_map, List.length_map, List.length_take]; omega, ?_, k2.trans KeepD.upd⟩
              rw [upd_same, tk, List.map_append, List.map_append]
              rfl
            · rintro H8 ⟨k1, k2⟩
              rw [hkl, List.take_length] at k1
              have hwk8 := k2 _ _ nDw hf0
              refine ⟨hwk8, ?_⟩
              have s8 : Same H7 (upd H8 W.c.wk (.dK (wokv W.wks))) := fun a o z => by
                by_cases y : a = W.c.wk
                · rw [y, upd_same]
                  rw [y, hW7.hwk] at z
                  exact z
                · rw [upd_ne y]
                  have z2 := hfk _ _ y z
                  exact k2 _ _ (ne_of_none z2 nD) z2
              have hD8 : (upd H8 W.c.wk (.dK (wokv W.wks))) D = some (.lst ((W.wks.map fun x => some x.req).map optV)) := by
                rw [upd_ne (fun z => nDw z.symm)]
                exact k1
              refine ⟨b, D, _, _, rfl, rfl, s8 _ _ hb, hD8, by rw [List.length_map, List.length_map, List.length_map, List.length_cons, List.length_map]; omega, fun b2 nb2 => ?_⟩
              have s9 := same_new (o := .lst ((some 0 :: Lm.map (undO W)).map optV ++ (W.wks.map fun x => some x.req).map optV)) nb2
              refine ⟨b2, (some 0 :: Lm.map (undO W)) ++ W.wks.map fun x => some x.req, rfl, s47.trans (s8.trans s9), by rw [List.map_append]; exact upd_same, List.mem_append_left _ base.1, fun s hs => List.mem_append_left _ (base.2 s hs), fun _ x hx => List.mem_append_right _ (List.mem_map.mpr ⟨x, hx, rfl⟩)⟩
          · rintro σ' H8 ⟨b, bl, rfl, s8, hb, c1, c2, c3⟩
            obtain ⟨hW8, hD8, K8, em8, er8⟩ := kp (s4.trans s8)
            refine ⟨_, rfl, ma, rfl, ⟨_, SqL.of em8⟩, fun D nD => ?_⟩
            have nmD : ma ≠ D := ne_of_none em8 nD
            have nbD : b ≠ D := ne_of_none hb nD
            refine lc_list (K := K) (a := ma) (xs := Lm.map natV) (fun j H' => ∃ L : List Nat, H' D = some (.lst (L.map natV)) ∧ L.length ≤ j ∧ KeepD D H8 H' ∧ ∀ s ∈ L, s ∈ Lm ∧ some s ∉ bl)
              ⟨[], upd_same, Nat.le_refl _, KeepD.of (same_new nD), (fun _ z => nomatch z)⟩ (fun j H' _ ⟨L, _, _, e3, _⟩ => SqL.of (e3 _ _ nmD em8)) ?_ ?_
            · rintro j x H9 hx ⟨L, e1, e2, e3, e4⟩
              obtain ⟨y, hy, rfl⟩ : ∃ y, Lm[j]? = some y ∧ x = natV y := by
                rw [List.getElem?_map] at hx
                cases hq : Lm[j]? with
                | none => rw [hq] at hx; cases hx
                | some y => rw [hq] at hx; exact ⟨y, rfl, (Option.some.inj hx).symm⟩
              have hym := List.mem_of_getElem? hy
              have hj := lt_of_get hy
              refine ⟨rfl, _, rfl, _, rfl, b, _, rfl, .inl (SqL.of (e3 _ _ nbD hb)), rfl, flat_opt, _, rfl, ?_⟩
              rw [inV_opt]
              by_cases d : some y ∈ bl
              · rw [decide_eq_true d]
                exact ⟨L, e1, by omega, e3, e4⟩
              · rw [decide_eq_false d]
                refine ⟨_, rfl, _, e1, by rw [List.length_map]; omega, L ++ [y], by rw [upd_same, List.map_append]; rfl, by simp; omega, e3.trans KeepD.upd, fun s hs => ?_⟩
                rcases List.mem_append.mp hs with z | z
                · exact e4 s z
                · rw [List.mem_singleton] at z
                  rw [z]
                  exact ⟨hym, d⟩
            · rintro H9 ⟨L, e1, e2, e3, e4⟩
              rw [List.length_map] at e2
              have s9 := e3.same nD
              refine ⟨_, rfl, szl, fun l nl => rd_ne0n (same_new nl _ _ e1) upd_same ⟨_, rfl, ?_⟩⟩
              have s10 := same_new (o := .lst []) nl
              have s810 := s8.trans (s9.trans s10)
              obtain ⟨hW10, hD10, K10, em10, er10⟩ := kp (s4.trans s810)
              have e10 := s10 _ _ e1
              have dD := (hD8.nd3 nD).2.1
              generalize upd H9 l (.lst []) = H10 at s10 s810 hW10 hD10 K10 em10 er10 e10
              refine ite2 (fun d => ?_) (fun _ => ⟨_, _, rfl, s810⟩)
              have hLp : 0 < L.length := by
                cases L with
                | nil => exact absurd d (by simp)
                | cons _ _ => simp
              refine ⟨_, rfl, _, rfl, e, M + 1, D, _, rfl, hD10, by omega, e10, dD, by rw [List.length_map]; exact hLp, by rw [List.length_map]; omega, fun H11 v hv hD11 K11 => ⟨szl, fun t nt => ?_⟩⟩
              obtain ⟨s, hs, rfl⟩ := List.mem_map.mp hv
              obtain ⟨u1, u2⟩ := e4 s hs
              obtain ⟨u3, u4⟩ := (hLm s).mp u1
              have s12 := same_new (o := .tup [.str "close", natV s]) nt
              refine q _ t (((hW10.draw hS hD10 K11)).same s12) ((hD11.same s12).mono (by omega)) ((K10.trans K11).trans (.of s12)) (.close s upd_same u3 (fun z => u2 (by rw [z]; exact c1)) (fun c x z1 z2 => ?_) fun z x hx => ?_)
              · rcases Decidable.em (c ∈ W.shut) with y | y
                · exact y
                · exfalso
                  have y2 := c2 c ((hLm c).mpr ⟨lt_of_get z1, y⟩)
                  rw [undO_of z1, z2] at y2
                  exact u2 y2
              · intro y
                have y2 := c3 z x hx
                rw [y] at y2
                exact u2 y2
      · rintro σ' H5 ⟨x6, x7, rfl, s5⟩
        obtain ⟨hW5, hD5, K5, em5, er5⟩ := kp (s4.trans s5)
        have kp5 : ∀ {H' : Hp}, Same H5 H' → WAt H' W ∧ DrAt H' e (M + 1) ∧ DKeep e H H' ∧ H' ma = some (.lst (Lm.map natV)) ∧ H' ra = some (.lst (Lr.map natV)) := fun {H'} z => kp ((s4.trans s5).trans z)
        refine rdAndS (t := tTest (tOp rEq (tVar 4) (tC (V.int 4)))) (u := tTest (tOp rNeE0 (tDGet (tVar 1) (tC (V.str "works"))) tDNewK)) (decide (wy = 4)) (!decide (wokv W.wks = [])) (fun R z => ⟨_, rfl, rfl, _, rfl, ?_⟩) (fun _ R z => rdW rfl hW5 (wk_works W) fun l nl => ⟨_, _, _, rfl, rfl, same_new nl _ _ hW5.hwk, upd_same, _, rfl, z _ (same_new nl)⟩) ?_
        · rw [show decide (natV wy = V.int 4) = decide (wy = 4) from natV_dec]
          exact z
        intro H6 s6
        obtain ⟨hW6, hD6, K6, em6, er6⟩ := kp5 s6
        refine ite2 (fun d => ?_) (fun _ => ?_)
        · have d1 : W.wks ≠ [] := fun z => by
            rw [Bool.and_eq_true] at d
            have d2 := d.2
            rw [z] at d2
            revert d2
            decide
          have hkeys : (wokv W.wks).map (·.1) = (W.wks.map fun x => ((x.key : Nat) : Int)).map Sum.inl := by
            unfold wokv
            rw [List.map_map, List.map_map]
            rfl
          refine ⟨_, rfl, rdW rfl hW6 (wk_works W) ⟨W.c.wk, _, _, rfl, .of hW6.hwk, hkeys, by rw [List.length_map]; omega, fun ys p hy _ np => ?_⟩⟩
          have hyl : ys.length = W.wks.length := by rw [hy.length_eq, List.length_map]
          have s7 := same_new (o := .lst (ys.map V.int)) np
          have hD7 := hD6.same s7
          refine ⟨e, M + 1, p, _, rfl, hD7, by omega, upd_same, (hD6.nd3 np).2.1, by rw [List.length_map, hyl]; exact List.length_pos_iff.mpr d1, by rw [List.length_map]; omega, fun H8 v hv hD8 K8 => ⟨szl, fun t nt => ?_⟩⟩
          obtain ⟨y, hy2, rfl⟩ := List.mem_map.mp hv
          obtain ⟨x, hx, rfl⟩ := List.mem_map.mp (hy.mem_iff.mp hy2)
          have s9 := same_new (o := .tup [.str "run", .int ((x.key : Nat) : Int)]) nt
          exact q _ t (((hW6.same s7).draw hS hD7 K8).same s9) ((hD8.same s9).mono (by omega)) (((K6.trans (.of s7)).trans K8).trans (.of s9)) (.run x upd_same hx)
        · refine rdPick [.str "use", .str "use", .str "use", .str "ask", .str "later"] rfl (fun R z => z) hD6 (by omega) (by simp) (by simp) fun H7 v hv hD7 K7 => ?_
          obtain ⟨z, rfl, hz⟩ : ∃ z : Str, v = .str z ∧ (z = "later" ∨ z = "use" ∨ z = "ask") := by
            simp only [List.mem_cons, List.not_mem_nil, or_false] at hv
            rcases hv with rfl | rfl | rfl | rfl | rfl
            · exact ⟨_, rfl, .inr (.inl rfl)⟩
            · exact ⟨_, rfl, .inr (.inl rfl)⟩
            · exact ⟨_, rfl, .inr (.inl rfl)⟩
            · exact ⟨_, rfl, .inr (.inr rfl)⟩
            · exact ⟨_, rfl, .inl rfl⟩
          have er7 := K7 _ _ r1 r2 er6
          have hW7 := hW6.draw hS hD6 K7
          have K7' := K6.trans K7
          refine ⟨_, rfl, _, rfl, _, rfl, e, M + 1 + 1, ra, _, rfl, hD7, by omega, er7, r2, by rw [List.length_map]; exact List.length_pos_iff.mpr hLr, by rw [List.length_map]; omega, fun H8 v hv hD8 K8 => ?_⟩
          obtain ⟨rq, hrq, rfl⟩ := List.mem_map.mp hv
          obtain ⟨u1, u2, u3⟩ := (hRm rq).mp hrq
          have hW8 := hW7.draw hS hD7 K8
          have K8' := K7'.trans K8
          have hkeys : (mokv W.c).map (·.1) = ((List.range W.c.n).map nm).map Sum.inr := by
            unfold mokv
            rw [List.map_map, List.map_map]
            rfl
          have n6 := hI.c.n6
          have n1 := hI.c.n1
          refine ⟨_, rfl, rdW rfl hW8 (wk_model W) ⟨W.c.mo, _, _, rfl, .of (hW8.st _ _ .mo), hkeys, by rw [List.length_map, List.length_range]; omega, fun ys p hy _ np => ?_⟩⟩
          have hyl : ys.length = W.c.n := by rw [hy.length_eq, List.length_map, List.length_range]
          have s9 := same_new (o := .lst (ys.map V.str)) np
          have hD9 := hD8.same s9
          refine ⟨e, M + 1 + 1 + 1, p, _, rfl, hD9, by omega, upd_same, (hD8.nd3 np).2.1, by rw [List.length_map]; omega, by rw [List.length_map]; omega, fun H10 v hv hD10 K10 => ⟨szl, fun t nt => ?_⟩⟩
          obtain ⟨y, hy2, rfl⟩ := List.mem_map.mp hv
          obtain ⟨m, hm, rfl⟩ := List.mem_map.mp (hy.mem_iff.mp hy2)
          have s11 := same_new (o := .tup [.str z, natV rq, .str (nm m)]) nt
          exact q _ t (((hW8.same s9).draw hS hD9 K10).same s11) ((hD10.same s11).mono (by omega)) (((K8'.trans (.of s9)).trans K10).trans (.of s11)) (.ask z rq m hz upd_same u1 u3 u2 (List.mem_range.mp hm))
end
end HL

set_option Elab.async false
set_option linter.all false
set_option maxRecDepth 100000
set_option maxHeartbeats 4000000
/-! F0: the first world -/
namespace HL
open PySem PySem.Spec PyProof.Rows L2
def lfP (l : List Prt) (i : Nat) : Int := match l[i]? with | some p => p.life | none => 0
def wnP (l : List Prt) (i : Nat) : List (Bool × Nat) := match l[i]? with | some p => p.wants | none => []
def pAP (l : List Prt) (i : Nat) : Addr := match l[i]? with | some p => p.pA | none => 0
def wAP (l : List Prt) (i : Nat) : Addr := match l[i]? with | some p => p.wA | none => 0
def qAP (l : List Prt) (i j : Nat) : Addr := match l[i]? with | some p => p.qs.getD j 0 | none => 0
structure Ini where
  h : Str
  a : Str
  l : Str
  n : Str
  k : Str
  D : Nat
  ps : List Prt
  w : Addr
  fl : Addr
  mo : Addr
  sc : Addr
  s0 : Addr
  sh : Addr
  th : Addr
  wk : Addr
  lo : Addr
  to : Addr
  fa : Addr
  li : Addr
  bk : Addr
  ba : Addr
  bC : Addr
  bD : Addr
  bT : Addr
def Ini.ws (i : Ini) : WS :=
  ⟨⟨i.h, i.a, i.l, i.n, i.k, i.D, i.ps.length, lfP i.ps, wnP i.ps, i.w, i.fl, i.mo, i.sc, i.sh, i.th, i.wk, i.to, i.fa, i.li, i.bk, i.ba, i.bC, i.bD, i.bT, pAP i.ps, wAP i.ps, qAP i.ps⟩,
    [⟨0, none, i.s0⟩], [], [], [], 0, i.lo, [], [], [], 0, []⟩
theorem mop_mokv (i : Ini) : mop i.ps = mokv i.ws.c := by
  unfold mop mopA mokv
  apply List.ext_getElem?
  intro j
  rw [List.getElem?_map, List.getElem?_map, List.getElem?_zipIdx]
  show _ = Option.map _ ((List.range i.ps.length)[j]?)
  rcases Nat.lt_or_ge j i.ps.length with z | z
  · rw [List.getElem?_range z, List.getElem?_eq_getElem z]
    show some _ = some _
    rw [Nat.zero_add]
    show some ((Sum.inr (nm j) : Key), V.ref (i.ps[j]).pA) = some (Sum.inr (nm j), V.ref (pAP i.ps j))
    unfold pAP
    rw [List.getElem?_eq_getElem z]
  · rw [List.getElem?_eq_none z, List.getElem?_eq_none (by rw [List.length_range]; exact z)]
    rfl
theorem init_winv (i : Ini) (hD1 : 1 ≤ i.D) (hD3 : i.D ≤ 3) (n1 : 1 ≤ i.ps.length) (n6 : i.ps.length ≤ 6) (hp : ∀ (j : Nat) (p : Prt), i.ps[j]? = some p → PrtOk i.D i.ps.length j p)
    (hh : i.h = "home" ∨ i.h = "now") (ha : i.a = "now" ∨ i.a = "program") (hl : i.l = "nothing" ∨ i.l = "kept") (hn : i.n = "holder" ∨ i.n = "never" ∨ i.n = "scope") (hk : i.k = "own" ∨ i.k = "same" ∨ i.k = "wait") : WInv i.ws := by
  have gp : ∀ j, j < i.ps.length → ∃ p, i.ps[j]? = some p ∧ lfP i.ps j = p.life ∧ wnP i.ps j = p.wants := fun j hj => by
    refine ⟨_, List.getElem?_eq_getElem hj, ?_, ?_⟩
    · unfold lfP
      rw [List.getElem?_eq_getElem hj]
    · unfold wnP
      rw [List.getElem?_eq_getElem hj]
  refine ⟨⟨hD1, hD3, n1, n6, fun j hj => ?_, fun j hj q hq => ?_, fun j hj => ?_, hh, ha, hl, hn, hk⟩, ⟨Nat.zero_lt_one, fun x z => ?_, fun s x z1 z2 => ?_⟩, fun s x u z1 z2 => ?_, (fun z => nomatch z), (fun s z => nomatch z), (fun j t z => nomatch z), (fun j k m ⟨_, _, _, z, _⟩ => nomatch z), (fun j t z => nomatch z), (fun j t z => nomatch z), (fun x z => nomatch z), List.nodup_nil, (fun x z => nomatch z), (fun k z => nomatch z)⟩
  · obtain ⟨p, h1, h2, h3⟩ := gp j hj
    show -1 ≤ lfP i.ps j ∧ lfP i.ps j ≤ _
    rw [h2]
    exact ⟨(hp j p h1).l1, (hp j p h1).l2⟩
  · obtain ⟨p, h1, h2, h3⟩ := gp j hj
    have hq2 : q ∈ wnP i.ps j := hq
    rw [h3] at hq2
    exact (hp j p h1).w q hq2
  · obtain ⟨p, h1, h2, h3⟩ := gp j hj
    show (wnP i.ps j).length + j + 1 ≤ _
    rw [h3]
    exact (hp j p h1).n
  · have : x = ⟨0, none, i.s0⟩ := by
      have y : ([⟨0, none, i.s0⟩] : List Scp)[0]? = some x := z
      simpa using y.symm
    rw [this]
    exact ⟨rfl, rfl⟩
  · exfalso
    have := lt_of_get z2
    have e : i.ws.scs.length = 1 := rfl
    omega
  · exfalso
    have y := lt_of_get z1
    have e : i.ws.scs.length = 1 := rfl
    have es : s = 0 := by omega
    subst es
    have y2 : ([⟨0, none, i.s0⟩] : List Scp)[0]? = some x := z1
    have : x = ⟨0, none, i.s0⟩ := by simpa using y2.symm
    rw [this] at z2
    cases z2
theorem init_wat {H : Hp} (i : Ini) (hw : H i.w = some (.dK (wkv i.ws))) (hsc : H i.sc = some (.dK [(.inl 0, .ref i.s0)])) (hs0 : H i.s0 = some (.tup [.int 0, .non])) (hsh : H i.sh = some (.lst [])) (hth : H i.th = some (.lst [])) (hwk : H i.wk = some (.dK [])) (hlo : H i.lo = some (.lst []))
    (hto : H i.to = some (.lst [])) (hfa : H i.fa = some (.lst [])) (hli : H i.li = some (.lst [])) (nd : [i.w, i.sc, i.sh, i.th, i.wk, i.lo, i.to, i.fa, i.li].Nodup) (hfl : H i.fl = some (.dK (fl6 i.h i.a i.l i.n i.k i.ba))) (nfl : i.fl ∉ [i.w, i.sc, i.sh, i.th, i.wk, i.lo, i.to, i.fa, i.li])
    (hmo : H i.mo = some (.dK (mop i.ps))) (nmo : i.mo ∉ [i.w, i.sc, i.sh, i.th, i.wk, i.lo, i.to, i.fa, i.li]) (hp : ∀ (j : Nat) (p : Prt), i.ps[j]? = some p → PrtAt H p) (hbk : H i.bk = some (.ins i.bC i.bD (bf6 i.h i.a i.l i.n i.k i.bT))) (hbT : H i.bT = some (.tup [])) : WAt H i.ws := by
  have em : muts i.ws = [i.w, i.sc, i.sh, i.th, i.wk, i.lo, i.to, i.fa, i.li] := rfl
  have hc : ∀ p ∈ cells i.ws, H p.1 = some p.2 ∧ ((∃ k, p.2 = .dK k) ∨ ∃ x, p.2 = .lst x) := by
    intro p hp
    have hp2 : p ∈ [(i.w, (.dK (wkv i.ws) : HO)), (i.sc, .dK [(.inl 0, .ref i.s0)]), (i.sh, .lst []), (i.th, .lst []), (i.wk, .dK []), (i.lo, .lst []), (i.to, .lst []), (i.fa, .lst []), (i.li, .lst [])] := hp
    simp only [List.mem_cons, List.not_mem_nil, or_false] at hp2
    rcases hp2 with rfl | rfl | rfl | rfl | rfl | rfl | rfl | rfl | rfl
    · exact ⟨hw, .inl ⟨_, rfl⟩⟩
    · exact ⟨hsc, .inl ⟨_, rfl⟩⟩
    · exact ⟨hsh, .inr ⟨_, rfl⟩⟩
    · exact ⟨hth, .inr ⟨_, rfl⟩⟩
    · exact ⟨hwk, .inl ⟨_, rfl⟩⟩
    · exact ⟨hlo, .inr ⟨_, rfl⟩⟩
    · exact ⟨hto, .inr ⟨_, rfl⟩⟩
    · exact ⟨hfa, .inr ⟨_, rfl⟩⟩
    · exact ⟨hli, .inr ⟨_, rfl⟩⟩
  have gp : ∀ j, j < i.ps.length → ∃ p, i.ps[j]? = some p ∧ lfP i.ps j = p.life ∧ wnP i.ps j = p.wants ∧ pAP i.ps j = p.pA ∧ wAP i.ps j = p.wA ∧ ∀ k, qAP i.ps j k = p.qs.getD k 0 := fun j hj => by
    refine ⟨_, List.getElem?_eq_getElem hj, ?_, ?_, ?_, ?_, fun k => ?_⟩
    · unfold lfP; rw [List.getElem?_eq_getElem hj]
    · unfold wnP; rw [List.getElem?_eq_getElem hj]
    · unfold pAP; rw [List.getElem?_eq_getElem hj]
    · unfold wAP; rw [List.getElem?_eq_getElem hj]
    · unfold qAP; rw [List.getElem?_eq_getElem hj]
  have not : ∀ {a : Addr} {o : HO}, H a = some o → (∀ k, o ≠ .dK k) → (∀ x, o ≠ .lst x) → a ∉ muts i.ws := fun {a o} h1 h2 h3 h4 => by
    obtain ⟨p, hp, rfl⟩ := List.mem_map.mp h4
    obtain ⟨k1, k2⟩ := hc p hp
    rw [h1] at k1
    have e := Option.some.inj k1
    rcases k2 with ⟨k, z⟩ | ⟨x, z⟩
    · exact h2 k (e.trans z)
    · exact h3 x (e.trans z)
  have st : ∀ a o, Stt i.ws a o → H a = some o := by
    intro a o q
    cases q with
    | fl => exact hfl
    | mo =>
      rw [← mop_mokv]
      exact hmo
    | part j hj =>
      obtain ⟨p, h1, h2, h3, h4, h5, h6⟩ := gp j hj
      show H (pAP i.ps j) = some (.tup [.int (lfP i.ps j), .ref (wAP i.ps j)])
      rw [h2, h4, h5]
      exact (hp j p h1).a
    | wts j hj =>
      obtain ⟨p, h1, h2, h3, h4, h5, h6⟩ := gp j hj
      show H (wAP i.ps j) = some (.tup ((List.range (wnP i.ps j).length).map fun k => .ref (qAP i.ps j k)))
      rw [h3, h5, (hp j p h1).w]
      congr 2
      apply List.ext_getElem?
      intro k
      rw [List.getElem?_map, List.getElem?_map]
      rcases Nat.lt_or_ge k p.wants.length with z | z
      · have z2 : k < p.qs.length := by rw [(hp j p h1).l]; exact z
        rw [List.getElem?_range z, List.getElem?_eq_getElem z2]
        show some (V.ref p.qs[k]) = some (V.ref (qAP i.ps j k))
        rw [h6, List.getD_eq_getElem?_getD, List.getElem?_eq_getElem z2]
        rfl
      · rw [List.getElem?_eq_none (by rw [(hp j p h1).l]; exact z), List.getElem?_eq_none (by rw [List.length_range]; exact z)]
        rfl
    | want j hj k q e =>
      obtain ⟨p, h1, h2, h3, h4, h5, h6⟩ := gp j hj
      have e2 : (wnP i.ps j)[k]? = some q := e
      rw [h3] at e2
      have z2 : k < p.qs.length := by rw [(hp j p h1).l]; exact lt_of_get e2
      show H (qAP i.ps j k) = _
      rw [h6, List.getD_eq_getElem?_getD, List.getElem?_eq_getElem z2]
      exact (hp j p h1).q k q _ e2 (List.getElem?_eq_getElem z2)
    | scp s hs =>
      have : s = ⟨0, none, i.s0⟩ := by
        have y : s ∈ ([⟨0, none, i.s0⟩] : List Scp) := hs
        simpa using y
      rw [this]
      exact hs0
    | hld t ht => cases ht
    | wrk x hx => cases hx
    | bk => exact hbk
    | bT => exact hbT
  refine ⟨fun p hp => (hc p hp).1, by rw [em]; exact nd, st, fun a o q => ?_⟩
  have z := st a o q
  cases q with
  | fl => rw [em]; exact nfl
  | mo => rw [em]; exact nmo
  | part j hj => exact not z (fun _ y => nomatch y) fun _ y => nomatch y
  | wts j hj => exact not z (fun _ y => nomatch y) fun _ y => nomatch y
  | want j hj k q e => exact not z (fun _ y => nomatch y) fun _ y => nomatch y
  | scp s hs => exact not z (fun _ y => nomatch y) fun _ y => nomatch y
  | hld t ht => cases ht
  | wrk x hx => cases hx
  | bk => exact not z (fun _ y => nomatch y) fun _ y => nomatch y
  | bT => exact not z (fun _ y => nomatch y) fun _ y => nomatch y
end HL

set_option Elab.async false
set_option linter.all false
set_option maxRecDepth 100000
set_option maxHeartbeats 4000000
/-! F1: the law -/
namespace HL
open PySem PySem.Spec PyProof.Rows L2
/-- between two deeds -/
structure LI (H : Hp) (e : Dr) (c : Cfg) (T : Nat) (dd : Addr) (qs : List (Nat × Addr)) (j : Nat) (W : WS) : Prop where
  cc : W.c = c
  at_ : WAt H W
  inv : WInv W
  full : Full W 0
  line : W.line = []
  bd : Bd W j
  sep : DSep e W
  dr : DrAt H e T
  dl : H dd = some (.lst (pF qs))
  dt : ∀ p ∈ qs, H p.2 = some (.tup [.str "begin", natV p.1])
  dn : dd ∉ muts W
  d1 : dd ≠ e.d
  d2 : dd ≠ e.w
  ok : BDok (pX qs) c.D
  ph : j ≤ qs.length → W.shut = [] ∧ W.scs.length = j + 1 ∧ ∀ v l, Lv (pX qs) v l → v ≤ j → lv W v = l
section
variable {H H' : Hp} {e : Dr} {c : Cfg} {T T' : Nat} {dd : Addr} {qs : List (Nat × Addr)} {j : Nat} {W W' : WS}
theorem LI.draw (h : LI H e c T dd qs j W) (k : DKeep e H H') (hD : DrAt H' e T') : LI H' e c T' dd qs j W :=
  ⟨h.cc, h.at_.draw h.sep h.dr k, h.inv, h.full, h.line, h.bd, h.sep, hD, k _ _ h.d1 h.d2 h.dl, fun p hp => k.tup h.dr (h.dt p hp), h.dn, h.d1, h.d2, h.ok, h.ph⟩
theorem LI.ans (h : LI H e c T dd qs j W) {a : Addr} (hW : WAt H' W') (hE : Ext W H W' H') (hI : WInv W') (hF : Full W' 0) (hl : W'.line = []) (hc : W'.c = W.c) (hB : Bd W' (j + 1)) (hb : ∀ u, H a = some (.tup [.str "begin", natV u]) → ∃ ad, W'.scs = (opn W u ad).scs ∧ W'.shut = W.shut)
    (hx : j < qs.length → ∃ x, (pX qs)[j]? = some x ∧ H a = some (.tup [.str "begin", natV x])) : LI H' e c T dd qs (j + 1) W' := by
  obtain ⟨s1, s2⟩ := h.sep.ext h.dr hE hc
  refine ⟨hc.trans h.cc, hW, hI, hF, hl, hB, s1, s2, hE.keep _ _ h.dn h.dl, fun p hp => hE.tup h.at_ (h.dt p hp), fun z => ?_, h.d1, h.d2, h.ok, fun hj => ?_⟩
  · rcases hE.new _ z with y | y
    · exact h.dn y
    · rw [h.dl] at y; cases y
  · obtain ⟨x, x1, x2⟩ := hx (by omega)
    obtain ⟨ad, b1, b2⟩ := hb x x2
    obtain ⟨p1, p2, p3⟩ := h.ph (by omega)
    refine ⟨by rw [b2]; exact p1, by rw [b1]; show (W.scs ++ [_]).length = _; rw [List.length_append, p2]; rfl, fun v l hv hvj => ?_⟩
    rw [lv_congr b1]
    cases hv with
    | zero => rw [opn_lv (by rw [p2]; omega)]; exact p3 0 0 .zero (by omega)
    | succ k y l' h1 h2 =>
      rcases Nat.lt_or_ge (k + 1) (j + 1) with z | z
      · rw [opn_lv (by rw [p2]; omega)]
        exact p3 _ _ (.succ k y l' h1 h2) (by omega)
      · have e1 : k = j := by omega
        subst e1
        rw [h1] at x1
        cases x1
        have e2 : k + 1 = W.scs.length := p2.symm
        rw [e2, opn_lv_new, p3 _ l' h2 (h.ok _ _ h1).1]
end
section
variable {P : Program} {w : World} {K : PySem.W.Frag} {mg : Str → Option Value} {base : Heap}
def spLaw (K : PySem.W.Frag) : Sp := fun vs H Q _ => ∃ (a : Addr) (ns : List Int), vs = [.ref a] ∧ SqL K H a (ns.map V.int) ∧ ns.length ≤ 63 ∧ ∀ H', Q (.bl true) H'
theorem ok_law (T : Txt K mg) {fd : FuncData} (F : FunD K "law" "law" (defArgs s_law) (defBody s_law) (defScope s_law) [] [] (He.ga K "law") fd) : FnOk P w K mg base CX0 40 (He.ga K "law") fd P_law (spLaw K) := by
  have G_law_begun := ok_begD (P := P) (w := w) (base := base) T
  have G_law_drawn_fields := ok_fields (P := P) (w := w) (base := base) T
  have G_law_take := ok_take (P := P) (w := w) (base := base) T
  have G_law_small_parts := ok_parts (P := P) (w := w) (base := base) T
  have G_law_world := ok_world (P := P) (w := w) (base := base) T
  have G_law_book := ok_book (P := P) (w := w) (base := base) T
  have G_law_begun_deeds := ok_begDeeds (P := P) (w := w) (base := base) T
  have G_law_answer := ok_answer (P := P) (w := w) (base := base) T
  have G_law_free_deed := ok_free (P := P) (w := w) (base := base) T
  refine F.ok sc_law (fun vs H Q E h => ?_) (fun cdv A outer s H vs Q E hr h => ⟨_, PSs.nox (pss_cons (ps_set (i := 1) sc_law.nd rfl (Or.inl rfl) (pe_callK K G_law_begun (hr.mono (by omega)) (by rfl) (pa_cons (pv 0) pa_nil)))
    (pss_cons (ps_for PassesOwn.never rfl (pi_range1 (by rfl) T.b_range (pa_cons (pe_op op_add pe_int (pe_callB (call_min2 rfl) (by rfl) T.b_min (by decide +kernel) (pa_cons (pe_callB (lenS K) (by rfl) T.b_len (by decide +kernel) (pa_cons (pv 0) pa_nil)) (pa_cons pe_int pa_nil)))) pa_nil)) (pg_name (i := 2) sc_law.nd rfl (Or.inl rfl)) (pss_cons (ps_par (i := 3) (j := 4) (by rfl) sc_law.nd rfl rfl (by decide) rfl rfl (pa_cons (pe_callK K G_law_drawn_fields (hr.mono (by omega)) (by rfl) (pa_cons (pv 1) pa_nil)) (pa_cons (pe_op op_add pe_int (pe_callK K G_law_take (hr.mono (by omega)) (by rfl) (pa_cons (pv 1) (pa_cons pe_int pa_nil)))) pa_nil)) (by rfl))
    (pss_cons (ps_set (i := 5) sc_law.nd rfl (Or.inl rfl) (pe_callK K G_law_world (hr.mono (by omega)) (by rfl) (pa_cons (pv 3) (pa_cons (pv 4) (pa_cons (pe_callK K G_law_small_parts (hr.mono (by omega)) (by rfl) (pa_cons (pv 1) (pa_cons (pv 4) (pa_cons pe_int pa_nil)))) pa_nil)))))
    (pss_cons (ps_asg (pe_tup (pa_cons (pe_callK K G_law_book (hr.mono (by omega)) (by rfl) (pa_cons (pv 3) pa_nil)) (pa_cons pe_bl (pa_cons (pe_lst pa_nil) pa_nil)))) (pg_tup rfl (pgs_cons (pg_sub (pv 5) pe_str (set_dict (hu_of hr))) (pgs_cons (pg_sub (pv 5) pe_str (set_dict (hu_of hr))) (pgs_cons (pg_sub (pv 5) pe_str (set_dict (hu_of hr))) pgs_nil)))))
    (pss_cons (ps_set (i := 6) sc_law.nd rfl (Or.inl rfl) (pe_callK K G_law_begun_deeds (hr.mono (by omega)) (by rfl) (pa_cons (pv 1) (pa_cons (pv 4) pa_nil))))
    (pss_one (ps_for PassesOwn.never rfl (pi_range1 (by rfl) T.b_range (pa_cons pe_int pa_nil)) (pg_name (i := 7) sc_law.nd rfl (Or.inl rfl)) (pss_cons (ps_expr (pe_callK K G_law_answer (hr.mono (by omega)) (by rfl) (pa_cons (pv 5) (pa_cons (pe_ifExp (pt_cmpR op_lt (pv 7) (pe_callB (lenS K) (by rfl) T.b_len (by decide +kernel) (pa_cons (pv 6) pa_nil)) (nomark _)) (pe_ix (ixL K) (pv 6) (pv 7) (fun _ _ => rfl)) (pe_callK K G_law_free_deed (hr.mono (by omega)) (by rfl) (pa_cons (pv 1) (pa_cons (pv 5) pa_nil)))) pa_nil))))
    (pss_one (ps_if (pt_not (pt_val (pe_dget (hu_of hr) (pv 5) pe_str (fun _ _ => rfl)))) (pss_one (ps_ret pe_bl)) pss_nil))))))))))
    (pss_one (ps_ret pe_bl)))), ?_⟩)
  · obtain ⟨a, ns, rfl, _⟩ := h
    rfl
  · obtain ⟨a, ns, rfl, ha, hl, q⟩ := h
    refine ⟨_, rfl, a, ns, rfl, ha, hl, fun H1 e s1 hD1 _ _ _ => ?_⟩
    have ha1 := sqL_same ha s1
    refine ⟨_, rfl, a, _, rfl, .inl ha1, ?_⟩
    rw [List.length_map]
    have sz := sizeLine_eq
    have hm : (2 : Int) + (if (5 : Int) < ((ns.length : Nat) : Int) then 5 else ((ns.length : Nat) : Int)) ≤ 7 ∧ 0 ≤ (2 : Int) + (if (5 : Int) < ((ns.length : Nat) : Int) then 5 else ((ns.length : Nat) : Int)) := by
      split <;> omega
    generalize hmm : (2 : Int) + (if (5 : Int) < ((ns.length : Nat) : Int) then 5 else ((ns.length : Nat) : Int)) = cnt at hm
    refine ⟨_, _, rfl, _, _, rfl, rfl, cnt, by rw [← hmm], by omega, by omega, ?_⟩
    refine for_range (fun j σ H' => ∃ (x2 x3 x4 x5 x6 x7 : Option V), σ = [some (.ref a), some (.ref e.d), x2, x3, x4, x5, x6, x7] ∧ DrAt H' e (1000 * j)) ⟨none, none, none, none, none, none, rfl, hD1⟩ ?_ (fun σ H' ⟨_, _, _, _, _, _, e, _⟩ => by subst e; exact q H')
    rintro tn σ H2 htn ⟨x2, x3, x4, x5, x6, x7, rfl, hD2⟩
    have htn7 : tn < 7 := by omega
    generalize hM : 1000 * tn = M at hD2
    have hM7 : M ≤ 6000 := by omega
    -- the fields, the depth
    refine ⟨_, rfl, e, M, rfl, hD2, by omega, fun H3 fl ba h an l n k nfl nba hfl hba c1 c2 c3 c4 c5 hD3 K3 => ?_⟩
    refine ⟨_, rfl, e, M + 5, 3, rfl, hD3, by omega, by omega, by omega, fun H4 d0 hd0 hD4 K4 => ⟨_, _, rfl, rfl, _, _, rfl, ?_⟩⟩
    obtain ⟨fl1, fl2, _⟩ := hD2.nd3 nfl
    obtain ⟨ba1, ba2, _⟩ := hD2.nd3 nba
    have hfl4 := K4 _ _ fl1 fl2 hfl
    have hba4 := K4 _ _ ba1 ba2 hba
    obtain ⟨D, hDe⟩ : ∃ D, D = 1 + d0 := ⟨_, rfl⟩
    have hDa : 1 ≤ D := by omega
    have hDb : D ≤ 3 := by omega
    -- the parts, the world
    refine ⟨_, rfl, _, rfl, _, rfl, _, rfl, e, M + 5 + 1, D, by rw [hDe]; rfl, hD4, by omega, hDb, fun H5 mo ps nmo hmo n1 n6 hps hD5 K5 => ?_⟩
    obtain ⟨mo1, mo2, _⟩ := hD4.nd3 nmo
    have hfl5 := K5 _ _ fl1 fl2 hfl4
    have hba5 := K5 _ _ ba1 ba2 hba4
    refine ⟨fl, mo, D, by rw [hDe]; rfl, fun H6 p sc s0 sh th wk lo to fa s6 hfr hnd hp hsc hs0 hsh hth hwk hlo hto hfa => ?_⟩
    have hD6 := hD5.same s6
    have hfl6 := s6 _ _ hfl5
    have hba6 := s6 _ _ hba5
    have hmo6 := s6 _ _ hmo
    -- the book
    refine ⟨_, rfl, fl, ba, h, an, l, n, k, rfl, hfl6, hba6, c1, c2, c3, c4, c5, fun H7 bk dx bt s7 nbk hbk hbt => ?_⟩
    refine ⟨szl, fun li nli => ⟨szl, fun tp ntp => ?_⟩⟩
    have s8 := same_new (o := .lst []) nli
    have s9 := same_new (o := .tup [V.ref bk, V.bl true, V.ref li]) ntp
    have s79 := s7.trans (s8.trans s9)
    have htp : (upd (upd H7 li (.lst [])) tp (.tup [V.ref bk, V.bl true, V.ref li])) tp = some (.tup [V.ref bk, V.bl true, V.ref li]) := upd_same
    have hli9 : (upd (upd H7 li (.lst [])) tp (.tup [V.ref bk, V.bl true, V.ref li])) li = some (.lst []) := s9 _ _ upd_same
    have hbk9 := (s8.trans s9) _ _ hbk
    have hbt9 := (s8.trans s9) _ _ hbt
    have nli6 := fresh_of s7 nli
    have hD9 := hD6.same s79
    generalize upd (upd H7 li (.lst [])) tp (.tup [V.ref bk, V.bl true, V.ref li]) = H9 at s79 htp hli9 hbk9 hbt9 hD9
    have hp9 := s79 _ _ hp
    let i : Ini := ⟨h, an, l, n, k, D, ps, p, fl, mo, sc, s0, sh, th, wk, lo, to, fa, li, bk, ba, He.ga K "Book", dx, bt⟩
    refine ⟨tp, _, rfl, SqT.of htp, rfl, _, _, rfl, ?_⟩
    refine ⟨_, rfl, p, _, rfl, DPut.k (k := .inr "book") hp9 (by show 12 < sizeLine; omega), _, _, rfl, ?_⟩
    refine ⟨_, rfl, p, _, rfl, DPut.k (k := .inr "good") upd_same (by show 13 < sizeLine; omega), _, _, rfl, ?_⟩
    refine ⟨_, rfl, p, _, rfl, DPut.k (k := .inr "line") upd_same (by show 14 < sizeLine; omega), rfl, ?_⟩
    rw [show putK (putK (putK (wk12 fl mo sc sh th wk lo to fa D) (.inr "book") (.ref bk)) (.inr "good") (.bl true)) (.inr "line") (.ref li) = wkv i.ws by kernel_rfl]
    have hip : i.w = p := rfl
    have pf := fun b (hb : b ∈ [p, sc, sh, th, wk, lo, to, fa]) => hfr b hb
    obtain ⟨pd1, pd2, pd3⟩ := hD5.nd3 (pf p (by simp))
    have hDF := ((hD9.priv (o := .dK (putK (wk12 fl mo sc sh th wk lo to fa D) (.inr "book") (.ref bk))) pd1 pd2 pd3).priv (o := .dK (putK (putK (wk12 fl mo sc sh th wk lo to fa D) (.inr "book") (.ref bk)) (.inr "good") (.bl true))) pd1 pd2 pd3).priv (o := .dK (wkv i.ws)) pd1 pd2 pd3
    have hFp : (upd (upd (upd H9 p (.dK (putK (wk12 fl mo sc sh th wk lo to fa D) (.inr "book") (.ref bk)))) p (.dK (putK (putK (wk12 fl mo sc sh th wk lo to fa D) (.inr "book") (.ref bk)) (.inr "good") (.bl true)))) p (.dK (wkv i.ws))) p = some (.dK (wkv i.ws)) := upd_same
    have hFo : ∀ b, b ≠ p → (upd (upd (upd H9 p (.dK (putK (wk12 fl mo sc sh th wk lo to fa D) (.inr "book") (.ref bk)))) p (.dK (putK (putK (wk12 fl mo sc sh th wk lo to fa D) (.inr "book") (.ref bk)) (.inr "good") (.bl true)))) p (.dK (wkv i.ws))) b = H9 b := fun b hb => by
      rw [upd_ne hb, upd_ne hb, upd_ne hb]
    generalize upd (upd (upd H9 p (.dK (putK (wk12 fl mo sc sh th wk lo to fa D) (.inr "book") (.ref bk)))) p (.dK (putK (putK (wk12 fl mo sc sh th wk lo to fa D) (.inr "book") (.ref bk)) (.inr "good") (.bl true)))) p (.dK (wkv i.ws)) = HF at hDF hFp hFo
    have old : ∀ b o, H5 b = some o → b ≠ p ∧ HF b = some o := fun b o hb => by
      have n1 : b ≠ p := ne_of_none hb (pf p (by simp))
      exact ⟨n1, by rw [hFo b n1]; exact s79 _ _ (s6 _ _ hb)⟩
    have new6 : ∀ b o, b ≠ p → H6 b = some o → HF b = some o := fun b o n1 hb => by
      rw [hFo b n1]
      exact s79 _ _ hb
    have lip : li ≠ p := fun z => by rw [z, hp] at nli6; cases nli6
    have nd0 := hnd
    simp only [List.nodup_cons, List.mem_cons, List.not_mem_nil, or_false, not_or] at nd0
    obtain ⟨⟨q1, q2, q3, q4, q5, q6, q7⟩, _⟩ := nd0
    have nli : li ∉ [p, sc, sh, th, wk, lo, to, fa] := fun z => by
      simp only [List.mem_cons, List.not_mem_nil, or_false] at z
      rcases z with z | z | z | z | z | z | z | z
      · exact lip z
      · rw [z, hsc] at nli6; cases nli6
      · rw [z, hsh] at nli6; cases nli6
      · rw [z, hth] at nli6; cases nli6
      · rw [z, hwk] at nli6; cases nli6
      · rw [z, hlo] at nli6; cases nli6
      · rw [z, hto] at nli6; cases nli6
      · rw [z, hfa] at nli6; cases nli6
    have ndA : [p, sc, sh, th, wk, lo, to, fa, li].Nodup := by
      rw [show [p, sc, sh, th, wk, lo, to, fa, li] = [p, sc, sh, th, wk, lo, to, fa] ++ [li] from rfl, List.nodup_append]
      refine ⟨hnd, by simp, fun x hx y hy z => nli ?_⟩
      rw [List.mem_singleton] at hy
      rw [← hy, ← z]
      exact hx
    have fresh : ∀ b o, H5 b = some o → b ∉ [p, sc, sh, th, wk, lo, to, fa, li] := fun b o hb z => by
      rw [show [p, sc, sh, th, wk, lo, to, fa, li] = [p, sc, sh, th, wk, lo, to, fa] ++ [li] from rfl, List.mem_append, List.mem_singleton] at z
      rcases z with z | z
      · rw [pf b z] at hb; cases hb
      · rw [z] at hb
        have := s6 _ _ hb
        rw [nli6] at this
        cases this
    have hs0p : s0 ≠ p := ne_of hs0 hp (fun z => nomatch z)
    have hbtp : bt ≠ p := ne_of hbt9 hp9 (fun z => nomatch z)
    have hbkp : bk ≠ p := ne_of hbk9 hp9 (fun z => nomatch z)
    have hWF : WAt HF i.ws := init_wat i hFp (new6 _ _ (fun z => q1 z.symm) hsc) (new6 _ _ hs0p hs0) (new6 _ _ (fun z => q2 z.symm) hsh) (new6 _ _ (fun z => q3 z.symm) hth) (new6 _ _ (fun z => q4 z.symm) hwk) (new6 _ _ (fun z => q5 z.symm) hlo) (new6 _ _ (fun z => q6 z.symm) hto) (new6 _ _ (fun z => q7 z.symm) hfa)
      (by show HF li = _; rw [hFo _ lip]; exact hli9) ndA (old _ _ hfl5).2 (fresh _ _ hfl5) (old _ _ hmo).2 (fresh _ _ hmo) (fun j pr hj => (hps j pr hj).1.mono fun b xs z => (old _ _ z).2) (by show HF bk = _; rw [hFo _ hbkp]; exact hbk9) (by show HF bt = _; rw [hFo _ hbtp]; exact hbt9)
    have hIF : WInv i.ws := init_winv i hDa hDb n1 n6 (fun j pr hj => (hps j pr hj).2) c1 c2 c3 c4 c5
    have hSF : DSep e i.ws := by
      obtain ⟨⟨r, t, us, k1, k2, _⟩, ⟨cs, k4⟩, _⟩ := hD5
      exact ⟨fresh _ _ k1, fresh _ _ k2, fresh _ _ k4, fl1, mo1⟩
    refine ⟨_, rfl, _, rfl, e, _, D, by rw [hDe]; rfl, hDF, by omega, hDa, hDb, fun H10 dd qs ndd hdd hqt hok hql hD10 K10 => ?_⟩
    obtain ⟨dd1, dd2, _⟩ := hDF.nd3 ndd
    have hLI : LI H10 e i.ws.c (M + 5 + 1 + 200 + 10) dd qs 0 i.ws := by
      refine ⟨rfl, hWF.draw hSF hDF K10, hIF, (fun _ _ z => nomatch z), rfl, ⟨Nat.zero_le _, Nat.zero_le _, Nat.zero_le _, rfl, Nat.zero_le _, by show 2 * 1 + 3 * 0 ≤ _; omega⟩, hSF, hD10, hdd, hqt, hWF.nnew ndd, dd1, dd2, hok, fun _ => ⟨rfl, rfl, fun v l hv hv0 => ?_⟩⟩
      have : v = 0 := by omega
      subst this
      cases hv
      exact hIF.s.lv0
    refine ⟨24, rfl, by omega, by omega, ?_⟩
    rw [show ((24 : Int)).toNat = 24 from rfl]
    refine for_range (fun j σ H' => ∃ (W : WS) (x2 x3 x4 x7 : Option V), σ = [some (.ref a), some (.ref e.d), x2, x3, x4, some (.ref p), some (.ref dd), x7] ∧ LI H' e i.ws.c (M + 5 + 1 + 200 + 10 + 10 * j) dd qs j W) ⟨i.ws, _, _, _, _, rfl, hLI⟩ ?_ ?_
    · rintro j σ H11 hj ⟨W, x2, x3, x4, x7, rfl, hL⟩
      rw [Int.zero_add]
      have ew : W.c.w = p := by rw [hL.cc]; rfl
      have eC : W.c.bC = He.ga K "Book" := by rw [hL.cc]; rfl
      have hqL : (pF qs).length = qs.length := List.length_map ..
      have hqX : (pX qs).length = qs.length := List.length_map ..
      refine ⟨_, rfl, _, rfl, _, rfl, _, _, rfl, .inl (SqL.of hL.dl), _, _, rfl, rfl, _, rfl, ?_⟩
      rw [hqL]
      refine ite2 (fun d => ?_) (fun d => ?_)
      · have d1 : j < qs.length := by
          have := of_decide_eq_true d
          omega
        obtain ⟨p1, p2, p3⟩ := hL.ph (by omega)
        have hqj := List.getElem?_eq_getElem d1
        generalize qs[j] = qj at hqj
        have hqm := List.mem_of_getElem? hqj
        have hxj : (pX qs)[j]? = some qj.1 := by unfold pX; rw [List.getElem?_map, hqj]; rfl
        obtain ⟨x1, l1, x2, x3⟩ := hL.ok j qj.1 hxj
        have ha0 := hL.dt qj hqm
        have hdeed : Deed H11 W qj.2 := by
          refine .begin qj.1 ha0 (by rw [p2]; omega) ?_ (by rw [p1]; exact fun z => nomatch z)
          rw [p3 _ _ x2 x1, hL.cc]
          exact x3
        refine ⟨_, rfl, _, rfl, dd, _, _, _, rfl, rfl, SqL.of hL.dl, atI_nat (j := j) (by unfold pF; rw [List.getElem?_map, hqj]; rfl), ?_⟩
        refine ⟨W, qj.2, j, by rw [ew]; rfl, eC, hL.at_, hL.inv, hL.full, hL.line, hL.bd, hj, hdeed, fun H13 W' v k1 k2 k3 k4 k5 k6 k7 k8 => ?_⟩
        have hL' := hL.ans k1 k2 k3 k4 k5 k6 k7 k8 fun _ => ⟨qj.1, hxj, ha0⟩
        have ew' : W'.c.w = p := by rw [hL'.cc]; rfl
        refine rdW (W := W') (by rw [ew']; rfl) k1 (wk_good W') ⟨_, rfl, ?_⟩
        refine ite2 (fun z => absurd z (by simp)) (fun _ => ⟨W', _, _, _, _, rfl, ?_⟩)
        exact { hL' with dr := hL'.dr.mono (by omega) }
      · have d1 : ¬ j < qs.length := fun z => d (decide_eq_true (by omega))
        have hb6 := hL.bd.b
        refine ⟨_, rfl, _, rfl, e, _, W, by rw [ew]; rfl, hL.dr, by omega, hL.at_, hL.inv, hL.sep, by omega, by omega, fun H12 ad g1 g2 g3 g4 => ?_⟩
        have hL2 := hL.draw g3 g2
        refine ⟨W, ad, j, by rw [ew]; rfl, eC, hL2.at_, hL.inv, hL.full, hL.line, hL.bd, hj, g4, fun H13 W' v k1 k2 k3 k4 k5 k6 k7 k8 => ?_⟩
        have hL' := hL2.ans k1 k2 k3 k4 k5 k6 k7 k8 fun z => absurd z d1
        have ew' : W'.c.w = p := by rw [hL'.cc]; rfl
        refine rdW (W := W') (by rw [ew']; rfl) k1 (wk_good W') ⟨_, rfl, ?_⟩
        refine ite2 (fun z => absurd z (by simp)) (fun _ => ⟨W', _, _, _, _, rfl, ?_⟩)
        exact { hL' with dr := hL'.dr.mono (by omega) }
    · rintro σ H11 ⟨W, x2, x3, x4, x7, rfl, hL⟩
      exact ⟨_, _, _, _, _, _, rfl, hL.dr.mono (by omega)⟩
end
end HL

set_option Elab.async false
set_option linter.all false
set_option maxRecDepth 100000
set_option maxHeartbeats 0
/-! HD: the head, by facts; the end -/
namespace HL
open PySem PySem.Spec PyProof.Rows L2
def d_is_one_of : He.DefD := ⟨("is_one_of", none), "is_one_of", "is_one_of", defArgs s_is_one_of, defBody s_is_one_of, defScope s_is_one_of, [], []⟩
def d_are_bars : He.DefD := ⟨("are_bars", none), "are_bars", "are_bars", defArgs s_are_bars, defBody s_are_bars, defScope s_are_bars, [], []⟩
def d_need_field : He.DefD := ⟨("need_field", none), "need_field", "need_field", defArgs s_need_field, defBody s_need_field, defScope s_need_field, [], []⟩
def d_need_book : He.DefD := ⟨("need_book", none), "need_book", "need_book", defArgs s_need_book, defBody s_need_book, defScope s_need_book, [], []⟩
def d_is_number : He.DefD := ⟨("is_number", none), "is_number", "is_number", defArgs s_is_number, defBody s_is_number, defScope s_is_number, [], []⟩
def d_bar_of : He.DefD := ⟨("bar_of", none), "bar_of", "bar_of", defArgs s_bar_of, defBody s_bar_of, defScope s_bar_of, [], []⟩
def d_need_depth : He.DefD := ⟨("need_depth", none), "need_depth", "need_depth", defArgs s_need_depth, defBody s_need_depth, defScope s_need_depth, [], []⟩
def d_need_fault : He.DefD := ⟨("need_fault", none), "need_fault", "need_fault", defArgs s_need_fault, defBody s_need_fault, defScope s_need_fault, [], []⟩
def d_is_form : He.DefD := ⟨("is_form", none), "is_form", "is_form", defArgs s_is_form, defBody s_is_form, defScope s_is_form, [], []⟩
def d_need_stand : He.DefD := ⟨("need_stand", none), "need_stand", "need_stand", defArgs s_need_stand, defBody s_need_stand, defScope s_need_stand, [], []⟩
def d_kept_in_common : He.DefD := ⟨("kept_in_common", none), "kept_in_common", "kept_in_common", defArgs s_kept_in_common, defBody s_kept_in_common, defScope s_kept_in_common, [], []⟩
def d_all_begun : He.DefD := ⟨("all_begun", none), "all_begun", "all_begun", defArgs s_all_begun, defBody s_all_begun, defScope s_all_begun, [], []⟩
def d_begun : He.DefD := ⟨("begun", none), "begun", "begun", defArgs s_begun, defBody s_begun, defScope s_begun, [], []⟩
def d_wants_of : He.DefD := ⟨("wants_of", none), "wants_of", "wants_of", defArgs s_wants_of, defBody s_wants_of, defScope s_wants_of, [], []⟩
def d_asked_from : He.DefD := ⟨("asked_from", none), "asked_from", "asked_from", defArgs s_asked_from, defBody s_asked_from, defScope s_asked_from, [], []⟩
def d_led_to : He.DefD := ⟨("led_to", none), "led_to", "led_to", defArgs s_led_to, defBody s_led_to, defScope s_led_to, [], []⟩
def d_followers : He.DefD := ⟨("followers", none), "followers", "followers", defArgs s_followers, defBody s_followers, defScope s_followers, [], []⟩
def d_follow : He.DefD := ⟨("follow", none), "follow", "follow", defArgs s_follow, defBody s_follow, defScope s_follow, [], []⟩
def d_lacked : He.DefD := ⟨("lacked", none), "lacked", "lacked", defArgs s_lacked, defBody s_lacked, defScope s_lacked, [], []⟩
def d_lacks : He.DefD := ⟨("lacks", none), "lacks", "lacks", defArgs s_lacks, defBody s_lacks, defScope s_lacks, [], []⟩
def d_is_far : He.DefD := ⟨("is_far", none), "is_far", "is_far", defArgs s_is_far, defBody s_is_far, defScope s_is_far, [], []⟩
def d_is_bad : He.DefD := ⟨("is_bad", none), "is_bad", "is_bad", defArgs s_is_bad, defBody s_is_bad, defScope s_is_bad, [], []⟩
def d_is_wrong : He.DefD := ⟨("is_wrong", none), "is_wrong", "is_wrong", defArgs s_is_wrong, defBody s_is_wrong, defScope s_is_wrong, [], []⟩
def d_law_begun : He.DefD := ⟨("_law_begun", none), "_law_begun", "_law_begun", defArgs s_law_begun, defBody s_law_begun, defScope s_law_begun, [], []⟩
def d_law_mixed : He.DefD := ⟨("_law_mixed", none), "_law_mixed", "_law_mixed", defArgs s_law_mixed, defBody s_law_mixed, defScope s_law_mixed, [], []⟩
def d_law_take : He.DefD := ⟨("_law_take", none), "_law_take", "_law_take", defArgs s_law_take, defBody s_law_take, defScope s_law_take, [], []⟩
def d_law_pick : He.DefD := ⟨("_law_pick", none), "_law_pick", "_law_pick", defArgs s_law_pick, defBody s_law_pick, defScope s_law_pick, [], []⟩
def d_law_shuffled : He.DefD := ⟨("_law_shuffled", none), "_law_shuffled", "_law_shuffled", defArgs s_law_shuffled, defBody s_law_shuffled, defScope s_law_shuffled, [], []⟩
def d_law_drawn_fields : He.DefD := ⟨("_law_drawn_fields", none), "_law_drawn_fields", "_law_drawn_fields", defArgs s_law_drawn_fields, defBody s_law_drawn_fields, defScope s_law_drawn_fields, [], []⟩
def d_law_book : He.DefD := ⟨("_law_book", none), "_law_book", "_law_book", defArgs s_law_book, defBody s_law_book, defScope s_law_book, [], []⟩
def d_law_world : He.DefD := ⟨("_law_world", none), "_law_world", "_law_world", defArgs s_law_world, defBody s_law_world, defScope s_law_world, [], []⟩
def d_law_up : He.DefD := ⟨("_law_up", none), "_law_up", "_law_up", defArgs s_law_up, defBody s_law_up, defScope s_law_up, [], []⟩
def d_law_spot : He.DefD := ⟨("_law_spot", none), "_law_spot", "_law_spot", defArgs s_law_spot, defBody s_law_spot, defScope s_law_spot, [], []⟩
def d_law_wanted : He.DefD := ⟨("_law_wanted", none), "_law_wanted", "_law_wanted", defArgs s_law_wanted, defBody s_law_wanted, defScope s_law_wanted, [], []⟩
def d_law_is_use : He.DefD := ⟨("_law_is_use", none), "_law_is_use", "_law_is_use", defArgs s_law_is_use, defBody s_law_is_use, defScope s_law_is_use, [], []⟩
def d_law_ended : He.DefD := ⟨("_law_ended", none), "_law_ended", "_law_ended", defArgs s_law_ended, defBody s_law_ended, defScope s_law_ended, [], []⟩
def d_law_closed : He.DefD := ⟨("_law_closed", none), "_law_closed", "_law_closed", defArgs s_law_closed, defBody s_law_closed, defScope s_law_closed, [], []⟩
def d_law_is_attached : He.DefD := ⟨("_law_is_attached", none), "_law_is_attached", "_law_is_attached", defArgs s_law_is_attached, defBody s_law_is_attached, defScope s_law_is_attached, [], []⟩
def d_law_done : He.DefD := ⟨("_law_done", none), "_law_done", "_law_done", defArgs s_law_done, defBody s_law_done, defScope s_law_done, [], []⟩
def d_law_opened : He.DefD := ⟨("_law_opened", none), "_law_opened", "_law_opened", defArgs s_law_opened, defBody s_law_opened, defScope s_law_opened, [], []⟩
def d_law_open_ones : He.DefD := ⟨("_law_open_ones", none), "_law_open_ones", "_law_open_ones", defArgs s_law_open_ones, defBody s_law_open_ones, defScope s_law_open_ones, [], []⟩
def d_law_requests : He.DefD := ⟨("_law_requests", none), "_law_requests", "_law_requests", defArgs s_law_requests, defBody s_law_requests, defScope s_law_requests, [], []⟩
def d_law_ran : He.DefD := ⟨("_law_ran", none), "_law_ran", "_law_ran", defArgs s_law_ran, defBody s_law_ran, defScope s_law_ran, [], []⟩
def d_law_begun_deeds : He.DefD := ⟨("_law_begun_deeds", none), "_law_begun_deeds", "_law_begun_deeds", defArgs s_law_begun_deeds, defBody s_law_begun_deeds, defScope s_law_begun_deeds, [], []⟩
def d_law_there : He.DefD := ⟨("_law_there", none), "_law_there", "_law_there", defArgs s_law_there, defBody s_law_there, defScope s_law_there, [], []⟩
def d_law_got : He.DefD := ⟨("_law_got", none), "_law_got", "_law_got", defArgs s_law_got, defBody s_law_got, defScope s_law_got, [], []⟩
def d_law_answer : He.DefD := ⟨("_law_answer", none), "_law_answer", "_law_answer", defArgs s_law_answer, defBody s_law_answer, defScope s_law_answer, [], []⟩
def d_law_small_parts : He.DefD := ⟨("_law_small_parts", none), "_law_small_parts", "_law_small_parts", defArgs s_law_small_parts, defBody s_law_small_parts, defScope s_law_small_parts, [], []⟩
def d_law_free_deed : He.DefD := ⟨("_law_free_deed", none), "_law_free_deed", "_law_free_deed", defArgs s_law_free_deed, defBody s_law_free_deed, defScope s_law_free_deed, [], []⟩
def d_law_new : He.DefD := ⟨("_law_new", none), "_law_new", "_law_new", defArgs s_law_new, defBody s_law_new, defScope s_law_new, [], []⟩
def d_law_stand_of : He.DefD := ⟨("_law_stand_of", none), "_law_stand_of", "_law_stand_of", defArgs s_law_stand_of, defBody s_law_stand_of, defScope s_law_stand_of, [], []⟩
def d_law_seen : He.DefD := ⟨("_law_seen", none), "_law_seen", "_law_seen", defArgs s_law_seen, defBody s_law_seen, defScope s_law_seen, [], []⟩
def d_law_used : He.DefD := ⟨("_law_used", none), "_law_used", "_law_used", defArgs s_law_used, defBody s_law_used, defScope s_law_used, [], []⟩
def d_law_lack_right : He.DefD := ⟨("_law_lack_right", none), "_law_lack_right", "_law_lack_right", defArgs s_law_lack_right, defBody s_law_lack_right, defScope s_law_lack_right, [], []⟩
def d_law_led_right : He.DefD := ⟨("_law_led_right", none), "_law_led_right", "_law_led_right", defArgs s_law_led_right, defBody s_law_led_right, defScope s_law_led_right, [], []⟩
def d_law : He.DefD := ⟨("law", none), "law", "law", defArgs s_law, defBody s_law, defScope s_law, [], []⟩
def d_Book_init : He.DefD := ⟨("Book", some "__init__"), "__init__", "Book.__init__", defArgs s_Book_init, defBody s_Book_init, defScope s_Book_init, [], [("held", .str "home")]⟩
def fn1 : List He.DefD := [d_is_one_of, d_are_bars, d_need_field, d_need_book, d_is_number, d_bar_of, d_need_depth, d_need_fault, d_is_form, d_need_stand, d_kept_in_common, d_all_begun, d_begun, d_wants_of, d_asked_from, d_led_to, d_followers, d_follow, d_lacked, d_lacks, d_is_far, d_is_bad, d_is_wrong, d_law_begun, d_law_mixed, d_law_take, d_law_pick, d_law_shuffled, d_law_drawn_fields, d_law_book]
def fn2 : List He.DefD := [d_law_world, d_law_up, d_law_spot, d_law_wanted, d_law_is_use, d_law_ended, d_law_closed, d_law_is_attached, d_law_done, d_law_opened, d_law_open_ones, d_law_requests, d_law_ran, d_law_begun_deeds, d_law_there, d_law_got, d_law_answer, d_law_small_parts, d_law_free_deed, d_law_new, d_law_stand_of, d_law_seen, d_law_used, d_law_lack_right, d_law_led_right, d_law, d_Book_init]
def fn : List He.DefD := fn1 ++ fn2
def fa1 : List He.Fa := [.glo "is_one_of", .glo "are_bars", .glo "need_field", .glo "need_book", .glo "is_number", .glo "bar_of", .glo "need_depth", .glo "need_fault", .glo "is_form", .glo "need_stand", .glo "kept_in_common", .glo "all_begun", .glo "begun", .glo "wants_of", .glo "asked_from", .glo "led_to", .glo "followers", .glo "follow", .glo "lacked", .glo "lacks", .glo "is_far", .glo "is_bad", .glo "is_wrong", .glo "_law_begun", .glo "_law_mixed", .glo "_law_take", .glo "_law_pick", .glo "_law_shuffled", .glo "_law_drawn_fields", .glo "_law_book"]
def fa2 : List He.Fa := [.glo "_law_world", .glo "_law_up", .glo "_law_spot", .glo "_law_wanted", .glo "_law_is_use", .glo "_law_ended", .glo "_law_closed", .glo "_law_is_attached", .glo "_law_done", .glo "_law_opened", .glo "_law_open_ones", .glo "_law_requests", .glo "_law_ran", .glo "_law_begun_deeds", .glo "_law_there", .glo "_law_got", .glo "_law_answer", .glo "_law_small_parts", .glo "_law_free_deed", .glo "_law_new", .glo "_law_stand_of", .glo "_law_seen", .glo "_law_used", .glo "_law_lack_right", .glo "_law_led_right", .glo "law", .free "isinstance", .free "all", .free "len", .free "set"]
def fa3 : List He.Fa := [.free "tuple", .free "sorted", .free "min", .free "max", .free "range", .free "abs", .free "int", .free "list", .free "str", .free "bool", .free "dict", .int "USE" (-1), .int "MOST_DEPTH" 3, .str "OWN" "own", .str "OTHER" "other", .glo "Book", .cls "Book", .mkr "Book", .noat "Book" "b_held", .noat "Book" "b_each", .noat "Book" "b_lifted", .noat "Book" "b_ends", .noat "Book" "b_bars", .noat "Book" "b_works", .glo "BARS", .glo "FAULTS", .glo "HELD", .glo "EACH", .glo "LIFTED", .glo "ENDS"]
def fa4 : List He.Fa := [.glo "WORKS", .glo "WAYS"]
def fa : List He.Fa := fa1 ++ fa2 ++ fa3 ++ fa4
def tabs : List (Str × List Str) := [("BARS", ["each-shorter", "each-use", "held-shorter", "held-use", "use-each", "use-held"]), ("FAULTS", ["ended", "left", "missing", "strayed"]), ("HELD", ["home", "now"]), ("EACH", ["now", "program"]), ("LIFTED", ["nothing", "kept"]), ("ENDS", ["holder", "never", "scope"]), ("WORKS", ["own", "same", "wait"]), ("WAYS", ["each", "held"])]
def nm1 : List Str := [("_wall" : Str), ("LifeError" : Str), ("BadBook" : Str), ("BadDepth" : Str), ("BadFault" : Str), ("BadStand" : Str), ("BARS" : Str), ("FAULTS" : Str), ("HELD" : Str), ("EACH" : Str), ("LIFTED" : Str), ("ENDS" : Str), ("WORKS" : Str), ("is_one_of" : Str), ("are_bars" : Str), ("need_field" : Str), ("Book" : Str), ("need_book" : Str), ("USE" : Str), ("is_number" : Str), ("bar_of" : Str), ("MOST_DEPTH" : Str), ("OWN" : Str), ("OTHER" : Str), ("WAYS" : Str), ("need_depth" : Str), ("need_fault" : Str), ("is_form" : Str), ("need_stand" : Str), ("kept_in_common" : Str)]
def nm2 : List Str := [("all_begun" : Str), ("begun" : Str), ("wants_of" : Str), ("asked_from" : Str), ("led_to" : Str), ("followers" : Str), ("follow" : Str), ("lacked" : Str), ("lacks" : Str), ("is_far" : Str), ("is_bad" : Str), ("is_wrong" : Str), ("_law_begun" : Str), ("_law_mixed" : Str), ("_law_take" : Str), ("_law_pick" : Str), ("_law_shuffled" : Str), ("_law_drawn_fields" : Str), ("_law_book" : Str), ("_law_world" : Str), ("_law_up" : Str), ("_law_spot" : Str), ("_law_wanted" : Str), ("_law_is_use" : Str), ("_law_ended" : Str), ("_law_closed" : Str), ("_law_is_attached" : Str), ("_law_done" : Str), ("_law_opened" : Str), ("_law_open_ones" : Str)]
def nm3 : List Str := [("_law_requests" : Str), ("_law_ran" : Str), ("_law_begun_deeds" : Str), ("_law_there" : Str), ("_law_got" : Str), ("_law_answer" : Str), ("_law_small_parts" : Str), ("_law_free_deed" : Str), ("_law_new" : Str), ("_law_stand_of" : Str), ("_law_seen" : Str), ("_law_used" : Str), ("_law_lack_right" : Str), ("_law_led_right" : Str)]
def nms : List Str := nm1 ++ (nm2 ++ nm3)
/-! ### properties -/
def pAd (K : PySem.W.Frag) (x f : Str) : Addr := match PySem.W.findIn K (.ref (He.ga K x)) f with
  | some (some (.ref p)) => p
  | _ => 0
def gAd (K : PySem.W.Frag) (x f : Str) : Addr := match PySem.W.recIn K (pAd K x f) "property" with
  | some (.ref g :: _) => g
  | _ => 0
def recB (K : PySem.W.Frag) (p : Addr) : Bool := match PySem.W.recIn K p "property" with
  | some (.ref _ :: _) => true
  | _ => false
def fnB (K : PySem.W.Frag) (g : Addr) (qual : Str) : Bool := match K.lookup g with
  | some ⟨_, _, .func fd, _⟩ => PySem.W.codeIn K fd.code qual && (He.dflB K fd.defaults [] && He.kwdB K fd.kwdefaults [])
  | _ => false
def prB (K : PySem.W.Frag) (x f qual : Str) : Bool := He.eqO (PySem.W.findIn K (.ref (He.ga K x)) f) (some (some (.ref (pAd K x f)))) && (decide (PySem.W.specialIn K (.ref (pAd K x f)) "__get__" = some (some (.builtin "property.__get__"))) && (decide (PySem.W.takesIn K (.ref (pAd K x f)) = some true) &&
  (recB K (pAd K x f) && (PySem.W.keepIn K (.ref (gAd K x f)) && fnB K (gAd K x f) qual))))
def fnAt (K : PySem.W.Frag) (a : Addr) : He.FnW := match K.lookup a with
  | some ⟨_, _, .func fd, _⟩ => some (fd.name, fd.qualname, fd.params, fd.body, fd.scope, fd.globals, fd.closure, fd.builtins)
  | _ => none
structure PropD where
  cls : Str
  name : Str
  qual : Str
  st : Stmt
def PropD.val (d : PropD) : He.FnW := some (d.name, d.qual, defArgs d.st, .stmts (defBody d.st), defScope d.st, mainGlobals, [], builtinsNs)
theorem pr_ok {K : PySem.W.Frag} {d : PropD} (h : prB K d.cls d.name d.qual = true) (e : fnAt K (gAd K d.cls d.name) = d.val) : ∃ p g fd, PropOf K (He.ga K d.cls) d.name p g ∧ FunD K d.name d.qual (defArgs d.st) (defBody d.st) (defScope d.st) [] [] g fd := by
  obtain ⟨h1, h2⟩ := He.ba h
  obtain ⟨h3, h4⟩ := He.ba h2
  obtain ⟨h5, h6⟩ := He.ba h4
  obtain ⟨h7, h8⟩ := He.ba h6
  obtain ⟨kp, h9⟩ := He.ba h8
  have hrec : ∃ rest, PySem.W.recIn K (pAd K d.cls d.name) "property" = some (.ref (gAd K d.cls d.name) :: rest) := by
    unfold recB at h7
    unfold gAd
    cases q : PySem.W.recIn K (pAd K d.cls d.name) "property" with
    | none => rw [q] at h7; cases h7
    | some l =>
      rw [q] at h7
      cases l with
      | nil => cases h7
      | cons v r =>
        cases v with
        | ref g => exact ⟨r, rfl⟩
        | _ => cases h7
  refine ⟨pAd K d.cls d.name, gAd K d.cls d.name, ?_⟩
  unfold fnAt at e
  unfold fnB at h9
  cases q : K.lookup (gAd K d.cls d.name) with
  | none =>
    rw [q] at h9
    cases h9
  | some o =>
    obtain ⟨oc, od, dt, osl⟩ := o
    rw [q] at h9 e
    cases dt with
    | func fd =>
      obtain ⟨n1, n2, n3, n4, n5, n6, n7, n8, n9, n10, n11, n12, n13, n14, n15⟩ := fd
      have e2 : (some (n1, n2, n3, n4, n5, n6, n7, n15) : He.FnW) = some (d.name, d.qual, defArgs d.st, .stmts (defBody d.st), defScope d.st, mainGlobals, [], builtinsNs) := e
      simp only [Option.some.injEq, Prod.mk.injEq] at e2
      obtain ⟨g1, g2, g3, g4, g5, g6, g7, g8⟩ := e2
      have c3 : (PySem.W.codeIn K n13 d.qual && (He.dflB K n8 [] && He.kwdB K n9 [])) = true := h9
      obtain ⟨k1, k2⟩ := He.ba c3
      obtain ⟨k3, k4⟩ := He.ba k2
      exact ⟨_, ⟨He.eqO_ok h1, of_decide_eq_true h3, of_decide_eq_true h5, hrec⟩, ⟨oc, od, n8, n9, n10, n11, n12, n13, n14, osl, by rw [g1, g2, g3, g4, g5, g6, g7, g8], q, k1, He.dflB_ok k3, He.kwdB_ok k4⟩, kp⟩
    | _ => cases h9
def insB (K : PySem.W.Frag) (C : Addr) : Bool := He.eqO (PySem.W.findIn K (.ref C) "__class__") (some (some (.builtin "object.__class__"))) && (He.eqO (PySem.W.specialIn K (.builtin "object.__class__") "__get__") (some (some (.builtin "getset_descriptor.__get__"))) &&
  (decide (PySem.W.takesIn K (.builtin "object.__class__") = some true) && (decide (PySem.W.mroIn K C (.type "object") = some true) && decide (PySem.W.kitOne K (.ref C) (.ref C) = some true))))
theorem ins_ok {K : PySem.W.Frag} {C : Addr} (c : Cls K C) (h : insB K C = true) : C8.InsC K C := by
  obtain ⟨h1, h2⟩ := He.ba h
  obtain ⟨h3, h4⟩ := He.ba h2
  obtain ⟨h5, h6⟩ := He.ba h4
  obtain ⟨h7, h8⟩ := He.ba h6
  exact ⟨c, He.eqO_ok h1, He.eqO_ok h3, of_decide_eq_true h5, of_decide_eq_true h7, of_decide_eq_true h8⟩
def prs : List PropD := [⟨"Book", "held", "Book.held", s_Book_held⟩, ⟨"Book", "each", "Book.each", s_Book_each⟩, ⟨"Book", "lifted", "Book.lifted", s_Book_lifted⟩, ⟨"Book", "ends", "Book.ends", s_Book_ends⟩, ⟨"Book", "bars", "Book.bars", s_Book_bars⟩]
abbrev AlP : Type := Bool × List He.FnW × He.AlD
def obsP (K : PySem.W.Frag) : AlP := ((prs.all fun d => prB K d.cls d.name d.qual) && ((tabs.all fun t => He.tupB K t.1 (t.2.map He.Dv.str)) && insB K (He.ga K "Book")), prs.map (fun d => fnAt K (gAd K d.cls d.name)), He.obsD fa fn K)
def valP : AlP := (true, prs.map PropD.val, He.valD fn)
def SaysP (K : PySem.W.Frag) : Prop := obsP K = valP
def obsPG (n : Nat) (g : Addr → Option Obj) : AlP := obsP (He.frG g (He.asD g n))
def hk : PySem.W.Hook where
  α := AlP
  obs := fun s => obsPG 5 s.heap.get?
  val := fun _ => valP
  says := fun _ h => ∃ K : PySem.W.Frag, K.In h ∧ SaysP K
  of := fun _ _ e => ⟨_, He.frG_in, e⟩
  keeps := fun _ _ _ ⟨K, hK, c⟩ k => ⟨K, PySem.W.Frag.In.keeps hK k, c⟩
abbrev R : PySem.W.OpenRow := PySem.W.OpenLaw.row PySem.Challenge.rw_heldlives_k35_whole_stands_of_containers
def ob (s : PySem.W.SharedT) : AlP := obsPG 5 (HandSHeadRun.getT s)
theorem ob_eq (s : PySem.W.SharedT) : ob s = hk.obs s.abs := by
  have e : HandSHeadRun.getT s = s.abs.heap.get? := funext (HandSHeadRun.getT_eq s)
  show obsPG 5 (HandSHeadRun.getT s) = obsPG 5 s.abs.heap.get?
  rw [e]
theorem run (w : World) : HandSHeadRun.RunEq R (PySem.W.view R.prog [79]) hk ob 40000 nms w := by
  intro os
  kernel_rfl
section
variable {K : PySem.W.Frag} {h : Heap} {mg : Str → Option Value}
theorem says_pr (e : SaysP K) (i : Nat) {d : PropD} (hd : prs[i]? = some d := by rfl) : ∃ p g fd, PropOf K (He.ga K d.cls) d.name p g ∧ FunD K d.name d.qual (defArgs d.st) (defBody d.st) (defScope d.st) [] [] g fd := by
  have e1 : ((prs.all fun d => prB K d.cls d.name d.qual) && ((tabs.all fun t => He.tupB K t.1 (t.2.map He.Dv.str)) && insB K (He.ga K "Book"))) = true := congrArg (fun z : AlP => z.1) e
  have e2 : prs.map (fun d => fnAt K (gAd K d.cls d.name)) = prs.map PropD.val := congrArg (fun z : AlP => z.2.1) e
  have e3 : (prs.map (fun d => fnAt K (gAd K d.cls d.name)))[i]? = (prs.map PropD.val)[i]? := by rw [e2]
  rw [List.getElem?_map, List.getElem?_map, hd] at e3
  exact pr_ok (List.all_eq_true.mp (He.ba e1).1 d (List.mem_of_getElem? hd)) (Option.some.inj e3)
theorem says_tab (e : SaysP K) (i : Nat) {t : Str × List Str} (ht : tabs[i]? = some t := by rfl) (H : Hp) : SqT K H (He.ga K t.1) ((t.2.map He.Dv.str).map (He.Dv.v K)) := by
  have e1 : ((prs.all fun d => prB K d.cls d.name d.qual) && ((tabs.all fun t => He.tupB K t.1 (t.2.map He.Dv.str)) && insB K (He.ga K "Book"))) = true := congrArg (fun z : AlP => z.1) e
  exact He.tupB_ok (List.all_eq_true.mp (He.ba (He.ba e1).2).1 t (List.mem_of_getElem? ht)) H
theorem says_ins (e : SaysP K) : insB K (He.ga K "Book") = true := by
  have e1 : ((prs.all fun d => prB K d.cls d.name d.qual) && ((tabs.all fun t => He.tupB K t.1 (t.2.map He.Dv.str)) && insB K (He.ga K "Book"))) = true := congrArg (fun z : AlP => z.1) e
  exact (He.ba (He.ba e1).2).2
theorem txt_of (X : K.In h) (G : h.Ns mainGlobals mg) (e : SaysP K) : Txt K mg := by
  have c : He.SaysD fa fn K := congrArg (fun z : AlP => z.2.2) e
  exact {
    b_isinstance := He.free_ok X G (c.fact 56 (f := .free "isinstance") rfl)
    b_all := He.free_ok X G (c.fact 57 (f := .free "all") rfl)
    b_len := He.free_ok X G (c.fact 58 (f := .free "len") rfl)
    b_set := He.free_ok X G (c.fact 59 (f := .free "set") rfl)
    b_tuple := He.free_ok X G (c.fact 60 (f := .free "tuple") rfl)
    b_sorted := He.free_ok X G (c.fact 61 (f := .free "sorted") rfl)
    b_min := He.free_ok X G (c.fact 62 (f := .free "min") rfl)
    b_max := He.free_ok X G (c.fact 63 (f := .free "max") rfl)
    b_range := He.free_ok X G (c.fact 64 (f := .free "range") rfl)
    b_abs := He.free_ok X G (c.fact 65 (f := .free "abs") rfl)
    b_int := He.free_ok X G (c.fact 66 (f := .free "int") rfl)
    b_list := He.free_ok X G (c.fact 67 (f := .free "list") rfl)
    b_str := He.free_ok X G (c.fact 68 (f := .free "str") rfl)
    b_bool := He.free_ok X G (c.fact 69 (f := .free "bool") rfl)
    b_dict := He.free_ok X G (c.fact 70 (f := .free "dict") rfl)
    cUSE := He.int_ok X G (c.fact 71 (f := .int "USE" (-1)) rfl)
    cMOST := He.int_ok X G (c.fact 72 (f := .int "MOST_DEPTH" 3) rfl)
    cOWN := He.str_ok X G (c.fact 73 (f := .str "OWN" "own") rfl)
    cOTHER := He.str_ok X G (c.fact 74 (f := .str "OTHER" "other") rfl)
    cBARS := He.glo_ok X G (c.fact 84 (f := .glo "BARS") rfl)
    tBARS := says_tab e 0
    cFAULTS := He.glo_ok X G (c.fact 85 (f := .glo "FAULTS") rfl)
    tFAULTS := says_tab e 1
    cHELD := He.glo_ok X G (c.fact 86 (f := .glo "HELD") rfl)
    tHELD := says_tab e 2
    cEACH := He.glo_ok X G (c.fact 87 (f := .glo "EACH") rfl)
    tEACH := says_tab e 3
    cLIFTED := He.glo_ok X G (c.fact 88 (f := .glo "LIFTED") rfl)
    tLIFTED := says_tab e 4
    cENDS := He.glo_ok X G (c.fact 89 (f := .glo "ENDS") rfl)
    tENDS := says_tab e 5
    cWORKS := He.glo_ok X G (c.fact 90 (f := .glo "WORKS") rfl)
    tWORKS := says_tab e 6
    cWAYS := He.glo_ok X G (c.fact 91 (f := .glo "WAYS") rfl)
    tWAYS := says_tab e 7
    cBook := He.glo_ok X G (c.fact 75 (f := .glo "Book") rfl)
    ic := ins_ok (He.cls_ok (c.fact 76 (f := .cls "Book") rfl)) (says_ins e)
    cl := He.cls_ok (c.fact 76 (f := .cls "Book") rfl)
    mkB := He.mkr_ok (c.fact 77 (f := .mkr "Book") rfl)
    na_held := He.noat_ok (c.fact 78 (f := .noat "Book" "b_held") rfl)
    na_each := He.noat_ok (c.fact 79 (f := .noat "Book" "b_each") rfl)
    na_lifted := He.noat_ok (c.fact 80 (f := .noat "Book" "b_lifted") rfl)
    na_ends := He.noat_ok (c.fact 81 (f := .noat "Book" "b_ends") rfl)
    na_bars := He.noat_ok (c.fact 82 (f := .noat "Book" "b_bars") rfl)
    na_works := He.noat_ok (c.fact 83 (f := .noat "Book" "b_works") rfl)
    pr_held := says_pr e 0 (d := ⟨"Book", "held", "Book.held", s_Book_held⟩) rfl
    pr_each := says_pr e 1 (d := ⟨"Book", "each", "Book.each", s_Book_each⟩) rfl
    pr_lifted := says_pr e 2 (d := ⟨"Book", "lifted", "Book.lifted", s_Book_lifted⟩) rfl
    pr_ends := says_pr e 3 (d := ⟨"Book", "ends", "Book.ends", s_Book_ends⟩) rfl
    pr_bars := says_pr e 4 (d := ⟨"Book", "bars", "Book.bars", s_Book_bars⟩) rfl
    f_is_one_of := ⟨He.glo_ok X G (c.fact 0 (f := .glo "is_one_of") rfl), c.def_ 0 (d := d_is_one_of) rfl⟩
    f_are_bars := ⟨He.glo_ok X G (c.fact 1 (f := .glo "are_bars") rfl), c.def_ 1 (d := d_are_bars) rfl⟩
    f_need_field := ⟨He.glo_ok X G (c.fact 2 (f := .glo "need_field") rfl), c.def_ 2 (d := d_need_field) rfl⟩
    f_need_book := ⟨He.glo_ok X G (c.fact 3 (f := .glo "need_book") rfl), c.def_ 3 (d := d_need_book) rfl⟩
    f_is_number := ⟨He.glo_ok X G (c.fact 4 (f := .glo "is_number") rfl), c.def_ 4 (d := d_is_number) rfl⟩
    f_bar_of := ⟨He.glo_ok X G (c.fact 5 (f := .glo "bar_of") rfl), c.def_ 5 (d := d_bar_of) rfl⟩
    f_need_depth := ⟨He.glo_ok X G (c.fact 6 (f := .glo "need_depth") rfl), c.def_ 6 (d := d_need_depth) rfl⟩
    f_need_fault := ⟨He.glo_ok X G (c.fact 7 (f := .glo "need_fault") rfl), c.def_ 7 (d := d_need_fault) rfl⟩
    f_is_form := ⟨He.glo_ok X G (c.fact 8 (f := .glo "is_form") rfl), c.def_ 8 (d := d_is_form) rfl⟩
    f_need_stand := ⟨He.glo_ok X G (c.fact 9 (f := .glo "need_stand") rfl), c.def_ 9 (d := d_need_stand) rfl⟩
    f_kept_in_common := ⟨He.glo_ok X G (c.fact 10 (f := .glo "kept_in_common") rfl), c.def_ 10 (d := d_kept_in_common) rfl⟩
    f_all_begun := ⟨He.glo_ok X G (c.fact 11 (f := .glo "all_begun") rfl), c.def_ 11 (d := d_all_begun) rfl⟩
    f_begun := ⟨He.glo_ok X G (c.fact 12 (f := .glo "begun") rfl), c.def_ 12 (d := d_begun) rfl⟩
    f_wants_of := ⟨He.glo_ok X G (c.fact 13 (f := .glo "wants_of") rfl), c.def_ 13 (d := d_wants_of) rfl⟩
    f_asked_from := ⟨He.glo_ok X G (c.fact 14 (f := .glo "asked_from") rfl), c.def_ 14 (d := d_asked_from) rfl⟩
    f_led_to := ⟨He.glo_ok X G (c.fact 15 (f := .glo "led_to") rfl), c.def_ 15 (d := d_led_to) rfl⟩
    f_followers := ⟨He.glo_ok X G (c.fact 16 (f := .glo "followers") rfl), c.def_ 16 (d := d_followers) rfl⟩
    f_follow := ⟨He.glo_ok X G (c.fact 17 (f := .glo "follow") rfl), c.def_ 17 (d := d_follow) rfl⟩
    f_lacked := ⟨He.glo_ok X G (c.fact 18 (f := .glo "lacked") rfl), c.def_ 18 (d := d_lacked) rfl⟩
    f_lacks := ⟨He.glo_ok X G (c.fact 19 (f := .glo "lacks") rfl), c.def_ 19 (d := d_lacks) rfl⟩
    f_is_far := ⟨He.glo_ok X G (c.fact 20 (f := .glo "is_far") rfl), c.def_ 20 (d := d_is_far) rfl⟩
    f_is_bad := ⟨He.glo_ok X G (c.fact 21 (f := .glo "is_bad") rfl), c.def_ 21 (d := d_is_bad) rfl⟩
    f_is_wrong := ⟨He.glo_ok X G (c.fact 22 (f := .glo "is_wrong") rfl), c.def_ 22 (d := d_is_wrong) rfl⟩
    f_law_begun := ⟨He.glo_ok X G (c.fact 23 (f := .glo "_law_begun") rfl), c.def_ 23 (d := d_law_begun) rfl⟩
    f_law_mixed := ⟨He.glo_ok X G (c.fact 24 (f := .glo "_law_mixed") rfl), c.def_ 24 (d := d_law_mixed) rfl⟩
    f_law_take := ⟨He.glo_ok X G (c.fact 25 (f := .glo "_law_take") rfl), c.def_ 25 (d := d_law_take) rfl⟩
    f_law_pick := ⟨He.glo_ok X G (c.fact 26 (f := .glo "_law_pick") rfl), c.def_ 26 (d := d_law_pick) rfl⟩
    f_law_shuffled := ⟨He.glo_ok X G (c.fact 27 (f := .glo "_law_shuffled") rfl), c.def_ 27 (d := d_law_shuffled) rfl⟩
    f_law_drawn_fields := ⟨He.glo_ok X G (c.fact 28 (f := .glo "_law_drawn_fields") rfl), c.def_ 28 (d := d_law_drawn_fields) rfl⟩
    f_law_book := ⟨He.glo_ok X G (c.fact 29 (f := .glo "_law_book") rfl), c.def_ 29 (d := d_law_book) rfl⟩
    f_law_world := ⟨He.glo_ok X G (c.fact 30 (f := .glo "_law_world") rfl), c.def_ 30 (d := d_law_world) rfl⟩
    f_law_up := ⟨He.glo_ok X G (c.fact 31 (f := .glo "_law_up") rfl), c.def_ 31 (d := d_law_up) rfl⟩
    f_law_spot := ⟨He.glo_ok X G (c.fact 32 (f := .glo "_law_spot") rfl), c.def_ 32 (d := d_law_spot) rfl⟩
    f_law_wanted := ⟨He.glo_ok X G (c.fact 33 (f := .glo "_law_wanted") rfl), c.def_ 33 (d := d_law_wanted) rfl⟩
    f_law_is_use := ⟨He.glo_ok X G (c.fact 34 (f := .glo "_law_is_use") rfl), c.def_ 34 (d := d_law_is_use) rfl⟩
    f_law_ended := ⟨He.glo_ok X G (c.fact 35 (f := .glo "_law_ended") rfl), c.def_ 35 (d := d_law_ended) rfl⟩
    f_law_closed := ⟨He.glo_ok X G (c.fact 36 (f := .glo "_law_closed") rfl), c.def_ 36 (d := d_law_closed) rfl⟩
    f_law_is_attached := ⟨He.glo_ok X G (c.fact 37 (f := .glo "_law_is_attached") rfl), c.def_ 37 (d := d_law_is_attached) rfl⟩
    f_law_done := ⟨He.glo_ok X G (c.fact 38 (f := .glo "_law_done") rfl), c.def_ 38 (d := d_law_done) rfl⟩
    f_law_opened := ⟨He.glo_ok X G (c.fact 39 (f := .glo "_law_opened") rfl), c.def_ 39 (d := d_law_opened) rfl⟩
    f_law_open_ones := ⟨He.glo_ok X G (c.fact 40 (f := .glo "_law_open_ones") rfl), c.def_ 40 (d := d_law_open_ones) rfl⟩
    f_law_requests := ⟨He.glo_ok X G (c.fact 41 (f := .glo "_law_requests") rfl), c.def_ 41 (d := d_law_requests) rfl⟩
    f_law_ran := ⟨He.glo_ok X G (c.fact 42 (f := .glo "_law_ran") rfl), c.def_ 42 (d := d_law_ran) rfl⟩
    f_law_begun_deeds := ⟨He.glo_ok X G (c.fact 43 (f := .glo "_law_begun_deeds") rfl), c.def_ 43 (d := d_law_begun_deeds) rfl⟩
    f_law_there := ⟨He.glo_ok X G (c.fact 44 (f := .glo "_law_there") rfl), c.def_ 44 (d := d_law_there) rfl⟩
    f_law_got := ⟨He.glo_ok X G (c.fact 45 (f := .glo "_law_got") rfl), c.def_ 45 (d := d_law_got) rfl⟩
    f_law_answer := ⟨He.glo_ok X G (c.fact 46 (f := .glo "_law_answer") rfl), c.def_ 46 (d := d_law_answer) rfl⟩
    f_law_small_parts := ⟨He.glo_ok X G (c.fact 47 (f := .glo "_law_small_parts") rfl), c.def_ 47 (d := d_law_small_parts) rfl⟩
    f_law_free_deed := ⟨He.glo_ok X G (c.fact 48 (f := .glo "_law_free_deed") rfl), c.def_ 48 (d := d_law_free_deed) rfl⟩
    f_law_new := ⟨He.glo_ok X G (c.fact 49 (f := .glo "_law_new") rfl), c.def_ 49 (d := d_law_new) rfl⟩
    f_law_stand_of := ⟨He.glo_ok X G (c.fact 50 (f := .glo "_law_stand_of") rfl), c.def_ 50 (d := d_law_stand_of) rfl⟩
    f_law_seen := ⟨He.glo_ok X G (c.fact 51 (f := .glo "_law_seen") rfl), c.def_ 51 (d := d_law_seen) rfl⟩
    f_law_used := ⟨He.glo_ok X G (c.fact 52 (f := .glo "_law_used") rfl), c.def_ 52 (d := d_law_used) rfl⟩
    f_law_lack_right := ⟨He.glo_ok X G (c.fact 53 (f := .glo "_law_lack_right") rfl), c.def_ 53 (d := d_law_lack_right) rfl⟩
    f_law_led_right := ⟨He.glo_ok X G (c.fact 54 (f := .glo "_law_led_right") rfl), c.def_ 54 (d := d_law_led_right) rfl⟩
    f_law := ⟨He.glo_ok X G (c.fact 55 (f := .glo "law") rfl), c.def_ 55 (d := d_law) rfl⟩
    fBook_init := c.def_ 56 (d := d_Book_init) rfl }
end
theorem facts {P : Program} {w : World} {K : PySem.W.Frag} {h : Heap} {mg : Str → Option Value} {f : Addr} (X : K.In h) (G : h.Ns mainGlobals mg) (hfa : mg ("law" : Str) = some (.ref f)) (e : SaysP K) :
    ∃ fd : FuncData, (∀ (s : Shared) (v : Value), BindsTo s fd ⟨[v], []⟩ [("_law_script", v)]) ∧ ∀ base : Heap, K.In base → base.Ns mainGlobals mg → FnOk P w K mg base CX0 40 f fd ["_law_script"] (spLaw K) := by
  have T := txt_of X G e
  obtain ⟨g, fd, F⟩ := T.f_law
  have e2 := hfa.symm.trans g
  cases e2
  have b := FunD.bindsA (ps := ["_law_script"]) F fun _ _ _ _ _ _ us hl => match us, hl with | [_], _ => rfl
  exact ⟨fd, fun s v => b s [v] rfl, fun base _ _ => ok_law T F⟩
end HL
open PySem PySem.W PySem.Calls PyProof.Rows
theorem PySem.Challenge.cw_heldlives_k35_whole_stands_of_containers_holds : PySem.Challenge.rw_heldlives_k35_whole_stands_of_containers.Holds := by
  w_on; o_law
  refine HandSHeadRun.head_any (r := OpenLaw.row PySem.Challenge.rw_heldlives_k35_whole_stands_of_containers) (q := view (OpenLaw.row PySem.Challenge.rw_heldlives_k35_whole_stands_of_containers).prog [79]) (H := HL.hk) (ob := HL.ob) (M := 40000) (loose := HL.nms) (d := HandSHeadRun.topDef (OpenLaw.row PySem.Challenge.rw_heldlives_k35_whole_stands_of_containers).prog 79) (kwd := []) HL.ob_eq
    (by kernel_rfl) (fun s => by kernel_rfl) HL.run (by kernel_rfl) (by kernel_rfl) (by kernel_rfl) (by rfl) (by first | assumption | decide +kernel) (by decide +kernel) ⟨rfl, rfl, rfl, rfl, rfl, by decide +kernel⟩ ?hw ?hc
  case hw => w_witness2
  case hc =>
    refine L2.walk_ofE (l := PySem.Challenge.rw_heldlives_k35_whole_stands_of_containers) (n := 63) (k := 40) (x := "_law_script") (CX := L2.CX0) rfl (by decide) (by kernel_rfl) ⟨rfl, by decide, by decide⟩ ?F (fun _ _ _ _ z => z)
    intro w mg fa h Y G hmg0
    obtain ⟨K, KX, c⟩ := Y
    have hmg : mg ("law" : PySem.Str) = some (.ref fa) := by
      have e : (HandSHeadRun.topDef (OpenLaw.row PySem.Challenge.rw_heldlives_k35_whole_stands_of_containers).prog 79).name = ("law" : PySem.Str) := by kernel_rfl
      rw [← e]
      exact hmg0
    obtain ⟨fd, hb, hF⟩ := HL.facts (P := (PySem.Challenge.rw_heldlives_k35_whole_stands_of_containers).prog) (w := w) KX G hmg c
    exact ⟨K, fd, HL.spLaw K, KX, hb, fun H a ns hl _ hS => ⟨a, ns, rfl, hS, hl, fun _ => rfl⟩, hF⟩

