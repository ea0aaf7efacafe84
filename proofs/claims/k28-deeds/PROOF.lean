import PyProof.Rows.All
import Wide.All
import OpenK.AllK
import Wide.FinOn
import HandS.ForMost
import HandS.Codes
import HandS.Defaults
import HandS.HeadHook1
import HandS.HeadHook2
import HandS.HeadHook3
import HandS.HeadHook4
import PySem.Challenge.RW_tellworld_k28_whole_deeds_hang_on_their
import KE.KStateDown
import Lean
import HandS.Head0
import HandS.Head1
import HandS.Head2
import HandS.HeadEnd
import HandS.Deep
import HandS.TupAny
import HandS.Walk
import HandS.IsInst
import HandS.Steps
import HandS.Flow
import KE.GoesMore
import KE.GoesEnum
import HandS.Sort
import HandS.Conv
import HandS.More
import KE.LtData
import PyProof.StrOps2
import KE.KDictCopyH
import PyProof.P3In
import HandS.DictComp
set_option Elab.async false
set_option linter.all false
set_option maxRecDepth 100000
set_option maxHeartbeats 4000000
/-! The text by places, the facts that the head tells. Printed by gen_base.py. -/
namespace Tw
open PySem L2
def top (i : Nat) : Stmt := PySem.Challenge.pw_tellworld_k28_whole_deeds_hang_on_their.main.body.getD i (.Pass ⟨0, 0, 0, 0⟩)
abbrev s_value_of : Stmt := top 2
abbrev s_at_of : Stmt := top 3
abbrev s_with_part : Stmt := top 5
abbrev s_holders_of : Stmt := top 8
abbrev s_room_of : Stmt := top 9
abbrev s_Thing_new : Stmt := inClass (top 14) 0
abbrev s_Thing_can_hold : Stmt := inClass (top 14) 1
abbrev s_Thing_has_mark : Stmt := inClass (top 14) 2
abbrev s_Thing_is_plainly : Stmt := inClass (top 14) 3
abbrev s_Mark_new : Stmt := inClass (top 15) 0
abbrev s_Verb_new : Stmt := inClass (top 16) 0
abbrev s_Verb_is_called : Stmt := inClass (top 16) 1
abbrev s_is_small : Stmt := top 23
abbrev s_is_name : Stmt := top 24
abbrev s_is_word : Stmt := top 25
abbrev s_form_of : Stmt := top 29
abbrev s_meant : Stmt := top 30
abbrev s_named : Stmt := top 31
abbrev s_at_boxes : Stmt := top 37
abbrev s_sorted_parts : Stmt := top 38
abbrev s_At_new : Stmt := inClass (top 40) 0
abbrev s_Has_new : Stmt := inClass (top 41) 0
abbrev s_Marked_new : Stmt := inClass (top 42) 0
abbrev s_Kind_new : Stmt := inClass (top 43) 0
abbrev s_Word_new : Stmt := inClass (top 44) 0
abbrev s_Not_new : Stmt := inClass (top 45) 0
abbrev s_may_go : Stmt := top 49
abbrev s_Move_new : Stmt := inClass (top 50) 0
abbrev s_Move_done : Stmt := inClass (top 50) 1
abbrev s_Move_reads : Stmt := inClass (top 50) 2
abbrev s_Move_change : Stmt := inClass (top 50) 3
abbrev s_Put_new : Stmt := inClass (top 51) 0
abbrev s_Put_done : Stmt := inClass (top 51) 1
abbrev s_Put_reads : Stmt := inClass (top 48) 1
abbrev s_Put_change : Stmt := inClass (top 51) 2
abbrev s_may_have : Stmt := top 52
abbrev s_Rule_new : Stmt := inClass (top 58) 0
abbrev s_common_verbs : Stmt := top 62
abbrev s_refusal : Stmt := top 63
abbrev s_hand_rules : Stmt := top 64
abbrev s_turned_rules : Stmt := top 65
abbrev s_way_rule : Stmt := top 66
abbrev s_common_rules : Stmt := top 67
abbrev s_is_from : Stmt := top 81
abbrev s_are_unlike : Stmt := top 82
abbrev s_are_words : Stmt := top 83
abbrev s_sizes_well : Stmt := top 84
abbrev s_start_well : Stmt := top 85
abbrev s_ends_in_room : Stmt := top 86
abbrev s_things_well : Stmt := top 87
abbrev s_has_all : Stmt := top 88
abbrev s_words_well : Stmt := top 89
abbrev s_marks_well : Stmt := top 90
abbrev s_way_well : Stmt := top 91
abbrev s_ways_well : Stmt := top 92
abbrev s_called : Stmt := top 94
abbrev s_verbs_well : Stmt := top 95
abbrev s_is_well_made : Stmt := top 96
abbrev s_rules_fit : Stmt := top 97
abbrev s_World_new : Stmt := inClass (top 99) 0
abbrev s_World_names : Stmt := inClass (top 99) 1
abbrev s_World_plain_names : Stmt := inClass (top 99) 2
abbrev s_World_of_kind : Stmt := inClass (top 99) 3
abbrev s_World_thing_of : Stmt := inClass (top 99) 4
abbrev s_World_you : Stmt := inClass (top 99) 5
abbrev s_World_most_of : Stmt := inClass (top 99) 7
abbrev s_World_way_words : Stmt := inClass (top 99) 13
abbrev s_World_all_verbs : Stmt := inClass (top 99) 14
abbrev s_World_verb_of : Stmt := inClass (top 99) 16
abbrev s_law_cell_at : Stmt := top 101
abbrev s_law_draws : Stmt := top 102
abbrev s_law_take : Stmt := top 103
abbrev s_law_names : Stmt := top 104
abbrev s_law_others : Stmt := top 105
abbrev s_law_spec : Stmt := top 106
abbrev s_law_ways : Stmt := top 107
abbrev s_law_world : Stmt := top 108
abbrev s_law_of : Stmt := top 109
abbrev s_law_mosts : Stmt := top 110
abbrev s_law_places : Stmt := top 111
abbrev s_law_marks : Stmt := top 112
abbrev s_law_stand : Stmt := top 113
abbrev s_law_command : Stmt := top 114
abbrev s_law_form : Stmt := top 115
abbrev s_law_place : Stmt := top 116
abbrev s_law_marked : Stmt := top 117
abbrev s_law_moved : Stmt := top 118
abbrev s_law_put : Stmt := top 119
abbrev s_law_given : Stmt := top 120
abbrev s_law_has_ring : Stmt := top 121
abbrev s_law_third : Stmt := top 122
abbrev s_law_deed : Stmt := top 123
abbrev s_law_but : Stmt := top 124
abbrev s_law_value : Stmt := top 125
abbrev s_law_alike : Stmt := top 126
abbrev s_law : Stmt := top 127
def d_value_of : He.DefD := ⟨("value_of", none), "value_of", "value_of", defArgs s_value_of, defBody s_value_of, defScope s_value_of, [], []⟩
def d_at_of : He.DefD := ⟨("at_of", none), "at_of", "at_of", defArgs s_at_of, defBody s_at_of, defScope s_at_of, [], []⟩
def d_with_part : He.DefD := ⟨("with_part", none), "with_part", "with_part", defArgs s_with_part, defBody s_with_part, defScope s_with_part, [], []⟩
def d_holders_of : He.DefD := ⟨("holders_of", none), "holders_of", "holders_of", defArgs s_holders_of, defBody s_holders_of, defScope s_holders_of, [], []⟩
def d_room_of : He.DefD := ⟨("room_of", none), "room_of", "room_of", defArgs s_room_of, defBody s_room_of, defScope s_room_of, [], []⟩
def d_Thing_new : He.DefD := ⟨("Thing", some "__init__"), "__init__", "Thing.__init__", defArgs s_Thing_new, defBody s_Thing_new, defScope s_Thing_new, [.non], []⟩
def d_Thing_can_hold : He.DefD := ⟨("Thing", some "can_hold"), "can_hold", "Thing.can_hold", defArgs s_Thing_can_hold, defBody s_Thing_can_hold, defScope s_Thing_can_hold, [], []⟩
def d_Thing_has_mark : He.DefD := ⟨("Thing", some "has_mark"), "has_mark", "Thing.has_mark", defArgs s_Thing_has_mark, defBody s_Thing_has_mark, defScope s_Thing_has_mark, [], []⟩
def d_Thing_is_plainly : He.DefD := ⟨("Thing", some "is_plainly"), "is_plainly", "Thing.is_plainly", defArgs s_Thing_is_plainly, defBody s_Thing_is_plainly, defScope s_Thing_is_plainly, [], []⟩
def d_Mark_new : He.DefD := ⟨("Mark", some "__init__"), "__init__", "Mark.__init__", defArgs s_Mark_new, defBody s_Mark_new, defScope s_Mark_new, [], []⟩
def d_Verb_new : He.DefD := ⟨("Verb", some "__init__"), "__init__", "Verb.__init__", defArgs s_Verb_new, defBody s_Verb_new, defScope s_Verb_new, [.non, .str "one", .non], []⟩
def d_Verb_is_called : He.DefD := ⟨("Verb", some "is_called"), "is_called", "Verb.is_called", defArgs s_Verb_is_called, defBody s_Verb_is_called, defScope s_Verb_is_called, [], []⟩
def d_is_small : He.DefD := ⟨("is_small", none), "is_small", "is_small", defArgs s_is_small, defBody s_is_small, defScope s_is_small, [], []⟩
def d_is_name : He.DefD := ⟨("is_name", none), "is_name", "is_name", defArgs s_is_name, defBody s_is_name, defScope s_is_name, [], []⟩
def d_is_word : He.DefD := ⟨("is_word", none), "is_word", "is_word", defArgs s_is_word, defBody s_is_word, defScope s_is_word, [], []⟩
def d_form_of : He.DefD := ⟨("form_of", none), "form_of", "form_of", defArgs s_form_of, defBody s_form_of, defScope s_form_of, [], []⟩
def d_meant : He.DefD := ⟨("meant", none), "meant", "meant", defArgs s_meant, defBody s_meant, defScope s_meant, [], []⟩
def d_named : He.DefD := ⟨("named", none), "named", "named", defArgs s_named, defBody s_named, defScope s_named, [], []⟩
def d_at_boxes : He.DefD := ⟨("at_boxes", none), "at_boxes", "at_boxes", defArgs s_at_boxes, defBody s_at_boxes, defScope s_at_boxes, [], []⟩
def d_sorted_parts : He.DefD := ⟨("sorted_parts", none), "sorted_parts", "sorted_parts", defArgs s_sorted_parts, defBody s_sorted_parts, defScope s_sorted_parts, [], []⟩
def d_At_new : He.DefD := ⟨("At", some "__init__"), "__init__", "At.__init__", defArgs s_At_new, defBody s_At_new, defScope s_At_new, [], []⟩
def d_Has_new : He.DefD := ⟨("Has", some "__init__"), "__init__", "Has.__init__", defArgs s_Has_new, defBody s_Has_new, defScope s_Has_new, [], []⟩
def d_Marked_new : He.DefD := ⟨("Marked", some "__init__"), "__init__", "Marked.__init__", defArgs s_Marked_new, defBody s_Marked_new, defScope s_Marked_new, [], []⟩
def d_Kind_new : He.DefD := ⟨("Kind", some "__init__"), "__init__", "Kind.__init__", defArgs s_Kind_new, defBody s_Kind_new, defScope s_Kind_new, [], []⟩
def d_Word_new : He.DefD := ⟨("Word", some "__init__"), "__init__", "Word.__init__", defArgs s_Word_new, defBody s_Word_new, defScope s_Word_new, [], []⟩
def d_Not_new : He.DefD := ⟨("Not", some "__init__"), "__init__", "Not.__init__", defArgs s_Not_new, defBody s_Not_new, defScope s_Not_new, [], []⟩
def d_may_go : He.DefD := ⟨("may_go", none), "may_go", "may_go", defArgs s_may_go, defBody s_may_go, defScope s_may_go, [], []⟩
def d_Move_new : He.DefD := ⟨("Move", some "__init__"), "__init__", "Move.__init__", defArgs s_Move_new, defBody s_Move_new, defScope s_Move_new, [], []⟩
def d_Move_done : He.DefD := ⟨("Move", some "done"), "done", "Move.done", defArgs s_Move_done, defBody s_Move_done, defScope s_Move_done, [], []⟩
def d_Move_reads : He.DefD := ⟨("Move", some "reads"), "reads", "Move.reads", defArgs s_Move_reads, defBody s_Move_reads, defScope s_Move_reads, [], []⟩
def d_Move_change : He.DefD := ⟨("Move", some "change"), "change", "Move.change", defArgs s_Move_change, defBody s_Move_change, defScope s_Move_change, [], []⟩
def d_Put_new : He.DefD := ⟨("Put", some "__init__"), "__init__", "Put.__init__", defArgs s_Put_new, defBody s_Put_new, defScope s_Put_new, [], []⟩
def d_Put_done : He.DefD := ⟨("Put", some "done"), "done", "Put.done", defArgs s_Put_done, defBody s_Put_done, defScope s_Put_done, [], []⟩
def d_Put_reads : He.DefD := ⟨("Put", some "reads"), "reads", "Deed.reads", defArgs s_Put_reads, defBody s_Put_reads, defScope s_Put_reads, [], []⟩
def d_Put_change : He.DefD := ⟨("Put", some "change"), "change", "Put.change", defArgs s_Put_change, defBody s_Put_change, defScope s_Put_change, [], []⟩
def d_may_have : He.DefD := ⟨("may_have", none), "may_have", "may_have", defArgs s_may_have, defBody s_may_have, defScope s_may_have, [], []⟩
def d_Rule_new : He.DefD := ⟨("Rule", some "__init__"), "__init__", "Rule.__init__", defArgs s_Rule_new, defBody s_Rule_new, defScope s_Rule_new, [.bl false], []⟩
def d_common_verbs : He.DefD := ⟨("common_verbs", none), "common_verbs", "common_verbs", defArgs s_common_verbs, defBody s_common_verbs, defScope s_common_verbs, [], []⟩
def d_refusal : He.DefD := ⟨("refusal", none), "refusal", "refusal", defArgs s_refusal, defBody s_refusal, defScope s_refusal, [], []⟩
def d_hand_rules : He.DefD := ⟨("hand_rules", none), "hand_rules", "hand_rules", defArgs s_hand_rules, defBody s_hand_rules, defScope s_hand_rules, [], []⟩
def d_turned_rules : He.DefD := ⟨("turned_rules", none), "turned_rules", "turned_rules", defArgs s_turned_rules, defBody s_turned_rules, defScope s_turned_rules, [], []⟩
def d_way_rule : He.DefD := ⟨("way_rule", none), "way_rule", "way_rule", defArgs s_way_rule, defBody s_way_rule, defScope s_way_rule, [], []⟩
def d_common_rules : He.DefD := ⟨("common_rules", none), "common_rules", "common_rules", defArgs s_common_rules, defBody s_common_rules, defScope s_common_rules, [], []⟩
def d_is_from : He.DefD := ⟨("is_from", none), "is_from", "is_from", defArgs s_is_from, defBody s_is_from, defScope s_is_from, [], []⟩
def d_are_unlike : He.DefD := ⟨("are_unlike", none), "are_unlike", "are_unlike", defArgs s_are_unlike, defBody s_are_unlike, defScope s_are_unlike, [], []⟩
def d_are_words : He.DefD := ⟨("are_words", none), "are_words", "are_words", defArgs s_are_words, defBody s_are_words, defScope s_are_words, [], []⟩
def d_sizes_well : He.DefD := ⟨("sizes_well", none), "sizes_well", "sizes_well", defArgs s_sizes_well, defBody s_sizes_well, defScope s_sizes_well, [], []⟩
def d_start_well : He.DefD := ⟨("start_well", none), "start_well", "start_well", defArgs s_start_well, defBody s_start_well, defScope s_start_well, [], []⟩
def d_ends_in_room : He.DefD := ⟨("ends_in_room", none), "ends_in_room", "ends_in_room", defArgs s_ends_in_room, defBody s_ends_in_room, defScope s_ends_in_room, [], []⟩
def d_things_well : He.DefD := ⟨("things_well", none), "things_well", "things_well", defArgs s_things_well, defBody s_things_well, defScope s_things_well, [], []⟩
def d_has_all : He.DefD := ⟨("has_all", none), "has_all", "has_all", defArgs s_has_all, defBody s_has_all, defScope s_has_all, [], []⟩
def d_words_well : He.DefD := ⟨("words_well", none), "words_well", "words_well", defArgs s_words_well, defBody s_words_well, defScope s_words_well, [], []⟩
def d_marks_well : He.DefD := ⟨("marks_well", none), "marks_well", "marks_well", defArgs s_marks_well, defBody s_marks_well, defScope s_marks_well, [], []⟩
def d_way_well : He.DefD := ⟨("way_well", none), "way_well", "way_well", defArgs s_way_well, defBody s_way_well, defScope s_way_well, [], []⟩
def d_ways_well : He.DefD := ⟨("ways_well", none), "ways_well", "ways_well", defArgs s_ways_well, defBody s_ways_well, defScope s_ways_well, [], []⟩
def d_called : He.DefD := ⟨("called", none), "called", "called", defArgs s_called, defBody s_called, defScope s_called, [], []⟩
def d_verbs_well : He.DefD := ⟨("verbs_well", none), "verbs_well", "verbs_well", defArgs s_verbs_well, defBody s_verbs_well, defScope s_verbs_well, [], []⟩
def d_is_well_made : He.DefD := ⟨("is_well_made", none), "is_well_made", "is_well_made", defArgs s_is_well_made, defBody s_is_well_made, defScope s_is_well_made, [], []⟩
def d_rules_fit : He.DefD := ⟨("rules_fit", none), "rules_fit", "rules_fit", defArgs s_rules_fit, defBody s_rules_fit, defScope s_rules_fit, [], []⟩
def d_World_new : He.DefD := ⟨("World", some "__init__"), "__init__", "World.__init__", defArgs s_World_new, defBody s_World_new, defScope s_World_new, [], []⟩
def d_World_names : He.DefD := ⟨("World", some "names"), "names", "World.names", defArgs s_World_names, defBody s_World_names, defScope s_World_names, [], []⟩
def d_World_plain_names : He.DefD := ⟨("World", some "plain_names"), "plain_names", "World.plain_names", defArgs s_World_plain_names, defBody s_World_plain_names, defScope s_World_plain_names, [], []⟩
def d_World_of_kind : He.DefD := ⟨("World", some "of_kind"), "of_kind", "World.of_kind", defArgs s_World_of_kind, defBody s_World_of_kind, defScope s_World_of_kind, [], []⟩
def d_World_thing_of : He.DefD := ⟨("World", some "thing_of"), "thing_of", "World.thing_of", defArgs s_World_thing_of, defBody s_World_thing_of, defScope s_World_thing_of, [], []⟩
def d_World_you : He.DefD := ⟨("World", some "you"), "you", "World.you", defArgs s_World_you, defBody s_World_you, defScope s_World_you, [], []⟩
def d_World_most_of : He.DefD := ⟨("World", some "most_of"), "most_of", "World.most_of", defArgs s_World_most_of, defBody s_World_most_of, defScope s_World_most_of, [], []⟩
def d_World_way_words : He.DefD := ⟨("World", some "way_words"), "way_words", "World.way_words", defArgs s_World_way_words, defBody s_World_way_words, defScope s_World_way_words, [], []⟩
def d_World_all_verbs : He.DefD := ⟨("World", some "all_verbs"), "all_verbs", "World.all_verbs", defArgs s_World_all_verbs, defBody s_World_all_verbs, defScope s_World_all_verbs, [], []⟩
def d_World_verb_of : He.DefD := ⟨("World", some "verb_of"), "verb_of", "World.verb_of", defArgs s_World_verb_of, defBody s_World_verb_of, defScope s_World_verb_of, [], []⟩
def d_law_cell_at : He.DefD := ⟨("_law_cell_at", none), "_law_cell_at", "_law_cell_at", defArgs s_law_cell_at, defBody s_law_cell_at, defScope s_law_cell_at, [], []⟩
def d_law_draws : He.DefD := ⟨("_law_draws", none), "_law_draws", "_law_draws", defArgs s_law_draws, defBody s_law_draws, defScope s_law_draws, [], []⟩
def d_law_take : He.DefD := ⟨("_law_take", none), "_law_take", "_law_take", defArgs s_law_take, defBody s_law_take, defScope s_law_take, [], []⟩
def d_law_names : He.DefD := ⟨("_law_names", none), "_law_names", "_law_names", defArgs s_law_names, defBody s_law_names, defScope s_law_names, [], []⟩
def d_law_others : He.DefD := ⟨("_law_others", none), "_law_others", "_law_others", defArgs s_law_others, defBody s_law_others, defScope s_law_others, [], []⟩
def d_law_spec : He.DefD := ⟨("_law_spec", none), "_law_spec", "_law_spec", defArgs s_law_spec, defBody s_law_spec, defScope s_law_spec, [], []⟩
def d_law_ways : He.DefD := ⟨("_law_ways", none), "_law_ways", "_law_ways", defArgs s_law_ways, defBody s_law_ways, defScope s_law_ways, [], []⟩
def d_law_world : He.DefD := ⟨("_law_world", none), "_law_world", "_law_world", defArgs s_law_world, defBody s_law_world, defScope s_law_world, [], []⟩
def d_law_of : He.DefD := ⟨("_law_of", none), "_law_of", "_law_of", defArgs s_law_of, defBody s_law_of, defScope s_law_of, [], []⟩
def d_law_mosts : He.DefD := ⟨("_law_mosts", none), "_law_mosts", "_law_mosts", defArgs s_law_mosts, defBody s_law_mosts, defScope s_law_mosts, [], []⟩
def d_law_places : He.DefD := ⟨("_law_places", none), "_law_places", "_law_places", defArgs s_law_places, defBody s_law_places, defScope s_law_places, [], []⟩
def d_law_marks : He.DefD := ⟨("_law_marks", none), "_law_marks", "_law_marks", defArgs s_law_marks, defBody s_law_marks, defScope s_law_marks, [], []⟩
def d_law_stand : He.DefD := ⟨("_law_stand", none), "_law_stand", "_law_stand", defArgs s_law_stand, defBody s_law_stand, defScope s_law_stand, [], []⟩
def d_law_command : He.DefD := ⟨("_law_command", none), "_law_command", "_law_command", defArgs s_law_command, defBody s_law_command, defScope s_law_command, [], []⟩
def d_law_form : He.DefD := ⟨("_law_form", none), "_law_form", "_law_form", defArgs s_law_form, defBody s_law_form, defScope s_law_form, [], []⟩
def d_law_place : He.DefD := ⟨("_law_place", none), "_law_place", "_law_place", defArgs s_law_place, defBody s_law_place, defScope s_law_place, [], []⟩
def d_law_marked : He.DefD := ⟨("_law_marked", none), "_law_marked", "_law_marked", defArgs s_law_marked, defBody s_law_marked, defScope s_law_marked, [], []⟩
def d_law_moved : He.DefD := ⟨("_law_moved", none), "_law_moved", "_law_moved", defArgs s_law_moved, defBody s_law_moved, defScope s_law_moved, [], []⟩
def d_law_put : He.DefD := ⟨("_law_put", none), "_law_put", "_law_put", defArgs s_law_put, defBody s_law_put, defScope s_law_put, [], []⟩
def d_law_given : He.DefD := ⟨("_law_given", none), "_law_given", "_law_given", defArgs s_law_given, defBody s_law_given, defScope s_law_given, [], []⟩
def d_law_has_ring : He.DefD := ⟨("_law_has_ring", none), "_law_has_ring", "_law_has_ring", defArgs s_law_has_ring, defBody s_law_has_ring, defScope s_law_has_ring, [], []⟩
def d_law_third : He.DefD := ⟨("_law_third", none), "_law_third", "_law_third", defArgs s_law_third, defBody s_law_third, defScope s_law_third, [], []⟩
def d_law_deed : He.DefD := ⟨("_law_deed", none), "_law_deed", "_law_deed", defArgs s_law_deed, defBody s_law_deed, defScope s_law_deed, [], []⟩
def d_law_but : He.DefD := ⟨("_law_but", none), "_law_but", "_law_but", defArgs s_law_but, defBody s_law_but, defScope s_law_but, [], []⟩
def d_law_value : He.DefD := ⟨("_law_value", none), "_law_value", "_law_value", defArgs s_law_value, defBody s_law_value, defScope s_law_value, [], []⟩
def d_law_alike : He.DefD := ⟨("_law_alike", none), "_law_alike", "_law_alike", defArgs s_law_alike, defBody s_law_alike, defScope s_law_alike, [], []⟩
def d_law : He.DefD := ⟨("law", none), "law", "law", defArgs s_law, defBody s_law, defScope s_law, [], []⟩
def fn : List He.DefD := [d_value_of, d_at_of, d_with_part, d_holders_of, d_room_of, d_Thing_new, d_Thing_can_hold, d_Thing_has_mark, d_Thing_is_plainly, d_Mark_new, d_Verb_new, d_Verb_is_called, d_is_small, d_is_name, d_is_word, d_form_of, d_meant, d_named, d_at_boxes, d_sorted_parts, d_At_new, d_Has_new, d_Marked_new, d_Kind_new, d_Word_new, d_Not_new, d_may_go, d_Move_new, d_Move_done, d_Move_reads, d_Move_change, d_Put_new, d_Put_done, d_Put_reads, d_Put_change, d_may_have, d_Rule_new, d_common_verbs, d_refusal, d_hand_rules, d_turned_rules, d_way_rule, d_common_rules, d_is_from, d_are_unlike, d_are_words, d_sizes_well, d_start_well, d_ends_in_room, d_things_well, d_has_all, d_words_well, d_marks_well, d_way_well, d_ways_well, d_called, d_verbs_well, d_is_well_made, d_rules_fit, d_World_new, d_World_names, d_World_plain_names, d_World_of_kind, d_World_thing_of, d_World_you, d_World_most_of, d_World_way_words, d_World_all_verbs, d_World_verb_of, d_law_cell_at, d_law_draws, d_law_take, d_law_names, d_law_others, d_law_spec, d_law_ways, d_law_world, d_law_of, d_law_mosts, d_law_places, d_law_marks, d_law_stand, d_law_command, d_law_form, d_law_place, d_law_marked, d_law_moved, d_law_put, d_law_given, d_law_has_ring, d_law_third, d_law_deed, d_law_but, d_law_value, d_law_alike, d_law]
def fa : List He.Fa := [.glo "value_of", .glo "at_of", .glo "with_part", .glo "holders_of", .glo "room_of", .glo "is_small", .glo "is_name", .glo "is_word", .glo "form_of", .glo "meant", .glo "named", .glo "at_boxes", .glo "sorted_parts", .glo "may_go", .glo "may_have", .glo "common_verbs", .glo "refusal", .glo "hand_rules", .glo "turned_rules", .glo "way_rule", .glo "common_rules", .glo "is_from", .glo "are_unlike", .glo "are_words", .glo "sizes_well", .glo "start_well", .glo "ends_in_room", .glo "things_well", .glo "has_all", .glo "words_well", .glo "marks_well", .glo "way_well", .glo "ways_well", .glo "called", .glo "verbs_well", .glo "is_well_made", .glo "rules_fit", .glo "_law_cell_at", .glo "_law_draws", .glo "_law_take", .glo "_law_names", .glo "_law_others", .glo "_law_spec", .glo "_law_ways", .glo "_law_world", .glo "_law_of", .glo "_law_mosts", .glo "_law_places", .glo "_law_marks", .glo "_law_stand", .glo "_law_command", .glo "_law_form", .glo "_law_place", .glo "_law_marked", .glo "_law_moved", .glo "_law_put", .glo "_law_given", .glo "_law_has_ring", .glo "_law_third", .glo "_law_deed", .glo "_law_but", .glo "_law_value", .glo "_law_alike", .glo "law", .glo "Thing", .glo "Mark", .glo "Verb", .glo "At", .glo "Has", .glo "Marked", .glo "Kind", .glo "Word", .glo "Not", .glo "Move", .glo "Put", .glo "Rule", .glo "World", .free "isinstance", .free "int", .free "bool", .free "str", .free "tuple", .free "len", .free "all", .free "enumerate", .free "list", .free "sorted", .free "range", .free "zip", .int "MOST_NAME" 8, .int "MOST_WORD" 12, .int "MOST_ROOMS" 5, .int "MOST_THINGS" 7, .int "MOST_MARKS" 4, .int "MOST_WAYS" 10, .int "MOST_VERBS" 6, .int "MOST_RULES" 20, .int "MOST_WORDS" 4, .int "MOST_NUMBER" 3, .str "LETTERS" "abcdefghijklmnopqrstuvwxyz", .cls "Thing", .cls "Mark", .cls "Verb", .cls "At", .cls "Has", .cls "Marked", .cls "Kind", .cls "Word", .cls "Not", .cls "Move", .cls "Put", .cls "Rule", .cls "World", .mkr "Thing", .mkr "Mark", .mkr "Verb", .mkr "At", .mkr "Has", .mkr "Marked", .mkr "Kind", .mkr "Word", .mkr "Not", .mkr "Move", .mkr "Put", .mkr "Rule", .mkr "World", .noat "Thing" "name", .noat "Thing" "words", .noat "Thing" "kind", .noat "Thing" "start", .noat "Mark" "name", .noat "Mark" "start", .noat "Mark" "most", .noat "Verb" "name", .noat "Verb" "others", .noat "Verb" "form", .noat "Verb" "joining", .noat "At" "term", .noat "At" "place", .noat "Has" "term", .noat "Marked" "term", .noat "Marked" "value", .noat "Kind" "term", .noat "Kind" "kind", .noat "Word" "word", .noat "Not" "inner", .noat "Move" "term", .noat "Move" "place", .noat "Put" "term", .noat "Put" "value", .noat "Rule" "verb", .noat "Rule" "tests", .noat "Rule" "deeds", .noat "Rule" "text", .noat "Rule" "refuses", .noat "World" "things", .noat "World" "marks", .noat "World" "dark", .noat "World" "ways", .noat "World" "verbs", .noat "World" "laid_rules", .noat "World" "whole_verbs", .noat "World" "whole_rules", .meth "Thing" "can_hold", .meth "Thing" "has_mark", .meth "Thing" "is_plainly", .meth "Verb" "is_called", .meth "Move" "done", .meth "Move" "reads", .meth "Move" "change", .meth "Put" "done", .meth "Put" "reads", .meth "Put" "change", .meth "World" "names", .meth "World" "plain_names", .meth "World" "of_kind", .meth "World" "thing_of", .meth "World" "you", .meth "World" "most_of", .meth "World" "way_words", .meth "World" "all_verbs", .meth "World" "verb_of", .glo "KINDS", .glo "LEFT_OUT", .glo "BARRED", .glo "TAKEN"]
def ex (K : PySem.W.Frag) : Bool := He.tupB K "KINDS" [.str "room", .str "plain", .str "fixed", .str "box", .str "lamp", .str "you"] && (He.tupB K "LEFT_OUT" [.str "the", .str "a"] && (He.tupB K "BARRED" [.str "it", .str "other", .str "here", .str "the", .str "a", .str "undo", .str "restart"] && (He.tupB K "TAKEN" [.str "undo", .str "restart"])))
/-- what the walks lean on -/
structure T (K : PySem.W.Frag) (mg : Str → Option Value) : Prop where
  d : He.SaysD fa fn K
  x : ex K = true
  h : ∃ h : Heap, K.In h ∧ h.Ns mainGlobals mg
section
variable {K : PySem.W.Frag} {mg : Str → Option Value}
theorem T.glo (t : T K mg) (i : Nat) {y : Str} (e : fa[i]? = some (.glo y) := by rfl) : mg y = some (.ref (He.ga K y)) := by
  obtain ⟨h, X, G⟩ := t.h
  exact He.glo_ok X G (t.d.fact i e)
theorem T.fre (t : T K mg) (i : Nat) {y : Str} (e : fa[i]? = some (.free y) := by rfl) : mg y = none := by
  obtain ⟨h, X, G⟩ := t.h
  exact He.free_ok X G (t.d.fact i e)
theorem T.int (t : T K mg) (i : Nat) {y : Str} {n : Int} (e : fa[i]? = some (.int y n) := by rfl) : ∃ u, mg y = some u ∧ RelV (.int n) u := by
  obtain ⟨h, X, G⟩ := t.h
  obtain ⟨tk, e2⟩ := He.int_ok X G (t.d.fact i e)
  exact ⟨_, e2, tk, rfl⟩
theorem T.str (t : T K mg) (i : Nat) {y n : Str} (e : fa[i]? = some (.str y n) := by rfl) : ∃ u, mg y = some u ∧ RelV (.str n) u := by
  obtain ⟨h, X, G⟩ := t.h
  obtain ⟨tk, e2⟩ := He.str_ok X G (t.d.fact i e)
  exact ⟨_, e2, tk, rfl⟩
theorem T.gre (t : T K mg) (i : Nat) {y : Str} (e : fa[i]? = some (.glo y) := by rfl) : ∃ u, mg y = some u ∧ RelV (.ref (He.ga K y)) u := ⟨_, t.glo i e, rfl⟩
theorem T.g_value_of (t : T K mg) : mg "value_of" = some (.ref (He.ga K "value_of")) := t.glo 0
theorem T.g_at_of (t : T K mg) : mg "at_of" = some (.ref (He.ga K "at_of")) := t.glo 1
theorem T.g_with_part (t : T K mg) : mg "with_part" = some (.ref (He.ga K "with_part")) := t.glo 2
theorem T.g_holders_of (t : T K mg) : mg "holders_of" = some (.ref (He.ga K "holders_of")) := t.glo 3
theorem T.g_room_of (t : T K mg) : mg "room_of" = some (.ref (He.ga K "room_of")) := t.glo 4
theorem T.g_is_small (t : T K mg) : mg "is_small" = some (.ref (He.ga K "is_small")) := t.glo 5
theorem T.g_is_name (t : T K mg) : mg "is_name" = some (.ref (He.ga K "is_name")) := t.glo 6
theorem T.g_is_word (t : T K mg) : mg "is_word" = some (.ref (He.ga K "is_word")) := t.glo 7
theorem T.g_form_of (t : T K mg) : mg "form_of" = some (.ref (He.ga K "form_of")) := t.glo 8
theorem T.g_meant (t : T K mg) : mg "meant" = some (.ref (He.ga K "meant")) := t.glo 9
theorem T.g_named (t : T K mg) : mg "named" = some (.ref (He.ga K "named")) := t.glo 10
theorem T.g_at_boxes (t : T K mg) : mg "at_boxes" = some (.ref (He.ga K "at_boxes")) := t.glo 11
theorem T.g_sorted_parts (t : T K mg) : mg "sorted_parts" = some (.ref (He.ga K "sorted_parts")) := t.glo 12
theorem T.g_may_go (t : T K mg) : mg "may_go" = some (.ref (He.ga K "may_go")) := t.glo 13
theorem T.g_may_have (t : T K mg) : mg "may_have" = some (.ref (He.ga K "may_have")) := t.glo 14
theorem T.g_common_verbs (t : T K mg) : mg "common_verbs" = some (.ref (He.ga K "common_verbs")) := t.glo 15
theorem T.g_refusal (t : T K mg) : mg "refusal" = some (.ref (He.ga K "refusal")) := t.glo 16
theorem T.g_hand_rules (t : T K mg) : mg "hand_rules" = some (.ref (He.ga K "hand_rules")) := t.glo 17
theorem T.g_turned_rules (t : T K mg) : mg "turned_rules" = some (.ref (He.ga K "turned_rules")) := t.glo 18
theorem T.g_way_rule (t : T K mg) : mg "way_rule" = some (.ref (He.ga K "way_rule")) := t.glo 19
theorem T.g_common_rules (t : T K mg) : mg "common_rules" = some (.ref (He.ga K "common_rules")) := t.glo 20
theorem T.g_is_from (t : T K mg) : mg "is_from" = some (.ref (He.ga K "is_from")) := t.glo 21
theorem T.g_are_unlike (t : T K mg) : mg "are_unlike" = some (.ref (He.ga K "are_unlike")) := t.glo 22
theorem T.g_are_words (t : T K mg) : mg "are_words" = some (.ref (He.ga K "are_words")) := t.glo 23
theorem T.g_sizes_well (t : T K mg) : mg "sizes_well" = some (.ref (He.ga K "sizes_well")) := t.glo 24
theorem T.g_start_well (t : T K mg) : mg "start_well" = some (.ref (He.ga K "start_well")) := t.glo 25
theorem T.g_ends_in_room (t : T K mg) : mg "ends_in_room" = some (.ref (He.ga K "ends_in_room")) := t.glo 26
theorem T.g_things_well (t : T K mg) : mg "things_well" = some (.ref (He.ga K "things_well")) := t.glo 27
theorem T.g_has_all (t : T K mg) : mg "has_all" = some (.ref (He.ga K "has_all")) := t.glo 28
theorem T.g_words_well (t : T K mg) : mg "words_well" = some (.ref (He.ga K "words_well")) := t.glo 29
theorem T.g_marks_well (t : T K mg) : mg "marks_well" = some (.ref (He.ga K "marks_well")) := t.glo 30
theorem T.g_way_well (t : T K mg) : mg "way_well" = some (.ref (He.ga K "way_well")) := t.glo 31
theorem T.g_ways_well (t : T K mg) : mg "ways_well" = some (.ref (He.ga K "ways_well")) := t.glo 32
theorem T.g_called (t : T K mg) : mg "called" = some (.ref (He.ga K "called")) := t.glo 33
theorem T.g_verbs_well (t : T K mg) : mg "verbs_well" = some (.ref (He.ga K "verbs_well")) := t.glo 34
theorem T.g_is_well_made (t : T K mg) : mg "is_well_made" = some (.ref (He.ga K "is_well_made")) := t.glo 35
theorem T.g_rules_fit (t : T K mg) : mg "rules_fit" = some (.ref (He.ga K "rules_fit")) := t.glo 36
theorem T.g_law_cell_at (t : T K mg) : mg "_law_cell_at" = some (.ref (He.ga K "_law_cell_at")) := t.glo 37
theorem T.g_law_draws (t : T K mg) : mg "_law_draws" = some (.ref (He.ga K "_law_draws")) := t.glo 38
theorem T.g_law_take (t : T K mg) : mg "_law_take" = some (.ref (He.ga K "_law_take")) := t.glo 39
theorem T.g_law_names (t : T K mg) : mg "_law_names" = some (.ref (He.ga K "_law_names")) := t.glo 40
theorem T.g_law_others (t : T K mg) : mg "_law_others" = some (.ref (He.ga K "_law_others")) := t.glo 41
theorem T.g_law_spec (t : T K mg) : mg "_law_spec" = some (.ref (He.ga K "_law_spec")) := t.glo 42
theorem T.g_law_ways (t : T K mg) : mg "_law_ways" = some (.ref (He.ga K "_law_ways")) := t.glo 43
theorem T.g_law_world (t : T K mg) : mg "_law_world" = some (.ref (He.ga K "_law_world")) := t.glo 44
theorem T.g_law_of (t : T K mg) : mg "_law_of" = some (.ref (He.ga K "_law_of")) := t.glo 45
theorem T.g_law_mosts (t : T K mg) : mg "_law_mosts" = some (.ref (He.ga K "_law_mosts")) := t.glo 46
theorem T.g_law_places (t : T K mg) : mg "_law_places" = some (.ref (He.ga K "_law_places")) := t.glo 47
theorem T.g_law_marks (t : T K mg) : mg "_law_marks" = some (.ref (He.ga K "_law_marks")) := t.glo 48
theorem T.g_law_stand (t : T K mg) : mg "_law_stand" = some (.ref (He.ga K "_law_stand")) := t.glo 49
theorem T.g_law_command (t : T K mg) : mg "_law_command" = some (.ref (He.ga K "_law_command")) := t.glo 50
theorem T.g_law_form (t : T K mg) : mg "_law_form" = some (.ref (He.ga K "_law_form")) := t.glo 51
theorem T.g_law_place (t : T K mg) : mg "_law_place" = some (.ref (He.ga K "_law_place")) := t.glo 52
theorem T.g_law_marked (t : T K mg) : mg "_law_marked" = some (.ref (He.ga K "_law_marked")) := t.glo 53
theorem T.g_law_moved (t : T K mg) : mg "_law_moved" = some (.ref (He.ga K "_law_moved")) := t.glo 54
theorem T.v_law_moved (t : T K mg) : ∃ u, mg "_law_moved" = some u ∧ RelV (.ref (He.ga K "_law_moved")) u := t.gre 54
theorem T.g_law_put (t : T K mg) : mg "_law_put" = some (.ref (He.ga K "_law_put")) := t.glo 55
theorem T.v_law_put (t : T K mg) : ∃ u, mg "_law_put" = some u ∧ RelV (.ref (He.ga K "_law_put")) u := t.gre 55
theorem T.g_law_given (t : T K mg) : mg "_law_given" = some (.ref (He.ga K "_law_given")) := t.glo 56
theorem T.g_law_has_ring (t : T K mg) : mg "_law_has_ring" = some (.ref (He.ga K "_law_has_ring")) := t.glo 57
theorem T.g_law_third (t : T K mg) : mg "_law_third" = some (.ref (He.ga K "_law_third")) := t.glo 58
theorem T.g_law_deed (t : T K mg) : mg "_law_deed" = some (.ref (He.ga K "_law_deed")) := t.glo 59
theorem T.g_law_but (t : T K mg) : mg "_law_but" = some (.ref (He.ga K "_law_but")) := t.glo 60
theorem T.g_law_value (t : T K mg) : mg "_law_value" = some (.ref (He.ga K "_law_value")) := t.glo 61
theorem T.g_law_alike (t : T K mg) : mg "_law_alike" = some (.ref (He.ga K "_law_alike")) := t.glo 62
theorem T.g_law (t : T K mg) : mg "law" = some (.ref (He.ga K "law")) := t.glo 63
theorem T.g_Thing (t : T K mg) : mg "Thing" = some (.ref (He.ga K "Thing")) := t.glo 64
theorem T.g_Mark (t : T K mg) : mg "Mark" = some (.ref (He.ga K "Mark")) := t.glo 65
theorem T.g_Verb (t : T K mg) : mg "Verb" = some (.ref (He.ga K "Verb")) := t.glo 66
theorem T.g_At (t : T K mg) : mg "At" = some (.ref (He.ga K "At")) := t.glo 67
theorem T.g_Has (t : T K mg) : mg "Has" = some (.ref (He.ga K "Has")) := t.glo 68
theorem T.g_Marked (t : T K mg) : mg "Marked" = some (.ref (He.ga K "Marked")) := t.glo 69
theorem T.g_Kind (t : T K mg) : mg "Kind" = some (.ref (He.ga K "Kind")) := t.glo 70
theorem T.g_Word (t : T K mg) : mg "Word" = some (.ref (He.ga K "Word")) := t.glo 71
theorem T.g_Not (t : T K mg) : mg "Not" = some (.ref (He.ga K "Not")) := t.glo 72
theorem T.g_Move (t : T K mg) : mg "Move" = some (.ref (He.ga K "Move")) := t.glo 73
theorem T.g_Put (t : T K mg) : mg "Put" = some (.ref (He.ga K "Put")) := t.glo 74
theorem T.g_Rule (t : T K mg) : mg "Rule" = some (.ref (He.ga K "Rule")) := t.glo 75
theorem T.g_World (t : T K mg) : mg "World" = some (.ref (He.ga K "World")) := t.glo 76
theorem T.b_isinstance (t : T K mg) : mg "isinstance" = none := t.fre 77
theorem T.b_int (t : T K mg) : mg "int" = none := t.fre 78
theorem T.b_bool (t : T K mg) : mg "bool" = none := t.fre 79
theorem T.b_str (t : T K mg) : mg "str" = none := t.fre 80
theorem T.b_tuple (t : T K mg) : mg "tuple" = none := t.fre 81
theorem T.b_len (t : T K mg) : mg "len" = none := t.fre 82
theorem T.b_all (t : T K mg) : mg "all" = none := t.fre 83
theorem T.b_enumerate (t : T K mg) : mg "enumerate" = none := t.fre 84
theorem T.b_list (t : T K mg) : mg "list" = none := t.fre 85
theorem T.b_sorted (t : T K mg) : mg "sorted" = none := t.fre 86
theorem T.b_range (t : T K mg) : mg "range" = none := t.fre 87
theorem T.b_zip (t : T K mg) : mg "zip" = none := t.fre 88
theorem T.i_MOST_NAME (t : T K mg) : ∃ u, mg "MOST_NAME" = some u ∧ RelV (.int 8) u := t.int 89
theorem T.i_MOST_WORD (t : T K mg) : ∃ u, mg "MOST_WORD" = some u ∧ RelV (.int 12) u := t.int 90
theorem T.i_MOST_ROOMS (t : T K mg) : ∃ u, mg "MOST_ROOMS" = some u ∧ RelV (.int 5) u := t.int 91
theorem T.i_MOST_THINGS (t : T K mg) : ∃ u, mg "MOST_THINGS" = some u ∧ RelV (.int 7) u := t.int 92
theorem T.i_MOST_MARKS (t : T K mg) : ∃ u, mg "MOST_MARKS" = some u ∧ RelV (.int 4) u := t.int 93
theorem T.i_MOST_WAYS (t : T K mg) : ∃ u, mg "MOST_WAYS" = some u ∧ RelV (.int 10) u := t.int 94
theorem T.i_MOST_VERBS (t : T K mg) : ∃ u, mg "MOST_VERBS" = some u ∧ RelV (.int 6) u := t.int 95
theorem T.i_MOST_RULES (t : T K mg) : ∃ u, mg "MOST_RULES" = some u ∧ RelV (.int 20) u := t.int 96
theorem T.i_MOST_WORDS (t : T K mg) : ∃ u, mg "MOST_WORDS" = some u ∧ RelV (.int 4) u := t.int 97
theorem T.i_MOST_NUMBER (t : T K mg) : ∃ u, mg "MOST_NUMBER" = some u ∧ RelV (.int 3) u := t.int 98
theorem T.z_LETTERS (t : T K mg) : ∃ u, mg "LETTERS" = some u ∧ RelV (.str "abcdefghijklmnopqrstuvwxyz") u := t.str 99
theorem T.c_Thing (t : T K mg) : Cls K (He.ga K "Thing") := He.cls_ok (t.d.fact 100)
theorem T.c_Mark (t : T K mg) : Cls K (He.ga K "Mark") := He.cls_ok (t.d.fact 101)
theorem T.c_Verb (t : T K mg) : Cls K (He.ga K "Verb") := He.cls_ok (t.d.fact 102)
theorem T.c_At (t : T K mg) : Cls K (He.ga K "At") := He.cls_ok (t.d.fact 103)
theorem T.c_Has (t : T K mg) : Cls K (He.ga K "Has") := He.cls_ok (t.d.fact 104)
theorem T.c_Marked (t : T K mg) : Cls K (He.ga K "Marked") := He.cls_ok (t.d.fact 105)
theorem T.c_Kind (t : T K mg) : Cls K (He.ga K "Kind") := He.cls_ok (t.d.fact 106)
theorem T.c_Word (t : T K mg) : Cls K (He.ga K "Word") := He.cls_ok (t.d.fact 107)
theorem T.c_Not (t : T K mg) : Cls K (He.ga K "Not") := He.cls_ok (t.d.fact 108)
theorem T.c_Move (t : T K mg) : Cls K (He.ga K "Move") := He.cls_ok (t.d.fact 109)
theorem T.c_Put (t : T K mg) : Cls K (He.ga K "Put") := He.cls_ok (t.d.fact 110)
theorem T.c_Rule (t : T K mg) : Cls K (He.ga K "Rule") := He.cls_ok (t.d.fact 111)
theorem T.c_World (t : T K mg) : Cls K (He.ga K "World") := He.cls_ok (t.d.fact 112)
theorem T.k_Thing (t : T K mg) : Mk K (He.ga K "Thing") (He.ma K (He.ga K "Thing") "__init__") := He.mkr_ok (t.d.fact 113)
theorem T.k_Mark (t : T K mg) : Mk K (He.ga K "Mark") (He.ma K (He.ga K "Mark") "__init__") := He.mkr_ok (t.d.fact 114)
theorem T.k_Verb (t : T K mg) : Mk K (He.ga K "Verb") (He.ma K (He.ga K "Verb") "__init__") := He.mkr_ok (t.d.fact 115)
theorem T.k_At (t : T K mg) : Mk K (He.ga K "At") (He.ma K (He.ga K "At") "__init__") := He.mkr_ok (t.d.fact 116)
theorem T.k_Has (t : T K mg) : Mk K (He.ga K "Has") (He.ma K (He.ga K "Has") "__init__") := He.mkr_ok (t.d.fact 117)
theorem T.k_Marked (t : T K mg) : Mk K (He.ga K "Marked") (He.ma K (He.ga K "Marked") "__init__") := He.mkr_ok (t.d.fact 118)
theorem T.k_Kind (t : T K mg) : Mk K (He.ga K "Kind") (He.ma K (He.ga K "Kind") "__init__") := He.mkr_ok (t.d.fact 119)
theorem T.k_Word (t : T K mg) : Mk K (He.ga K "Word") (He.ma K (He.ga K "Word") "__init__") := He.mkr_ok (t.d.fact 120)
theorem T.k_Not (t : T K mg) : Mk K (He.ga K "Not") (He.ma K (He.ga K "Not") "__init__") := He.mkr_ok (t.d.fact 121)
theorem T.k_Move (t : T K mg) : Mk K (He.ga K "Move") (He.ma K (He.ga K "Move") "__init__") := He.mkr_ok (t.d.fact 122)
theorem T.k_Put (t : T K mg) : Mk K (He.ga K "Put") (He.ma K (He.ga K "Put") "__init__") := He.mkr_ok (t.d.fact 123)
theorem T.k_Rule (t : T K mg) : Mk K (He.ga K "Rule") (He.ma K (He.ga K "Rule") "__init__") := He.mkr_ok (t.d.fact 124)
theorem T.k_World (t : T K mg) : Mk K (He.ga K "World") (He.ma K (He.ga K "World") "__init__") := He.mkr_ok (t.d.fact 125)
theorem T.n_Thing_name (t : T K mg) : NoAttr K (He.ga K "Thing") "name" := He.noat_ok (t.d.fact 126)
theorem T.n_Thing_words (t : T K mg) : NoAttr K (He.ga K "Thing") "words" := He.noat_ok (t.d.fact 127)
theorem T.n_Thing_kind (t : T K mg) : NoAttr K (He.ga K "Thing") "kind" := He.noat_ok (t.d.fact 128)
theorem T.n_Thing_start (t : T K mg) : NoAttr K (He.ga K "Thing") "start" := He.noat_ok (t.d.fact 129)
theorem T.n_Mark_name (t : T K mg) : NoAttr K (He.ga K "Mark") "name" := He.noat_ok (t.d.fact 130)
theorem T.n_Mark_start (t : T K mg) : NoAttr K (He.ga K "Mark") "start" := He.noat_ok (t.d.fact 131)
theorem T.n_Mark_most (t : T K mg) : NoAttr K (He.ga K "Mark") "most" := He.noat_ok (t.d.fact 132)
theorem T.n_Verb_name (t : T K mg) : NoAttr K (He.ga K "Verb") "name" := He.noat_ok (t.d.fact 133)
theorem T.n_Verb_others (t : T K mg) : NoAttr K (He.ga K "Verb") "others" := He.noat_ok (t.d.fact 134)
theorem T.n_Verb_form (t : T K mg) : NoAttr K (He.ga K "Verb") "form" := He.noat_ok (t.d.fact 135)
theorem T.n_Verb_joining (t : T K mg) : NoAttr K (He.ga K "Verb") "joining" := He.noat_ok (t.d.fact 136)
theorem T.n_At_term (t : T K mg) : NoAttr K (He.ga K "At") "term" := He.noat_ok (t.d.fact 137)
theorem T.n_At_place (t : T K mg) : NoAttr K (He.ga K "At") "place" := He.noat_ok (t.d.fact 138)
theorem T.n_Has_term (t : T K mg) : NoAttr K (He.ga K "Has") "term" := He.noat_ok (t.d.fact 139)
theorem T.n_Marked_term (t : T K mg) : NoAttr K (He.ga K "Marked") "term" := He.noat_ok (t.d.fact 140)
theorem T.n_Marked_value (t : T K mg) : NoAttr K (He.ga K "Marked") "value" := He.noat_ok (t.d.fact 141)
theorem T.n_Kind_term (t : T K mg) : NoAttr K (He.ga K "Kind") "term" := He.noat_ok (t.d.fact 142)
theorem T.n_Kind_kind (t : T K mg) : NoAttr K (He.ga K "Kind") "kind" := He.noat_ok (t.d.fact 143)
theorem T.n_Word_word (t : T K mg) : NoAttr K (He.ga K "Word") "word" := He.noat_ok (t.d.fact 144)
theorem T.n_Not_inner (t : T K mg) : NoAttr K (He.ga K "Not") "inner" := He.noat_ok (t.d.fact 145)
theorem T.n_Move_term (t : T K mg) : NoAttr K (He.ga K "Move") "term" := He.noat_ok (t.d.fact 146)
theorem T.n_Move_place (t : T K mg) : NoAttr K (He.ga K "Move") "place" := He.noat_ok (t.d.fact 147)
theorem T.n_Put_term (t : T K mg) : NoAttr K (He.ga K "Put") "term" := He.noat_ok (t.d.fact 148)
theorem T.n_Put_value (t : T K mg) : NoAttr K (He.ga K "Put") "value" := He.noat_ok (t.d.fact 149)
theorem T.n_Rule_verb (t : T K mg) : NoAttr K (He.ga K "Rule") "verb" := He.noat_ok (t.d.fact 150)
theorem T.n_Rule_tests (t : T K mg) : NoAttr K (He.ga K "Rule") "tests" := He.noat_ok (t.d.fact 151)
theorem T.n_Rule_deeds (t : T K mg) : NoAttr K (He.ga K "Rule") "deeds" := He.noat_ok (t.d.fact 152)
theorem T.n_Rule_text (t : T K mg) : NoAttr K (He.ga K "Rule") "text" := He.noat_ok (t.d.fact 153)
theorem T.n_Rule_refuses (t : T K mg) : NoAttr K (He.ga K "Rule") "refuses" := He.noat_ok (t.d.fact 154)
theorem T.n_World_things (t : T K mg) : NoAttr K (He.ga K "World") "things" := He.noat_ok (t.d.fact 155)
theorem T.n_World_marks (t : T K mg) : NoAttr K (He.ga K "World") "marks" := He.noat_ok (t.d.fact 156)
theorem T.n_World_dark (t : T K mg) : NoAttr K (He.ga K "World") "dark" := He.noat_ok (t.d.fact 157)
theorem T.n_World_ways (t : T K mg) : NoAttr K (He.ga K "World") "ways" := He.noat_ok (t.d.fact 158)
theorem T.n_World_verbs (t : T K mg) : NoAttr K (He.ga K "World") "verbs" := He.noat_ok (t.d.fact 159)
theorem T.n_World_laid_rules (t : T K mg) : NoAttr K (He.ga K "World") "laid_rules" := He.noat_ok (t.d.fact 160)
theorem T.n_World_whole_verbs (t : T K mg) : NoAttr K (He.ga K "World") "whole_verbs" := He.noat_ok (t.d.fact 161)
theorem T.n_World_whole_rules (t : T K mg) : NoAttr K (He.ga K "World") "whole_rules" := He.noat_ok (t.d.fact 162)
theorem T.m_Thing_can_hold (t : T K mg) : Meth K (He.ga K "Thing") "can_hold" (He.ma K (He.ga K "Thing") "can_hold") := He.meth_ok (t.d.fact 163)
theorem T.m_Thing_has_mark (t : T K mg) : Meth K (He.ga K "Thing") "has_mark" (He.ma K (He.ga K "Thing") "has_mark") := He.meth_ok (t.d.fact 164)
theorem T.m_Thing_is_plainly (t : T K mg) : Meth K (He.ga K "Thing") "is_plainly" (He.ma K (He.ga K "Thing") "is_plainly") := He.meth_ok (t.d.fact 165)
theorem T.m_Verb_is_called (t : T K mg) : Meth K (He.ga K "Verb") "is_called" (He.ma K (He.ga K "Verb") "is_called") := He.meth_ok (t.d.fact 166)
theorem T.m_Move_done (t : T K mg) : Meth K (He.ga K "Move") "done" (He.ma K (He.ga K "Move") "done") := He.meth_ok (t.d.fact 167)
theorem T.m_Move_reads (t : T K mg) : Meth K (He.ga K "Move") "reads" (He.ma K (He.ga K "Move") "reads") := He.meth_ok (t.d.fact 168)
theorem T.m_Move_change (t : T K mg) : Meth K (He.ga K "Move") "change" (He.ma K (He.ga K "Move") "change") := He.meth_ok (t.d.fact 169)
theorem T.m_Put_done (t : T K mg) : Meth K (He.ga K "Put") "done" (He.ma K (He.ga K "Put") "done") := He.meth_ok (t.d.fact 170)
theorem T.m_Put_reads (t : T K mg) : Meth K (He.ga K "Put") "reads" (He.ma K (He.ga K "Put") "reads") := He.meth_ok (t.d.fact 171)
theorem T.m_Put_change (t : T K mg) : Meth K (He.ga K "Put") "change" (He.ma K (He.ga K "Put") "change") := He.meth_ok (t.d.fact 172)
theorem T.m_World_names (t : T K mg) : Meth K (He.ga K "World") "names" (He.ma K (He.ga K "World") "names") := He.meth_ok (t.d.fact 173)
theorem T.m_World_plain_names (t : T K mg) : Meth K (He.ga K "World") "plain_names" (He.ma K (He.ga K "World") "plain_names") := He.meth_ok (t.d.fact 174)
theorem T.m_World_of_kind (t : T K mg) : Meth K (He.ga K "World") "of_kind" (He.ma K (He.ga K "World") "of_kind") := He.meth_ok (t.d.fact 175)
theorem T.m_World_thing_of (t : T K mg) : Meth K (He.ga K "World") "thing_of" (He.ma K (He.ga K "World") "thing_of") := He.meth_ok (t.d.fact 176)
theorem T.m_World_you (t : T K mg) : Meth K (He.ga K "World") "you" (He.ma K (He.ga K "World") "you") := He.meth_ok (t.d.fact 177)
theorem T.m_World_most_of (t : T K mg) : Meth K (He.ga K "World") "most_of" (He.ma K (He.ga K "World") "most_of") := He.meth_ok (t.d.fact 178)
theorem T.m_World_way_words (t : T K mg) : Meth K (He.ga K "World") "way_words" (He.ma K (He.ga K "World") "way_words") := He.meth_ok (t.d.fact 179)
theorem T.m_World_all_verbs (t : T K mg) : Meth K (He.ga K "World") "all_verbs" (He.ma K (He.ga K "World") "all_verbs") := He.meth_ok (t.d.fact 180)
theorem T.m_World_verb_of (t : T K mg) : Meth K (He.ga K "World") "verb_of" (He.ma K (He.ga K "World") "verb_of") := He.meth_ok (t.d.fact 181)
theorem T.t_KINDS (t : T K mg) : ∃ u, mg "KINDS" = some u ∧ RelV (.ref (He.ga K "KINDS")) u := t.gre 182
theorem T.t_LEFT_OUT (t : T K mg) : ∃ u, mg "LEFT_OUT" = some u ∧ RelV (.ref (He.ga K "LEFT_OUT")) u := t.gre 183
theorem T.t_BARRED (t : T K mg) : ∃ u, mg "BARRED" = some u ∧ RelV (.ref (He.ga K "BARRED")) u := t.gre 184
theorem T.t_TAKEN (t : T K mg) : ∃ u, mg "TAKEN" = some u ∧ RelV (.ref (He.ga K "TAKEN")) u := t.gre 185
theorem T.f_value_of (t : T K mg) : ∃ fd, FunD K "value_of" "value_of" (defArgs s_value_of) (defBody s_value_of) (defScope s_value_of) [] [] (He.ga K "value_of") fd := t.d.def_ 0 (d := d_value_of)
theorem T.f_at_of (t : T K mg) : ∃ fd, FunD K "at_of" "at_of" (defArgs s_at_of) (defBody s_at_of) (defScope s_at_of) [] [] (He.ga K "at_of") fd := t.d.def_ 1 (d := d_at_of)
theorem T.f_with_part (t : T K mg) : ∃ fd, FunD K "with_part" "with_part" (defArgs s_with_part) (defBody s_with_part) (defScope s_with_part) [] [] (He.ga K "with_part") fd := t.d.def_ 2 (d := d_with_part)
theorem T.f_holders_of (t : T K mg) : ∃ fd, FunD K "holders_of" "holders_of" (defArgs s_holders_of) (defBody s_holders_of) (defScope s_holders_of) [] [] (He.ga K "holders_of") fd := t.d.def_ 3 (d := d_holders_of)
theorem T.f_room_of (t : T K mg) : ∃ fd, FunD K "room_of" "room_of" (defArgs s_room_of) (defBody s_room_of) (defScope s_room_of) [] [] (He.ga K "room_of") fd := t.d.def_ 4 (d := d_room_of)
theorem T.f_Thing_new (t : T K mg) : ∃ fd, FunD K "__init__" "Thing.__init__" (defArgs s_Thing_new) (defBody s_Thing_new) (defScope s_Thing_new) [.non] [] (He.ma K (He.ga K "Thing") "__init__") fd := t.d.def_ 5 (d := d_Thing_new)
theorem T.f_Thing_can_hold (t : T K mg) : ∃ fd, FunD K "can_hold" "Thing.can_hold" (defArgs s_Thing_can_hold) (defBody s_Thing_can_hold) (defScope s_Thing_can_hold) [] [] (He.ma K (He.ga K "Thing") "can_hold") fd := t.d.def_ 6 (d := d_Thing_can_hold)
theorem T.f_Thing_has_mark (t : T K mg) : ∃ fd, FunD K "has_mark" "Thing.has_mark" (defArgs s_Thing_has_mark) (defBody s_Thing_has_mark) (defScope s_Thing_has_mark) [] [] (He.ma K (He.ga K "Thing") "has_mark") fd := t.d.def_ 7 (d := d_Thing_has_mark)
theorem T.f_Thing_is_plainly (t : T K mg) : ∃ fd, FunD K "is_plainly" "Thing.is_plainly" (defArgs s_Thing_is_plainly) (defBody s_Thing_is_plainly) (defScope s_Thing_is_plainly) [] [] (He.ma K (He.ga K "Thing") "is_plainly") fd := t.d.def_ 8 (d := d_Thing_is_plainly)
theorem T.f_Mark_new (t : T K mg) : ∃ fd, FunD K "__init__" "Mark.__init__" (defArgs s_Mark_new) (defBody s_Mark_new) (defScope s_Mark_new) [] [] (He.ma K (He.ga K "Mark") "__init__") fd := t.d.def_ 9 (d := d_Mark_new)
theorem T.f_Verb_new (t : T K mg) : ∃ fd, FunD K "__init__" "Verb.__init__" (defArgs s_Verb_new) (defBody s_Verb_new) (defScope s_Verb_new) [.non, .str "one", .non] [] (He.ma K (He.ga K "Verb") "__init__") fd := t.d.def_ 10 (d := d_Verb_new)
theorem T.f_Verb_is_called (t : T K mg) : ∃ fd, FunD K "is_called" "Verb.is_called" (defArgs s_Verb_is_called) (defBody s_Verb_is_called) (defScope s_Verb_is_called) [] [] (He.ma K (He.ga K "Verb") "is_called") fd := t.d.def_ 11 (d := d_Verb_is_called)
theorem T.f_is_small (t : T K mg) : ∃ fd, FunD K "is_small" "is_small" (defArgs s_is_small) (defBody s_is_small) (defScope s_is_small) [] [] (He.ga K "is_small") fd := t.d.def_ 12 (d := d_is_small)
theorem T.f_is_name (t : T K mg) : ∃ fd, FunD K "is_name" "is_name" (defArgs s_is_name) (defBody s_is_name) (defScope s_is_name) [] [] (He.ga K "is_name") fd := t.d.def_ 13 (d := d_is_name)
theorem T.f_is_word (t : T K mg) : ∃ fd, FunD K "is_word" "is_word" (defArgs s_is_word) (defBody s_is_word) (defScope s_is_word) [] [] (He.ga K "is_word") fd := t.d.def_ 14 (d := d_is_word)
theorem T.f_form_of (t : T K mg) : ∃ fd, FunD K "form_of" "form_of" (defArgs s_form_of) (defBody s_form_of) (defScope s_form_of) [] [] (He.ga K "form_of") fd := t.d.def_ 15 (d := d_form_of)
theorem T.f_meant (t : T K mg) : ∃ fd, FunD K "meant" "meant" (defArgs s_meant) (defBody s_meant) (defScope s_meant) [] [] (He.ga K "meant") fd := t.d.def_ 16 (d := d_meant)
theorem T.f_named (t : T K mg) : ∃ fd, FunD K "named" "named" (defArgs s_named) (defBody s_named) (defScope s_named) [] [] (He.ga K "named") fd := t.d.def_ 17 (d := d_named)
theorem T.f_at_boxes (t : T K mg) : ∃ fd, FunD K "at_boxes" "at_boxes" (defArgs s_at_boxes) (defBody s_at_boxes) (defScope s_at_boxes) [] [] (He.ga K "at_boxes") fd := t.d.def_ 18 (d := d_at_boxes)
theorem T.f_sorted_parts (t : T K mg) : ∃ fd, FunD K "sorted_parts" "sorted_parts" (defArgs s_sorted_parts) (defBody s_sorted_parts) (defScope s_sorted_parts) [] [] (He.ga K "sorted_parts") fd := t.d.def_ 19 (d := d_sorted_parts)
theorem T.f_At_new (t : T K mg) : ∃ fd, FunD K "__init__" "At.__init__" (defArgs s_At_new) (defBody s_At_new) (defScope s_At_new) [] [] (He.ma K (He.ga K "At") "__init__") fd := t.d.def_ 20 (d := d_At_new)
theorem T.f_Has_new (t : T K mg) : ∃ fd, FunD K "__init__" "Has.__init__" (defArgs s_Has_new) (defBody s_Has_new) (defScope s_Has_new) [] [] (He.ma K (He.ga K "Has") "__init__") fd := t.d.def_ 21 (d := d_Has_new)
theorem T.f_Marked_new (t : T K mg) : ∃ fd, FunD K "__init__" "Marked.__init__" (defArgs s_Marked_new) (defBody s_Marked_new) (defScope s_Marked_new) [] [] (He.ma K (He.ga K "Marked") "__init__") fd := t.d.def_ 22 (d := d_Marked_new)
theorem T.f_Kind_new (t : T K mg) : ∃ fd, FunD K "__init__" "Kind.__init__" (defArgs s_Kind_new) (defBody s_Kind_new) (defScope s_Kind_new) [] [] (He.ma K (He.ga K "Kind") "__init__") fd := t.d.def_ 23 (d := d_Kind_new)
theorem T.f_Word_new (t : T K mg) : ∃ fd, FunD K "__init__" "Word.__init__" (defArgs s_Word_new) (defBody s_Word_new) (defScope s_Word_new) [] [] (He.ma K (He.ga K "Word") "__init__") fd := t.d.def_ 24 (d := d_Word_new)
theorem T.f_Not_new (t : T K mg) : ∃ fd, FunD K "__init__" "Not.__init__" (defArgs s_Not_new) (defBody s_Not_new) (defScope s_Not_new) [] [] (He.ma K (He.ga K "Not") "__init__") fd := t.d.def_ 25 (d := d_Not_new)
theorem T.f_may_go (t : T K mg) : ∃ fd, FunD K "may_go" "may_go" (defArgs s_may_go) (defBody s_may_go) (defScope s_may_go) [] [] (He.ga K "may_go") fd := t.d.def_ 26 (d := d_may_go)
theorem T.f_Move_new (t : T K mg) : ∃ fd, FunD K "__init__" "Move.__init__" (defArgs s_Move_new) (defBody s_Move_new) (defScope s_Move_new) [] [] (He.ma K (He.ga K "Move") "__init__") fd := t.d.def_ 27 (d := d_Move_new)
theorem T.f_Move_done (t : T K mg) : ∃ fd, FunD K "done" "Move.done" (defArgs s_Move_done) (defBody s_Move_done) (defScope s_Move_done) [] [] (He.ma K (He.ga K "Move") "done") fd := t.d.def_ 28 (d := d_Move_done)
theorem T.f_Move_reads (t : T K mg) : ∃ fd, FunD K "reads" "Move.reads" (defArgs s_Move_reads) (defBody s_Move_reads) (defScope s_Move_reads) [] [] (He.ma K (He.ga K "Move") "reads") fd := t.d.def_ 29 (d := d_Move_reads)
theorem T.f_Move_change (t : T K mg) : ∃ fd, FunD K "change" "Move.change" (defArgs s_Move_change) (defBody s_Move_change) (defScope s_Move_change) [] [] (He.ma K (He.ga K "Move") "change") fd := t.d.def_ 30 (d := d_Move_change)
theorem T.f_Put_new (t : T K mg) : ∃ fd, FunD K "__init__" "Put.__init__" (defArgs s_Put_new) (defBody s_Put_new) (defScope s_Put_new) [] [] (He.ma K (He.ga K "Put") "__init__") fd := t.d.def_ 31 (d := d_Put_new)
theorem T.f_Put_done (t : T K mg) : ∃ fd, FunD K "done" "Put.done" (defArgs s_Put_done) (defBody s_Put_done) (defScope s_Put_done) [] [] (He.ma K (He.ga K "Put") "done") fd := t.d.def_ 32 (d := d_Put_done)
theorem T.f_Put_reads (t : T K mg) : ∃ fd, FunD K "reads" "Deed.reads" (defArgs s_Put_reads) (defBody s_Put_reads) (defScope s_Put_reads) [] [] (He.ma K (He.ga K "Put") "reads") fd := t.d.def_ 33 (d := d_Put_reads)
theorem T.f_Put_change (t : T K mg) : ∃ fd, FunD K "change" "Put.change" (defArgs s_Put_change) (defBody s_Put_change) (defScope s_Put_change) [] [] (He.ma K (He.ga K "Put") "change") fd := t.d.def_ 34 (d := d_Put_change)
theorem T.f_may_have (t : T K mg) : ∃ fd, FunD K "may_have" "may_have" (defArgs s_may_have) (defBody s_may_have) (defScope s_may_have) [] [] (He.ga K "may_have") fd := t.d.def_ 35 (d := d_may_have)
theorem T.f_Rule_new (t : T K mg) : ∃ fd, FunD K "__init__" "Rule.__init__" (defArgs s_Rule_new) (defBody s_Rule_new) (defScope s_Rule_new) [.bl false] [] (He.ma K (He.ga K "Rule") "__init__") fd := t.d.def_ 36 (d := d_Rule_new)
theorem T.f_common_verbs (t : T K mg) : ∃ fd, FunD K "common_verbs" "common_verbs" (defArgs s_common_verbs) (defBody s_common_verbs) (defScope s_common_verbs) [] [] (He.ga K "common_verbs") fd := t.d.def_ 37 (d := d_common_verbs)
theorem T.f_refusal (t : T K mg) : ∃ fd, FunD K "refusal" "refusal" (defArgs s_refusal) (defBody s_refusal) (defScope s_refusal) [] [] (He.ga K "refusal") fd := t.d.def_ 38 (d := d_refusal)
theorem T.f_hand_rules (t : T K mg) : ∃ fd, FunD K "hand_rules" "hand_rules" (defArgs s_hand_rules) (defBody s_hand_rules) (defScope s_hand_rules) [] [] (He.ga K "hand_rules") fd := t.d.def_ 39 (d := d_hand_rules)
theorem T.f_turned_rules (t : T K mg) : ∃ fd, FunD K "turned_rules" "turned_rules" (defArgs s_turned_rules) (defBody s_turned_rules) (defScope s_turned_rules) [] [] (He.ga K "turned_rules") fd := t.d.def_ 40 (d := d_turned_rules)
theorem T.f_way_rule (t : T K mg) : ∃ fd, FunD K "way_rule" "way_rule" (defArgs s_way_rule) (defBody s_way_rule) (defScope s_way_rule) [] [] (He.ga K "way_rule") fd := t.d.def_ 41 (d := d_way_rule)
theorem T.f_common_rules (t : T K mg) : ∃ fd, FunD K "common_rules" "common_rules" (defArgs s_common_rules) (defBody s_common_rules) (defScope s_common_rules) [] [] (He.ga K "common_rules") fd := t.d.def_ 42 (d := d_common_rules)
theorem T.f_is_from (t : T K mg) : ∃ fd, FunD K "is_from" "is_from" (defArgs s_is_from) (defBody s_is_from) (defScope s_is_from) [] [] (He.ga K "is_from") fd := t.d.def_ 43 (d := d_is_from)
theorem T.f_are_unlike (t : T K mg) : ∃ fd, FunD K "are_unlike" "are_unlike" (defArgs s_are_unlike) (defBody s_are_unlike) (defScope s_are_unlike) [] [] (He.ga K "are_unlike") fd := t.d.def_ 44 (d := d_are_unlike)
theorem T.f_are_words (t : T K mg) : ∃ fd, FunD K "are_words" "are_words" (defArgs s_are_words) (defBody s_are_words) (defScope s_are_words) [] [] (He.ga K "are_words") fd := t.d.def_ 45 (d := d_are_words)
theorem T.f_sizes_well (t : T K mg) : ∃ fd, FunD K "sizes_well" "sizes_well" (defArgs s_sizes_well) (defBody s_sizes_well) (defScope s_sizes_well) [] [] (He.ga K "sizes_well") fd := t.d.def_ 46 (d := d_sizes_well)
theorem T.f_start_well (t : T K mg) : ∃ fd, FunD K "start_well" "start_well" (defArgs s_start_well) (defBody s_start_well) (defScope s_start_well) [] [] (He.ga K "start_well") fd := t.d.def_ 47 (d := d_start_well)
theorem T.f_ends_in_room (t : T K mg) : ∃ fd, FunD K "ends_in_room" "ends_in_room" (defArgs s_ends_in_room) (defBody s_ends_in_room) (defScope s_ends_in_room) [] [] (He.ga K "ends_in_room") fd := t.d.def_ 48 (d := d_ends_in_room)
theorem T.f_things_well (t : T K mg) : ∃ fd, FunD K "things_well" "things_well" (defArgs s_things_well) (defBody s_things_well) (defScope s_things_well) [] [] (He.ga K "things_well") fd := t.d.def_ 49 (d := d_things_well)
theorem T.f_has_all (t : T K mg) : ∃ fd, FunD K "has_all" "has_all" (defArgs s_has_all) (defBody s_has_all) (defScope s_has_all) [] [] (He.ga K "has_all") fd := t.d.def_ 50 (d := d_has_all)
theorem T.f_words_well (t : T K mg) : ∃ fd, FunD K "words_well" "words_well" (defArgs s_words_well) (defBody s_words_well) (defScope s_words_well) [] [] (He.ga K "words_well") fd := t.d.def_ 51 (d := d_words_well)
theorem T.f_marks_well (t : T K mg) : ∃ fd, FunD K "marks_well" "marks_well" (defArgs s_marks_well) (defBody s_marks_well) (defScope s_marks_well) [] [] (He.ga K "marks_well") fd := t.d.def_ 52 (d := d_marks_well)
theorem T.f_way_well (t : T K mg) : ∃ fd, FunD K "way_well" "way_well" (defArgs s_way_well) (defBody s_way_well) (defScope s_way_well) [] [] (He.ga K "way_well") fd := t.d.def_ 53 (d := d_way_well)
theorem T.f_ways_well (t : T K mg) : ∃ fd, FunD K "ways_well" "ways_well" (defArgs s_ways_well) (defBody s_ways_well) (defScope s_ways_well) [] [] (He.ga K "ways_well") fd := t.d.def_ 54 (d := d_ways_well)
theorem T.f_called (t : T K mg) : ∃ fd, FunD K "called" "called" (defArgs s_called) (defBody s_called) (defScope s_called) [] [] (He.ga K "called") fd := t.d.def_ 55 (d := d_called)
theorem T.f_verbs_well (t : T K mg) : ∃ fd, FunD K "verbs_well" "verbs_well" (defArgs s_verbs_well) (defBody s_verbs_well) (defScope s_verbs_well) [] [] (He.ga K "verbs_well") fd := t.d.def_ 56 (d := d_verbs_well)
theorem T.f_is_well_made (t : T K mg) : ∃ fd, FunD K "is_well_made" "is_well_made" (defArgs s_is_well_made) (defBody s_is_well_made) (defScope s_is_well_made) [] [] (He.ga K "is_well_made") fd := t.d.def_ 57 (d := d_is_well_made)
theorem T.f_rules_fit (t : T K mg) : ∃ fd, FunD K "rules_fit" "rules_fit" (defArgs s_rules_fit) (defBody s_rules_fit) (defScope s_rules_fit) [] [] (He.ga K "rules_fit") fd := t.d.def_ 58 (d := d_rules_fit)
theorem T.f_World_new (t : T K mg) : ∃ fd, FunD K "__init__" "World.__init__" (defArgs s_World_new) (defBody s_World_new) (defScope s_World_new) [] [] (He.ma K (He.ga K "World") "__init__") fd := t.d.def_ 59 (d := d_World_new)
theorem T.f_World_names (t : T K mg) : ∃ fd, FunD K "names" "World.names" (defArgs s_World_names) (defBody s_World_names) (defScope s_World_names) [] [] (He.ma K (He.ga K "World") "names") fd := t.d.def_ 60 (d := d_World_names)
theorem T.f_World_plain_names (t : T K mg) : ∃ fd, FunD K "plain_names" "World.plain_names" (defArgs s_World_plain_names) (defBody s_World_plain_names) (defScope s_World_plain_names) [] [] (He.ma K (He.ga K "World") "plain_names") fd := t.d.def_ 61 (d := d_World_plain_names)
theorem T.f_World_of_kind (t : T K mg) : ∃ fd, FunD K "of_kind" "World.of_kind" (defArgs s_World_of_kind) (defBody s_World_of_kind) (defScope s_World_of_kind) [] [] (He.ma K (He.ga K "World") "of_kind") fd := t.d.def_ 62 (d := d_World_of_kind)
theorem T.f_World_thing_of (t : T K mg) : ∃ fd, FunD K "thing_of" "World.thing_of" (defArgs s_World_thing_of) (defBody s_World_thing_of) (defScope s_World_thing_of) [] [] (He.ma K (He.ga K "World") "thing_of") fd := t.d.def_ 63 (d := d_World_thing_of)
theorem T.f_World_you (t : T K mg) : ∃ fd, FunD K "you" "World.you" (defArgs s_World_you) (defBody s_World_you) (defScope s_World_you) [] [] (He.ma K (He.ga K "World") "you") fd := t.d.def_ 64 (d := d_World_you)
theorem T.f_World_most_of (t : T K mg) : ∃ fd, FunD K "most_of" "World.most_of" (defArgs s_World_most_of) (defBody s_World_most_of) (defScope s_World_most_of) [] [] (He.ma K (He.ga K "World") "most_of") fd := t.d.def_ 65 (d := d_World_most_of)
theorem T.f_World_way_words (t : T K mg) : ∃ fd, FunD K "way_words" "World.way_words" (defArgs s_World_way_words) (defBody s_World_way_words) (defScope s_World_way_words) [] [] (He.ma K (He.ga K "World") "way_words") fd := t.d.def_ 66 (d := d_World_way_words)
theorem T.f_World_all_verbs (t : T K mg) : ∃ fd, FunD K "all_verbs" "World.all_verbs" (defArgs s_World_all_verbs) (defBody s_World_all_verbs) (defScope s_World_all_verbs) [] [] (He.ma K (He.ga K "World") "all_verbs") fd := t.d.def_ 67 (d := d_World_all_verbs)
theorem T.f_World_verb_of (t : T K mg) : ∃ fd, FunD K "verb_of" "World.verb_of" (defArgs s_World_verb_of) (defBody s_World_verb_of) (defScope s_World_verb_of) [] [] (He.ma K (He.ga K "World") "verb_of") fd := t.d.def_ 68 (d := d_World_verb_of)
theorem T.f_law_cell_at (t : T K mg) : ∃ fd, FunD K "_law_cell_at" "_law_cell_at" (defArgs s_law_cell_at) (defBody s_law_cell_at) (defScope s_law_cell_at) [] [] (He.ga K "_law_cell_at") fd := t.d.def_ 69 (d := d_law_cell_at)
theorem T.f_law_draws (t : T K mg) : ∃ fd, FunD K "_law_draws" "_law_draws" (defArgs s_law_draws) (defBody s_law_draws) (defScope s_law_draws) [] [] (He.ga K "_law_draws") fd := t.d.def_ 70 (d := d_law_draws)
theorem T.f_law_take (t : T K mg) : ∃ fd, FunD K "_law_take" "_law_take" (defArgs s_law_take) (defBody s_law_take) (defScope s_law_take) [] [] (He.ga K "_law_take") fd := t.d.def_ 71 (d := d_law_take)
theorem T.f_law_names (t : T K mg) : ∃ fd, FunD K "_law_names" "_law_names" (defArgs s_law_names) (defBody s_law_names) (defScope s_law_names) [] [] (He.ga K "_law_names") fd := t.d.def_ 72 (d := d_law_names)
theorem T.f_law_others (t : T K mg) : ∃ fd, FunD K "_law_others" "_law_others" (defArgs s_law_others) (defBody s_law_others) (defScope s_law_others) [] [] (He.ga K "_law_others") fd := t.d.def_ 73 (d := d_law_others)
theorem T.f_law_spec (t : T K mg) : ∃ fd, FunD K "_law_spec" "_law_spec" (defArgs s_law_spec) (defBody s_law_spec) (defScope s_law_spec) [] [] (He.ga K "_law_spec") fd := t.d.def_ 74 (d := d_law_spec)
theorem T.f_law_ways (t : T K mg) : ∃ fd, FunD K "_law_ways" "_law_ways" (defArgs s_law_ways) (defBody s_law_ways) (defScope s_law_ways) [] [] (He.ga K "_law_ways") fd := t.d.def_ 75 (d := d_law_ways)
theorem T.f_law_world (t : T K mg) : ∃ fd, FunD K "_law_world" "_law_world" (defArgs s_law_world) (defBody s_law_world) (defScope s_law_world) [] [] (He.ga K "_law_world") fd := t.d.def_ 76 (d := d_law_world)
theorem T.f_law_of (t : T K mg) : ∃ fd, FunD K "_law_of" "_law_of" (defArgs s_law_of) (defBody s_law_of) (defScope s_law_of) [] [] (He.ga K "_law_of") fd := t.d.def_ 77 (d := d_law_of)
theorem T.f_law_mosts (t : T K mg) : ∃ fd, FunD K "_law_mosts" "_law_mosts" (defArgs s_law_mosts) (defBody s_law_mosts) (defScope s_law_mosts) [] [] (He.ga K "_law_mosts") fd := t.d.def_ 78 (d := d_law_mosts)
theorem T.f_law_places (t : T K mg) : ∃ fd, FunD K "_law_places" "_law_places" (defArgs s_law_places) (defBody s_law_places) (defScope s_law_places) [] [] (He.ga K "_law_places") fd := t.d.def_ 79 (d := d_law_places)
theorem T.f_law_marks (t : T K mg) : ∃ fd, FunD K "_law_marks" "_law_marks" (defArgs s_law_marks) (defBody s_law_marks) (defScope s_law_marks) [] [] (He.ga K "_law_marks") fd := t.d.def_ 80 (d := d_law_marks)
theorem T.f_law_stand (t : T K mg) : ∃ fd, FunD K "_law_stand" "_law_stand" (defArgs s_law_stand) (defBody s_law_stand) (defScope s_law_stand) [] [] (He.ga K "_law_stand") fd := t.d.def_ 81 (d := d_law_stand)
theorem T.f_law_command (t : T K mg) : ∃ fd, FunD K "_law_command" "_law_command" (defArgs s_law_command) (defBody s_law_command) (defScope s_law_command) [] [] (He.ga K "_law_command") fd := t.d.def_ 82 (d := d_law_command)
theorem T.f_law_form (t : T K mg) : ∃ fd, FunD K "_law_form" "_law_form" (defArgs s_law_form) (defBody s_law_form) (defScope s_law_form) [] [] (He.ga K "_law_form") fd := t.d.def_ 83 (d := d_law_form)
theorem T.f_law_place (t : T K mg) : ∃ fd, FunD K "_law_place" "_law_place" (defArgs s_law_place) (defBody s_law_place) (defScope s_law_place) [] [] (He.ga K "_law_place") fd := t.d.def_ 84 (d := d_law_place)
theorem T.f_law_marked (t : T K mg) : ∃ fd, FunD K "_law_marked" "_law_marked" (defArgs s_law_marked) (defBody s_law_marked) (defScope s_law_marked) [] [] (He.ga K "_law_marked") fd := t.d.def_ 85 (d := d_law_marked)
theorem T.f_law_moved (t : T K mg) : ∃ fd, FunD K "_law_moved" "_law_moved" (defArgs s_law_moved) (defBody s_law_moved) (defScope s_law_moved) [] [] (He.ga K "_law_moved") fd := t.d.def_ 86 (d := d_law_moved)
theorem T.f_law_put (t : T K mg) : ∃ fd, FunD K "_law_put" "_law_put" (defArgs s_law_put) (defBody s_law_put) (defScope s_law_put) [] [] (He.ga K "_law_put") fd := t.d.def_ 87 (d := d_law_put)
theorem T.f_law_given (t : T K mg) : ∃ fd, FunD K "_law_given" "_law_given" (defArgs s_law_given) (defBody s_law_given) (defScope s_law_given) [] [] (He.ga K "_law_given") fd := t.d.def_ 88 (d := d_law_given)
theorem T.f_law_has_ring (t : T K mg) : ∃ fd, FunD K "_law_has_ring" "_law_has_ring" (defArgs s_law_has_ring) (defBody s_law_has_ring) (defScope s_law_has_ring) [] [] (He.ga K "_law_has_ring") fd := t.d.def_ 89 (d := d_law_has_ring)
theorem T.f_law_third (t : T K mg) : ∃ fd, FunD K "_law_third" "_law_third" (defArgs s_law_third) (defBody s_law_third) (defScope s_law_third) [] [] (He.ga K "_law_third") fd := t.d.def_ 90 (d := d_law_third)
theorem T.f_law_deed (t : T K mg) : ∃ fd, FunD K "_law_deed" "_law_deed" (defArgs s_law_deed) (defBody s_law_deed) (defScope s_law_deed) [] [] (He.ga K "_law_deed") fd := t.d.def_ 91 (d := d_law_deed)
theorem T.f_law_but (t : T K mg) : ∃ fd, FunD K "_law_but" "_law_but" (defArgs s_law_but) (defBody s_law_but) (defScope s_law_but) [] [] (He.ga K "_law_but") fd := t.d.def_ 92 (d := d_law_but)
theorem T.f_law_value (t : T K mg) : ∃ fd, FunD K "_law_value" "_law_value" (defArgs s_law_value) (defBody s_law_value) (defScope s_law_value) [] [] (He.ga K "_law_value") fd := t.d.def_ 93 (d := d_law_value)
theorem T.f_law_alike (t : T K mg) : ∃ fd, FunD K "_law_alike" "_law_alike" (defArgs s_law_alike) (defBody s_law_alike) (defScope s_law_alike) [] [] (He.ga K "_law_alike") fd := t.d.def_ 94 (d := d_law_alike)
theorem T.f_law (t : T K mg) : ∃ fd, FunD K "law" "law" (defArgs s_law) (defBody s_law) (defScope s_law) [] [] (He.ga K "law") fd := t.d.def_ 95 (d := d_law)
theorem T.x_KINDS (t : T K mg) (H : Hp) : SqT K H (He.ga K "KINDS") [V.str "room", V.str "plain", V.str "fixed", V.str "box", V.str "lamp", V.str "you"] := He.tupB_ok (He.ba t.x).1 H
theorem T.x_LEFT_OUT (t : T K mg) (H : Hp) : SqT K H (He.ga K "LEFT_OUT") [V.str "the", V.str "a"] := He.tupB_ok (He.ba (He.ba t.x).2).1 H
theorem T.x_BARRED (t : T K mg) (H : Hp) : SqT K H (He.ga K "BARRED") [V.str "it", V.str "other", V.str "here", V.str "the", V.str "a", V.str "undo", V.str "restart"] := He.tupB_ok (He.ba (He.ba (He.ba t.x).2).2).1 H
theorem T.x_TAKEN (t : T K mg) (H : Hp) : SqT K H (He.ga K "TAKEN") [V.str "undo", V.str "restart"] := He.tupB_ok (He.ba (He.ba (He.ba t.x).2).2).2 H
end
end Tw
set_option maxHeartbeats 0
namespace TwHead
open PySem PySem.Spec PyProof.Rows L2 Tw
def nm0 : List PySem.Str := ["_wall", "value_of", "at_of", "mark_of", "with_part", "is_count", "holders_of", "room_of", "has", "KINDS", "FORMS", "Thing", "Mark", "Verb", "LETTERS", "LEFT_OUT", "BARRED", "MOST_NAME", "MOST_WORD", "is_small", "is_name", "is_word", "DEEPEST", "MOST_VALUE", "form_of"]
def nm1 : List PySem.Str := ["meant", "named", "term_fits", "thing_fits", "place_fits", "value_fits", "at_part", "at_boxes", "sorted_parts", "Test", "At", "Has", "Marked", "Kind", "Word", "Not", "lets_test", "Deed", "may_go", "Move", "Put", "may_have", "lets_deed", "MOST_TESTS", "MOST_DEEDS"]
def nm2 : List PySem.Str := ["MOST_SIGNS", "Rule", "is_text", "rule_fits", "common_verbs", "refusal", "hand_rules", "turned_rules", "way_rule", "common_rules", "TellError", "NoWorld", "MOST_ROOMS", "MOST_THINGS", "MOST_MARKS", "MOST_WAYS", "MOST_VERBS", "MOST_RULES", "MOST_WORDS", "MOST_NUMBER", "TAKEN", "is_from", "are_unlike", "are_words", "sizes_well"]
def nm3 : List PySem.Str := ["start_well", "ends_in_room", "things_well", "has_all", "words_well", "marks_well", "way_well", "ways_well", "verb_well", "called", "verbs_well", "is_well_made", "rules_fit", "World", "_law_cell_at", "_law_draws", "_law_take", "_law_names", "_law_others", "_law_spec", "_law_ways", "_law_world", "_law_of", "_law_mosts", "_law_places"]
def nm4 : List PySem.Str := ["_law_marks", "_law_stand", "_law_command", "_law_form", "_law_place", "_law_marked", "_law_moved", "_law_put", "_law_given", "_law_has_ring", "_law_third", "_law_deed", "_law_but", "_law_value", "_law_alike"]
abbrev names : List PySem.Str := nm0 ++ (nm1 ++ (nm2 ++ (nm3 ++ (nm4))))
abbrev R : PySem.W.OpenRow := PySem.W.OpenLaw.row PySem.Challenge.rw_tellworld_k28_whole_deeds_hang_on_their
/-- what an object names that the walks lean on: code, defaults, a class's own names -/
def rfs (o : Obj) : List Addr := match o.data with
  | .func fd => He.refV fd.code ++ He.refV fd.defaults
  | .cls cd => [cd.ns]
  | .dict es _ => es.toList.flatMap fun e => He.refV e.val
  | _ => []
def nxt (g : Addr → Option Obj) (as : List Addr) : List Addr := as.flatMap fun a => match g a with
  | some o => rfs o
  | none => []
def lay (g : Addr → Option Obj) : Nat → List Addr → List Addr
  | 0, as => as
  | n + 1, as => as ++ lay g n (nxt g as)
def asL (g : Addr → Option Obj) : List Addr := lay g 4 [mainGlobals]
/-- the facts of one look -/
def looL (fa : List He.Fa) (fn : List He.DefD) (ex : PySem.W.Frag → Bool) (g : Addr → Option Obj) : He.AlD × Bool := (He.obsD fa fn (He.frG g (asL g)), ex (He.frG g (asL g)))
def hkL (fa : List He.Fa) (fn : List He.DefD) (ex : PySem.W.Frag → Bool) : PySem.W.Hook where
  α := He.AlD × Bool
  obs := fun s => looL fa fn ex s.heap.get?
  val := fun _ => (He.valD fn, true)
  says := fun _ h => ∃ K : PySem.W.Frag, K.In h ∧ He.SaysD fa fn K ∧ ex K = true
  of := fun _ _ e => ⟨_, He.frG_in, congrArg (fun z : He.AlD × Bool => z.1) e, congrArg (fun z : He.AlD × Bool => z.2) e⟩
  keeps := fun _ _ _ ⟨K, hK, c⟩ k => ⟨K, PySem.W.Frag.In.keeps hK k, c⟩
theorem ob_eq {fa : List He.Fa} {fn : List He.DefD} {ex : PySem.W.Frag → Bool} (s : PySem.W.SharedT) : looL fa fn ex (HandSHeadRun.getT s) = (hkL fa fn ex).obs s.abs := by
  have e : HandSHeadRun.getT s = s.abs.heap.get? := funext (HandSHeadRun.getT_eq s)
  rw [e]
  all_goals rfl
/-! The look is split: each part is one kernel run of its own, so that none meets the memory lid. -/
noncomputable abbrev EN (r : PySem.W.OpenRow) (M : Nat) (w : World) (os : OsState) : Option PySem.W.SharedT := HandSHeadRun.endF (HandSHeadRun.stepQ (HandSHeadRun.denQ HandSHeadRun.tabQ) r.prog w) M r.prog w os
noncomputable def frL (s : PySem.W.SharedT) : PySem.W.Frag := He.frG (HandSHeadRun.getT s) (asL (HandSHeadRun.getT s))
def See (r : PySem.W.OpenRow) (q : Program) (M : Nat) (loose : List PySem.Str) (w : World) : Prop := ∀ os : OsState, (EN r M w os).map (fun s => (HandSHeadRun.looksF r.prog (PySem.W.boot_heap w.params) s.abs, HandSHeadRun.seenQ q loose (importedModules r.prog.main.body) (fun s => PySem.W.xlAt q [] s && PySem.W.recOk r.toRowW.records s) s.abs)) = some (true, PySem.W.openGood q loose)
def Facts (r : PySem.W.OpenRow) (M : Nat) (fa : List He.Fa) (ex : PySem.W.Frag → Bool) (w : World) : Prop := ∀ os : OsState, (EN r M w os).map (fun s => (fa.all fun f => f.ok (frL s)) && ex (frL s)) = some true
def Defs (r : PySem.W.OpenRow) (M : Nat) (fn : List He.DefD) (w : World) : Prop := ∀ os : OsState, (EN r M w os).map (fun s => fn.all fun d => d.ok (frL s)) = some true
def Texts (r : PySem.W.OpenRow) (M : Nat) (fn : List He.DefD) (w : World) : Prop := ∀ os : OsState, (EN r M w os).map (fun s => fn.map fun d => He.fnW (frL s) d.at_) = some (fn.map He.DefD.val)
theorem run_all {σ α1 α2 γ : Type} {e : Option σ} {a1 : σ → α1} {a2 : σ → α2} {b c x : σ → Bool} {d : σ → γ} {v1 : α1} {v2 : α2} {d0 : γ} (h1 : e.map (fun s => (a1 s, a2 s)) = some (v1, v2)) (h2 : e.map (fun s => b s && x s) = some true) (h3 : e.map c = some true) (h4 : e.map d = some d0) :
    e.map (fun s => (a1 s, a2 s, ((b s && c s, d s), x s))) = some (v1, v2, ((true, d0), true)) := by
  cases e with
  | none => cases h1
  | some s =>
    have k1 : (a1 s, a2 s) = (v1, v2) := Option.some.inj h1
    obtain ⟨k7, k8⟩ := Prod.mk.inj k1
    have k2 : (b s && x s) = true := Option.some.inj h2
    have k3 : c s = true := Option.some.inj h3
    have k4 : d s = d0 := Option.some.inj h4
    obtain ⟨k5, k6⟩ := He.ba k2
    show some (a1 s, a2 s, ((b s && c s, d s), x s)) = _
    rw [k7, k8, k5, k3, k4, k6] <;> rfl
theorem run_of {r : PySem.W.OpenRow} {q : Program} {M : Nat} {loose : List PySem.Str} {fa : List He.Fa} {fn : List He.DefD} {ex : PySem.W.Frag → Bool} {w : World}
    (h1 : See r q M loose w) (h2 : Facts r M fa ex w) (h3 : Defs r M fn w) (h4 : Texts r M fn w) : HandSHeadRun.RunEq r q (hkL fa fn ex) (fun s => looL fa fn ex (HandSHeadRun.getT s)) M loose w := fun os => run_all (h1 os) (h2 os) (h3 os) (h4 os)
theorem run_see (w : World) : See R (PySem.W.view R.prog [127]) 60000 names w := by
  intro os
  kernel_rfl
theorem run_facts (w : World) : Facts R 60000 fa ex w := by
  intro os
  kernel_rfl
theorem run_defs (w : World) : Defs R 60000 fn w := by
  intro os
  kernel_rfl
theorem run_texts (w : World) : Texts R 60000 fn w := by
  intro os
  kernel_rfl
theorem run (w : World) : HandSHeadRun.RunEq R (PySem.W.view R.prog [127]) (hkL fa fn ex) (fun s => looL fa fn ex (HandSHeadRun.getT s)) 60000 names w := run_of (run_see w) (run_facts w) (run_defs w) (run_texts w)
end TwHead
set_option maxHeartbeats 4000000
/-! Steps of a reading, heaps that grow, data, defs by their names. -/
namespace Tw
open PySem PySem.Spec L2

abbrev CX : CXT := C8.CX0
/-! ### heaps -/
theorem same_new {H : Hp} {p : Addr} {o : HO} (h : H p = none) : Same H (upd H p o) := fun b u e => by
  rw [upd_ne (ne_of_none e h)]
  exact e
theorem same_at {H H' : Hp} {p : Addr} {o : HO} (s : Same H H') (h : H p = some o) : H' p = some o := s p o h
theorem same_sqt {K : PySem.W.Frag} {H H' : Hp} {a : Addr} {xs : List V} (e : Same H H') (h : SqT K H a xs) : SqT K H' a xs := by
  rcases h with (h | ⟨o, h⟩) | h
  · exact .inl (.inl (e _ _ h))
  · exact .inl (.inr ⟨o, e _ _ h⟩)
  · exact .inr h
mutual
theorem dp_mono {K : PySem.W.Frag} {H H' : Hp} (e : Same H H') : ∀ {v : V} {d : PyData}, Dp K H v d → Dp K H' v d
  | _, _, .non => .non
  | _, _, .bl b => .bl b
  | _, _, .int i => .int i
  | _, _, .str x => .str x
  | _, _, .lst h a => .lst (e.seq h) (dpAll_mono e a)
  | _, _, .tup h a => .tup (same_sqt e h) (dpAll_mono e a)
theorem dpAll_mono {K : PySem.W.Frag} {H H' : Hp} (e : Same H H') : ∀ {vs : List V} {ds : List PyData}, DpAll K H vs ds → DpAll K H' vs ds
  | _, _, .nil => .nil
  | _, _, .cons h a => .cons (dp_mono e h) (dpAll_mono e a)
end
theorem dpa_len {K : PySem.W.Frag} {H : Hp} : ∀ {vs : List V} {ds : List PyData}, DpAll K H vs ds → vs.length = ds.length
  | _, _, .nil => rfl
  | _, _, .cons _ a => congrArg Nat.succ (dpa_len a)
theorem dpa_get {K : PySem.W.Frag} {H : Hp} : ∀ {vs : List V} {ds : List PyData} {i : Nat} {v : V}, DpAll K H vs ds → vs[i]? = some v → ∃ d, ds[i]? = some d ∧ Dp K H v d
  | _, _, _, _, .nil, e => by simp at e
  | _, _, 0, v, .cons h _, e => by simp at e; subst e; exact ⟨_, rfl, h⟩
  | _, _, i + 1, v, .cons _ a, e => by
    obtain ⟨d, h1, h2⟩ := dpa_get (i := i) (v := v) a (by simpa using e)
    exact ⟨d, by simpa using h1, h2⟩
theorem dpa_app {K : PySem.W.Frag} {H : Hp} : ∀ {vs ws : List V} {ds es : List PyData}, DpAll K H vs ds → DpAll K H ws es → DpAll K H (vs ++ ws) (ds ++ es)
  | _, _, _, _, .nil, b => b
  | _, _, _, _, .cons h a, b => .cons h (dpa_app a b)
theorem dp_tuple {K : PySem.W.Frag} {H : Hp} {v : V} {ds : List PyData} (h : Dp K H v (.tuple ds)) : ∃ a xs, v = .ref a ∧ SqT K H a xs ∧ DpAll K H xs ds := by
  cases h with
  | tup h a => exact ⟨_, _, rfl, h, a⟩
theorem dp_list {K : PySem.W.Frag} {H : Hp} {v : V} {ds : List PyData} (h : Dp K H v (.list ds)) : ∃ a xs, v = .ref a ∧ SqL K H a xs ∧ DpAll K H xs ds := by
  cases h with
  | lst h a => exact ⟨_, _, rfl, h, a⟩
theorem dp_str {K : PySem.W.Frag} {H : Hp} {v : V} {x : Str} (h : Dp K H v (.str x)) : v = .str x := by
  cases h with
  | str => rfl
theorem dp_int {K : PySem.W.Frag} {H : Hp} {v : V} {x : Int} (h : Dp K H v (.int x)) : v = .int x := by
  cases h with
  | int => rfl
theorem dp_non {K : PySem.W.Frag} {H : Hp} {v : V} (h : Dp K H v .none) : v = .non := by
  cases h with
  | non => rfl

/-! ### defs by their names -/
section
variable {P : Program} {w : World} {K : PySem.W.Frag} {mg : Str → Option Value} {base : Heap}
/-- the body of a def: its derivation and its reading -/
abbrev Body (P : Program) (w : World) (K : PySem.W.Frag) (mg : Str → Option Value) (base : Heap) (k : Nat) (N : List Str) (qual : Str) (scope : Scope) (body : List Stmt) (f : Addr) (sp : Sp) : Prop :=
  ∀ (cdv : Value) (A : Around) (outer : List Env) (s : Shared) (H : Hp) (vs : List V) (Q : VK) (E : XK), Room k (A.deeper (PyProof.Rows.envOfC qual scope s.heap.objs.size f cdv)) → sp vs H Q E →
    ∃ t, PSs (cxOf CX P w K mg base N qual scope f cdv A outer s H E).nox body t ∧ t { nx := fun _ H' => Q .non H', rt := Q } (start N vs) H
theorem fn_ok {x qual : Str} {params : Arguments} {body : List Stmt} {scope : Scope} {dvs : List V} {f : Addr} {fd : FuncData} {N ps : List Str} {k : Nat} {sp : Sp}
    (F : FunD K x qual params body scope dvs [] f fd) (S : FnScope N ps scope) (len : ∀ vs H Q E, sp vs H Q E → vs.length = ps.length) (b : Body P w K mg base k N qual scope body f sp) : FnOk P w K mg base CX (k + 1) f fd ps sp := by
  refine F.ok S len fun cdv A outer s H vs Q E hr h => ?_
  obtain ⟨t, h1, h2⟩ := b cdv A outer s H vs Q E hr h
  exact ⟨t, h1.nox, h2⟩
theorem cal {x : Str} {params : Arguments} {body : List Stmt} {scope : Scope} {N ps : List Str} {k : Nat} {sp : Sp} {f : Addr}
    (F : ∃ fd, FunD K x x params body scope [] [] f fd) (hm : mg x = some (.ref f)) (S : FnScope N ps scope)
    (h : ∀ (kV doc pm : Value) (an : Option Addr) (cdv ct : Value) (us : List Value), us.length = ps.length → bindArgs (PySem.W.fnOf x x params body scope .none kV doc pm an cdv ct) ⟨us, []⟩ = pure (ps.zip us))
    (len : ∀ vs H Q E, sp vs H Q E → vs.length = ps.length) (b : Body P w K mg base k N x scope body f sp) : C8.Cal P w K mg base (k + 1) x sp [] := by
  obtain ⟨fd, F⟩ := F
  exact ⟨f, fd, ps, [], fn_ok F S len b, hm, F.kp, F.bindsN h, .nil⟩
theorem met {m qual : Str} {C : Addr} {params : Arguments} {body : List Stmt} {scope : Scope} {N ps : List Str} {k : Nat} {sp : Sp} {f : Addr}
    (F : ∃ fd, FunD K m qual params body scope [] [] f fd) (hc : Cls K C) (hm : Meth K C m f) (S : FnScope N ps scope)
    (h : ∀ (kV doc pm : Value) (an : Option Addr) (cdv ct : Value) (us : List Value), us.length = ps.length → bindArgs (PySem.W.fnOf m qual params body scope .none kV doc pm an cdv ct) ⟨us, []⟩ = pure (ps.zip us))
    (len : ∀ vs H Q E, sp vs H Q E → vs.length = ps.length) (b : Body P w K mg base k N qual scope body f sp) : C8.Met P w K mg base (k + 1) C m sp [] := by
  obtain ⟨fd, F⟩ := F
  exact ⟨f, fd, ps, [], hc, hm, fn_ok F S len b, F.bindsN h, .nil⟩
theorem mak {x qual : Str} {C : Addr} {params : Arguments} {body : List Stmt} {scope : Scope} {N ps : List Str} {k : Nat} {sp : Sp} {f : Addr}
    (F : ∃ fd, FunD K "__init__" qual params body scope [] [] f fd) (M : Mk K C f) (hm : mg x = some (.ref C)) (S : FnScope N ps scope)
    (h : ∀ (kV doc pm : Value) (an : Option Addr) (cdv ct : Value) (us : List Value), us.length = ps.length → bindArgs (PySem.W.fnOf "__init__" qual params body scope .none kV doc pm an cdv ct) ⟨us, []⟩ = pure (ps.zip us))
    (len : ∀ vs H Q E, sp vs H Q E → vs.length = ps.length) (b : Body P w K mg base k N qual scope body f sp) : C8.Mak P w K mg base (k + 1) x C sp [] := by
  obtain ⟨fd, F⟩ := F
  exact ⟨f, fd, ps, [], M, fn_ok F S len b, hm, F.bindsN h, .nil⟩
/-- a class whose __init__ has defaults, called with n values (self counted): the defaults from the j-th on fill up -/
theorem makD {x qual : Str} {C : Addr} {params : Arguments} {body : List Stmt} {scope : Scope} {N ps : List Str} {k : Nat} {sp : Sp} {f : Addr} {dvs : List V} (n j : Nat)
    (F : ∃ fd, FunD K "__init__" qual params body scope dvs [] f fd) (M : Mk K C f) (hm : mg x = some (.ref C)) (S : FnScope N ps scope) (hd : dvs ≠ []) (hn : n + (dvs.length - j) = ps.length)
    (h : ∀ (T : Addr) (kV doc pm : Value) (an : Option Addr) (cdv ct : Value) (us its : List Value), us.length = n → its.length = dvs.length →
      ∃ k, bindArgs (PySem.W.fnOf "__init__" qual params body scope (.ref T) kV doc pm an cdv ct) ⟨us, []⟩ = seqItems? (.ref T) >>= k ∧ k (some its.toArray) = pure (ps.zip (us ++ its.drop j)))
    (len : ∀ vs H Q E, sp vs H Q E → vs.length = ps.length) (b : Body P w K mg base k N qual scope body f sp) : C8.Mak P w K mg base (k + 1) x C sp (dvs.drop j) := by
  obtain ⟨fd, F⟩ := F
  obtain ⟨ds, h1, h2⟩ := F.binds1 n j hd hn h
  exact ⟨f, fd, ps, ds, M, fn_ok F S len b, hm, h2, h1⟩
end
section
variable {X : Cx} {k j : Nat} {x : Str} {sp : Sp} {dvs : List V} {p pos : Pos} {e : Expr} {t u : TE}
/-- f() -/
theorem pe_c0 (c : C8.Cal X.prog X.w X.K X.mg X.base k x sp dvs) (hr : Room j X.A) (hk : k ≤ j) (hg : Gl X x) (hdb : (x == ("__debug__" : Str)) = false := by decide) : PE X (.Call (.Name x p) [] [] pos) (tCall sp dvs C8.E0 tNil) := by
  obtain ⟨f, fd, ps, ds, F, hm, kp, b, d⟩ := c.ex
  exact pe_call0 F (hr.mono hk) hg hm kp b d C8.pass0 hdb
/-- one reading or another one -/
def tEi (t u : TE) : TE := fun σ H Q => t σ H Q ∨ u σ H Q
theorem pe_ei (h1 : PE X e t) (h2 : PE X e u) : PE X e (tEi t u) := ⟨fun pins s σ H Q I h => h.elim (h1.run pins s σ H Q I) (h2.run pins s σ H Q I)⟩
end

/-! ### steps of a reading -/
section
variable {K : PySem.W.Frag} {σ : St} {H : Hp} {Q : VK} {D : Ends} {ta tb te tc : TE} {tt tu : TT} {tA tr : TA} {g : TG} {gs : TGs} {t u : TS} {r : R2} {x y v : V} {f : Str} {E : XK} {C : Addr} {sp : Sp} {dvs : List V} {m : Str}
def FldK (K : PySem.W.Frag) (f : Str) (x : V) (H : Hp) (Q : VK) : Prop := ∃ a C dx fs v, x = .ref a ∧ H a = some (.ins C dx fs) ∧ Cls K C ∧ NoAttr K C f ∧ fs.lookup f = some v ∧ Q v H
theorem fldK {a dx : Addr} {fs : List (Str × V)} (ho : H a = some (.ins C dx fs)) (hc : Cls K C) (hn : NoAttr K C f) (hl : fs.lookup f = some v) (q : Q v H) : FldK K f (.ref a) H Q := ⟨a, C, dx, fs, v, rfl, ho, hc, hn, hl, q⟩
def MtK (C : Addr) (m : Str) (x : V) (H : Hp) (R : Prop) : Prop := ∃ a dx fs, x = .ref a ∧ H a = some (.ins C dx fs) ∧ fs.lookup m = none ∧ R
theorem mtK {a dx : Addr} {fs : List (Str × V)} {R : Prop} (ho : H a = some (.ins C dx fs)) (hl : fs.lookup m = none) (q : R) : MtK C m (.ref a) H R := ⟨a, dx, fs, rfl, ho, hl, q⟩
def TupK (xs : List V) (H : Hp) (Q : VK) : Prop := xs.length ≤ sizeLine ∧ ∀ p, H p = none → Q (.ref p) (upd H p (.tup xs))
theorem tupK {xs : List V} (hl : Nat.ble xs.length 1000 = true) (q : ∀ p H', H p = none → Same H H' → H' p = some (.tup xs) → Q (.ref p) H') : TupK xs H Q :=
  ⟨Nat.le_of_lt (small1000 (Nat.le_of_ble_eq_true hl)), fun p np => q p _ np (same_new np) upd_same⟩
def LstK (xs : List V) (H : Hp) (Q : VK) : Prop := xs.length ≤ sizeLine ∧ ∀ p, H p = none → Q (.ref p) (upd H p (.lst xs))
theorem lstK {xs : List V} (hl : Nat.ble xs.length 1000 = true) (q : ∀ p H', H p = none → Same H H' → H' p = some (.lst xs) → Q (.ref p) H') : LstK xs H Q :=
  ⟨Nat.le_of_lt (small1000 (Nat.le_of_ble_eq_true hl)), fun p np => q p _ np (same_new np) upd_same⟩
def BlK (x : V) (R : Bool → Prop) : Prop := ∃ c, x = .bl c ∧ R c
theorem blK {c : Bool} {R : Bool → Prop} (q : R c) : BlK (.bl c) R := ⟨c, rfl, q⟩
def IteK (c : Bool) (A B : Prop) : Prop := if c = true then A else B
theorem iteK_t {A B : Prop} (q : A) : IteK true A B := q
theorem iteK_f {A B : Prop} (q : B) : IteK false A B := by
  unfold IteK
  rw [if_neg Bool.false_ne_true]
  exact q
theorem iteK {c : Bool} {A B : Prop} (h1 : c = true → A) (h2 : c = false → B) : IteK c A B := by
  cases c
  · exact iteK_f (h2 rfl)
  · exact iteK_t (h1 rfl)
theorem iteK_y {c : Bool} {A B : Prop} (h : c = true) (q : A) : IteK c A B := by
  subst h
  exact iteK_t q
theorem iteK_n {c : Bool} {A B : Prop} (h : c = false) (q : B) : IteK c A B := by
  subst h
  exact iteK_f q
theorem x_var {i : Nat} (h : σ[i]? = some (some v)) (q : Q v H) : tVar i σ H Q := ⟨v, h, q⟩
theorem x_c (q : Q v H) : tC v σ H Q := q
theorem x_op (q : ta σ H fun x H1 => tb σ H1 fun y H2 => r x y H2 Q) : tOp r ta tb σ H Q := q
theorem x_fld (q : ta σ H fun x H1 => FldK K f x H1 Q) : tFld K ta f σ H Q := q
theorem x_call (q : tA σ H fun vs H1 => sp (vs ++ dvs) H1 Q E) : tCall sp dvs E tA σ H Q := q
theorem x_meth (q : ta σ H fun x H1 => MtK C m x H1 (tA σ H1 fun vs H2 => sp (x :: (vs ++ dvs)) H2 Q E)) : tMeth C m sp dvs E ta tA σ H Q := q
theorem x_cb {rc : List V → Hp → VK → Prop} (q : tA σ H fun vs H1 => rc vs H1 Q) : tCB rc tA σ H Q := q
theorem x_tup (q : tA σ H fun xs H1 => TupK xs H1 Q) : tTup tA σ H Q := q
theorem x_lst (q : tA σ H fun xs H1 => LstK xs H1 Q) : tLst tA σ H Q := q
theorem x_nil {Q : List V → Hp → Prop} (q : Q [] H) : tNil σ H Q := q
theorem x_cons {Q : List V → Hp → Prop} (q : ta σ H fun x H1 => tr σ H1 fun xs H2 => Q (x :: xs) H2) : tCons ta tr σ H Q := q
theorem x_if (q : tt σ H fun c H1 => IteK c (ta σ H1 Q) (tb σ H1 Q)) : tIf tt ta tb σ H Q := q
theorem x_andV (q : ta σ H fun x H1 => BlK x fun c => IteK c (tb σ H1 Q) (Q (.bl false) H1)) : tAndV ta tb σ H Q := q
theorem x_orV (q : ta σ H fun x H1 => BlK x fun c => IteK c (Q (.bl true) H1) (tb σ H1 Q)) : tOrV ta tb σ H Q := q
theorem x_notV (q : ta σ H fun x H1 => BlK x fun c => Q (.bl (!c)) H1) : tNotV ta σ H Q := q
theorem x_test {Q : Bool → Hp → Prop} (q : te σ H fun x H1 => BlK x fun c => Q c H1) : tTest te σ H Q := q
theorem x_tB {Q : Bool → Hp → Prop} (q : te σ H fun x H1 => BlK x fun c => Q c H1) : tB te σ H Q := q
theorem x_and {Q : Bool → Hp → Prop} (q : tt σ H fun c H1 => IteK c (tu σ H1 Q) (Q false H1)) : tAnd tt tu σ H Q := q
theorem x_or {Q : Bool → Hp → Prop} (q : tt σ H fun c H1 => IteK c (Q true H1) (tu σ H1 Q)) : tOr tt tu σ H Q := q
theorem x_not {Q : Bool → Hp → Prop} (q : tt σ H fun c H1 => Q (!c) H1) : tNot tt σ H Q := q
theorem x_yes {Q : Bool → Hp → Prop} (q : Q true H) : tYes σ H Q := q
def ChK (r' : R2) (tc : TE) (σ : St) (y : V) (Q : VK) : VK := fun z H3 => ∃ k, z = .bl k ∧ (if k = true then tc σ H3 fun w H4 => r' y w H4 Q else Q (.bl false) H3)
/-- statements -/
theorem x_seq (q : t { D with nx := u D } σ H) : tSeq t u D σ H := q
theorem x_next (q : D.nx σ H) : tNext D σ H := q
theorem x_asg (q : te σ H fun x H1 => g x σ H1 D.nx) : tAsg te g D σ H := q
theorem x_name {i : Nat} {Q : St → Hp → Prop} (q : Q (σ.set i (some v)) H) : gName i v σ H Q := q
theorem x_ret (q : te σ H D.rt) : tRet te D σ H := q
theorem x_retN (q : D.rt .non H) : tRetN D σ H := q
theorem x_drop (q : te σ H fun _ H1 => D.nx σ H1) : tDrop te D σ H := q
theorem x_ifS (q : tt σ H fun b H1 => IteK b (t D σ H1) (u D σ H1)) : tIfS tt t u D σ H := q
def GtK (K : PySem.W.Frag) (n : Nat) (t : TGs) (v : V) (σ : St) (H : Hp) (Q : St → Hp → Prop) : Prop := ∃ a xs, v = .ref a ∧ SqT K H a xs ∧ xs.length = n ∧ t xs σ H Q
theorem x_gtup {n : Nat} {a : Addr} {xs : List V} {Q : St → Hp → Prop} (h : SqT K H a xs) (hl : xs.length = n) (q : gs xs σ H Q) : gTup K n gs (.ref a) σ H Q := ⟨a, xs, rfl, h, hl, q⟩
theorem x_gnil {Q : St → Hp → Prop} (q : Q σ H) : gNil [] σ H Q := ⟨rfl, q⟩
theorem x_gcons {vs : List V} {Q : St → Hp → Prop} (q : g v σ H fun σ' H' => gs vs σ' H' Q) : gCons g gs (v :: vs) σ H Q := ⟨v, vs, rfl, q⟩
def SfK (K : PySem.W.Frag) (f : Str) (x y : V) (H : Hp) (R : Hp → Prop) : Prop := ∃ a C dx fs, x = .ref a ∧ H a = some (.ins C dx fs) ∧ Cls K C ∧ NoAttr K C f ∧ fs.length < 1000 ∧ R (upd H a (.ins C dx (putF f y fs)))
theorem sfK {a dx : Addr} {fs : List (Str × V)} {R : Hp → Prop} (ho : H a = some (.ins C dx fs)) (hc : Cls K C) (hn : NoAttr K C f) (hl : fs.length < 1000) (q : R (upd H a (.ins C dx (putF f y fs)))) : SfK K f (.ref a) y H R := ⟨a, C, dx, fs, rfl, ho, hc, hn, hl, q⟩
theorem x_sfld {tv : TE} (q : tv σ H fun y H1 => ta σ H1 fun x H2 => SfK K f x y H2 (D.nx σ)) : sFld K ta tv f D σ H := q
/-- operators by values -/
theorem r_I0 {g : Int → Int → V} {i j : Int} (q : Q (g i j) H) : rI0 g (.int i) (.int j) H Q := ⟨i, j, rfl, rfl, q⟩
theorem r_I {c : Int → Int → Prop} {g : Int → Int → V} {i j : Int} (hc : c i j) (q : Q (g i j) H) : rI c g (.int i) (.int j) H Q := ⟨i, j, rfl, rfl, hc, q⟩
theorem r_eq (h : scal x y = true) (q : Q (.bl (decide (x = y))) H) : rEq x y H Q := ⟨h, q⟩
theorem r_ne (h : scal x y = true) (q : Q (.bl (!decide (x = y))) H) : rNe x y H Q := ⟨h, q⟩
theorem r_isN (q : Q (.bl (decide (x = .non))) H) : rIsN x .non H Q := ⟨rfl, q⟩
theorem r_notN (q : Q (.bl (!decide (x = .non))) H) : rNotN x .non H Q := ⟨rfl, q⟩
theorem r_eqD {d e : PyData} (hd : Dp K H x d) (he : Dp K H y e) (sd : SeqAt.shaped d = true) (se : SeqAt.shaped e = true) (q : Q (.bl (PyData.eqv d e)) H) : rEqD K x y H Q := ⟨d, e, hd, he, sd, se, q⟩
theorem r_neD {d e : PyData} (hd : Dp K H x d) (he : Dp K H y e) (sd : SeqAt.shaped d = true) (se : SeqAt.shaped e = true) (q : Q (.bl (!PyData.eqv d e)) H) : rNeD K x y H Q := ⟨d, e, hd, he, sd, se, q⟩
theorem r_inT {neg : Bool} {p : Addr} {xs : List V} (h : SqT K H p xs) (hx : flatV x = true) (ha : xs.all flatV = true) (q : Q (.bl (if neg then !inV x xs else inV x xs)) H) : rIn K neg x (.ref p) H Q := ⟨p, xs, rfl, Or.inr h, hx, ha, q⟩
theorem r_inL {neg : Bool} {p : Addr} {xs : List V} (h : SqL K H p xs) (hx : flatV x = true) (ha : xs.all flatV = true) (q : Q (.bl (if neg then !inV x xs else inV x xs)) H) : rIn K neg x (.ref p) H Q := ⟨p, xs, rfl, Or.inl h, hx, ha, q⟩
theorem r_ixL {p : Addr} {xs : List V} {i : Int} (h : SqL K H p xs) (ha : atI xs i = some v) (q : Q v H) : rIxL K (.ref p) (.int i) H Q := ⟨p, xs, i, v, rfl, rfl, h, ha, q⟩
theorem r_ixT {p : Addr} {xs : List V} {i : Int} (h : SqT K H p xs) (ha : atI xs i = some v) (q : Q v H) : rIxT K (.ref p) (.int i) H Q := ⟨p, xs, i, v, rfl, rfl, h, ha, q⟩
end
end Tw
namespace Tw
open PySem PySem.Spec L2
/-! ### rules with the written part named -/
section
variable {X : Cx} {K : PySem.W.Frag}
theorem op_eqD' (hK : X.K = K) (hu : X.A.units + 64 < cLine) : OpR X (compareOp .Eq) (rEqD K) := hK ▸ op_eqD hu
theorem op_neD' (hK : X.K = K) (hu : X.A.units + 64 < cLine) : OpR X (compareOp .NotEq) (rNeD K) := hK ▸ op_neD hu
theorem op_in' (hK : X.K = K) : OpR X (compareOp .In) (rIn K false) := hK ▸ op_in_seq
theorem op_notIn' (hK : X.K = K) : OpR X (compareOp .NotIn) (rIn K true) := hK ▸ op_notIn_seq
theorem op_inD' (hK : X.K = K) (hu : X.A.units + 65 < cLine) : OpR X (compareOp .In) (rInD K) := hK ▸ op_inD hu
theorem op_catA' (hK : X.K = K) : OpR X (binaryOp .Add) (rCatA K) := hK ▸ op_catA
theorem ix_list' (hK : X.K = K) : IxR X (rIxL K) := hK ▸ ix_list
theorem ix_tup' (hK : X.K = K) : IxR X (rIxT K) := hK ▸ ix_tup
theorem sl_list' (hK : X.K = K) : SlR X (rSlL K) := hK ▸ sl_list
theorem sl_tupA' (hK : X.K = K) : SlR X (rSlA K) := hK ▸ sl_tupA
def rLenS (K : PySem.W.Frag) : List V → Hp → VK → Prop := fun xs H Q => ∃ p ys, xs = [.ref p] ∧ (SqL K H p ys ∨ SqT K H p ys) ∧ Q (.int ys.length) H
theorem cr_len (hK : X.K = K) : CallR X (.builtin "len") (rLenS K) := hK ▸ call_len_seq
def rLenT : List V → Hp → VK → Prop := fun xs H Q => ∃ z, xs = [.str z] ∧ z.length ≤ sizeLine ∧ Q (.int z.length) H
theorem cr_lenS : CallR X (.builtin "len") rLenT := call_len_str
def rListS (K : PySem.W.Frag) : List V → Hp → VK → Prop := fun xs H Q => ∃ p ys, xs = [.ref p] ∧ (SqL K H p ys ∨ SqT K H p ys) ∧ ∀ l, H l = none → Q (.ref l) (upd H l (.lst ys))
theorem cr_list (hK : X.K = K) : CallR X (.type "list") (rListS K) := hK ▸ call_list_of
def rTupS (K : PySem.W.Frag) : List V → Hp → VK → Prop := fun xs H Q => ∃ p ys, xs = [.ref p] ∧ ((SqL K H p ys ∧ ∀ l, H l = none → Q (.ref l) (upd H l (.tup ys))) ∨ (SqT K H p ys ∧ Q (.ref p) H))
theorem cr_tuple (hK : X.K = K) : CallR X (.type "tuple") (rTupS K) := hK ▸ call_tuple_of
theorem cr_isi (hK : X.K = K) : CallR X (.builtin "isinstance") (rIsi K) := hK ▸ call_isi
theorem cr_all' (hK : X.K = K) (hc : X.calm = true) : CallR X (.builtin "all") (rAll K) := hK ▸ cr_all hc
theorem cr_sortS' (hK : X.K = K) : CallR X (.builtin "sorted") (rSortedS K) := hK ▸ cr_sortedS
variable {e : Expr} {ta : TE} {f : Str} {pos : Pos} {es : List Expr} {k n : Nat} {gs : TGs} {tg : Expr}
theorem pe_fld' (hK : X.K = K) (he : PE X e ta) (hb : attributeBase e f X.env (eval e X.env) = eval e X.env := by rfl) : PE X (.Attribute e f pos) (tFld K ta f) := hK ▸ pe_fld he hb
theorem pg_tup' (hK : X.K = K) (hc : X.calm = true) (h : PGs X es gs) (hn : (assignEach es X.env).length = n := by rfl) (hst : (assignEach es X.env).findIdx? (·.1) = none := by rfl) : PG X (.Tuple es k pos) (gTup K n gs) := hK ▸ pg_tup hc h hn hst
theorem pi_list' (hK : X.K = K) (h : PE X e ta) : PI X tg e (iList K ta) := hK ▸ pi_list h
theorem pi_tup' (hK : X.K = K) (h : PE X e ta) : PI X tg e (iTup K ta) := hK ▸ pi_tup h
end
end Tw
namespace Tw
open PySem PySem.Spec L2
/-! ### a heap but for one object -/
def del (D : Addr) (H : Hp) : Hp := fun b => if b = D then none else H b
theorem del_at {D b : Addr} {H : Hp} {o : HO} (h : H b = some o) (n : b ≠ D) : del D H b = some o := by
  unfold del
  rw [if_neg n]
  exact h
theorem del_self {D : Addr} {H : Hp} : del D H D = none := by
  unfold del
  rw [if_pos rfl]
theorem of_del {D b : Addr} {H : Hp} {o : HO} (h : del D H b = some o) : H b = some o ∧ b ≠ D := by
  unfold del at h
  split at h
  · cases h
  · rename_i n
    exact ⟨h, n⟩
theorem del_le {D : Addr} {H : Hp} : Same (del D H) H := fun _ _ h => (of_del h).1
theorem del_mono {D : Addr} {H H' : Hp} (s : Same H H') : Same (del D H) (del D H') := fun b o h => del_at (s b o (of_del h).1) (of_del h).2
theorem del_upd {D : Addr} {H : Hp} {o : HO} : del D (upd H D o) = del D H := by
  funext b
  unfold del
  by_cases e : b = D
  · rw [if_pos e, if_pos e]
  · rw [if_neg e, if_neg e, upd_ne e]
theorem del_none {D : Addr} {H H' : Hp} (s : Same H H') (n : H D = none) : Same H (del D H') := fun b o h => del_at (s b o h) (ne_of_none h n)
/-- D is a list that has been made behind H and holds ys -/
structure Mk1 (H : Hp) (D : Addr) (H' : Hp) (ys : List V) : Prop where
  nw : H D = none
  sm : Same H (del D H')
  at_ : H' D = some (.lst ys)
theorem mk1 {H : Hp} {D : Addr} (n : H D = none) : Mk1 H D (upd H D (.lst [])) [] := ⟨n, by rw [del_upd]; exact del_none (Same.refl H) n, upd_same⟩
theorem mk1_of {H H' : Hp} {D : Addr} {ys : List V} (n : H D = none) (s : Same H H') (h : H' D = some (.lst ys)) : Mk1 H D H' ys := ⟨n, del_none s n, h⟩
theorem Mk1.same {H H' : Hp} {D : Addr} {ys : List V} (m : Mk1 H D H' ys) : Same H H' := m.sm.trans del_le
theorem Mk1.grow {H H' H2 : Hp} {D : Addr} {ys : List V} (m : Mk1 H D H' ys) (s : Same H' H2) : Mk1 H D H2 ys := ⟨m.nw, m.sm.trans (del_mono s), s _ _ m.at_⟩
theorem Mk1.upd {H H' : Hp} {D : Addr} {ys zs : List V} (m : Mk1 H D H' ys) : Mk1 H D (L2.upd H' D (.lst zs)) zs := ⟨m.nw, by rw [del_upd]; exact m.sm, upd_same⟩
theorem take_succ' {α : Type} {l : List α} {i : Nat} {x : α} (h : l[i]? = some x) : l.take (i + 1) = l.take i ++ [x] := by
  rw [List.take_add_one, h] <;> rfl
theorem map_get {α β : Type} {f : α → β} {l : List α} {i : Nat} {y : β} (h : (l.map f)[i]? = some y) : ∃ x, l[i]? = some x ∧ f x = y := by
  rw [List.getElem?_map] at h
  cases q : l[i]? with
  | none => rw [q] at h; cases h
  | some x => rw [q] at h; exact ⟨x, rfl, Option.some.inj h⟩
theorem get_lt {α : Type} {l : List α} {i : Nat} {x : α} (h : l[i]? = some x) : i < l.length := (List.getElem?_eq_some_iff.mp h).1
theorem dpa_snoc {K : PySem.W.Frag} {H : Hp} {vs : List V} {ds : List PyData} {v : V} {d : PyData} (a : DpAll K H vs ds) (b : Dp K H v d) : DpAll K H (vs ++ [v]) (ds ++ [d]) := dpa_app a (.cons b .nil)
theorem small {n : Nat} (h : n ≤ 1000) : n < sizeLine := small1000 h
theorem u65 {A : Around} {k : Nat} (hr : Room k A) : A.units + 65 < cLine := by
  have := hr.un
  omega
end Tw
namespace Tw
open PySem PySem.Spec L2
/-! ### new instances -/
section
variable {K : PySem.W.Frag} {σ : St} {H : Hp} {Q : VK} {E : XK} {C : Addr} {tA : TA} {dvs : List V}
/-- what an __init__ that only stores its arguments promises -/
def spNew (C : Addr) (F : List V → List (Str × V)) (n : Nat) : Sp := fun vs H Q _ => ∃ p dx as, vs = .ref p :: as ∧ as.length = n ∧ H p = some (.ins C dx []) ∧
  ∀ H', H' p = some (.ins C dx (F as)) → (∀ b o, H b = some o → b ≠ p → H' b = some o) → Q .non H'
def MakeK (C : Addr) (sp : Sp) (as : List V) (H : Hp) (Q : VK) (E : XK) : Prop := ∀ x dx, H x = none → H dx = none → dx ≠ x → sp (.ref x :: as) (upd (upd H dx (.own x)) x (.ins C dx [])) (fun v H2 => v = .non ∧ Q (.ref x) H2) E
theorem x_make {sp : Sp} (q : tA σ H fun vs H1 => MakeK C sp (vs ++ dvs) H1 Q E) : tMake C sp dvs E tA σ H Q := q
theorem mk_new {F : List V → List (Str × V)} {n : Nat} {as : List V} (hl : as.length = n) (q : ∀ p H' dx, H p = none → Same H H' → H' p = some (.ins C dx (F as)) → Q (.ref p) H') : MakeK C (spNew C F n) as H Q E :=
  fun x dx nx nd _ => ⟨x, dx, as, rfl, hl, upd_same, fun H' e k => ⟨rfl, q x H' dx nx (Same.made nx nd k) e⟩⟩
theorem putF_small {f : Str} {v : V} {fs : List (Str × V)} {n : Nat} (h : fs.length ≤ n) : (putF f v fs).length ≤ n + 1 := Nat.le_trans (length_putF f v fs) (Nat.succ_le_succ h)
theorem sfK1 {a dx : Addr} {fs : List (Str × V)} {R : Hp → Prop} {f : Str} {y : V} (ho : H a = some (.ins C dx fs)) (hc : Cls K C) (hn : NoAttr K C f) (hl : fs.length ≤ 900) (q : R (upd H a (.ins C dx (putF f y fs)))) : SfK K f (.ref a) y H R :=
  sfK ho hc hn (Nat.lt_of_le_of_lt hl (by decide)) q
theorem same_at' {H H' : Hp} {p : Addr} {o : HO} (s : Same H H') (h : H p = some o) : H' p = some o := s p o h
end
end Tw
set_option maxHeartbeats 4000000
/-! The data of a world and of a stand. -/
namespace Tw
open PySem PySem.Spec L2
/-! ### stands -/
abbrev Part := Str × Str
inductive Vl where
  | s (x : Str) | n (i : Int)
  deriving DecidableEq
def Vl.v : Vl → V
  | .s x => .str x
  | .n i => .int i
def Vl.d : Vl → PyData
  | .s x => .str x
  | .n i => .int i
abbrev OkS (x : Str) : Prop := PyData.strOk x = true
def Vl.ok : Vl → Prop
  | .s x => OkS x
  | .n _ => True
def OkP (p : Part) : Prop := OkS p.1 ∧ OkS p.2
def partD (p : Part) : PyData := .tuple [.str p.1, .str p.2]
abbrev Stand := List (Part × Vl)
def pairD (e : Part × Vl) : PyData := .tuple [partD e.1, e.2.d]
def standD (S : Stand) : PyData := .tuple (S.map pairD)
def OkStand (S : Stand) : Prop := ∀ e ∈ S, OkP e.1 ∧ e.2.ok
def look : Stand → Part → Option Vl
  | [], _ => none
  | e :: r, p => if e.1 = p then some e.2 else look r p
def vO : Option Vl → V
  | some x => x.v
  | none => .non
def putS (S : Stand) (p : Part) (x : Vl) : Stand := S.map fun e => if e.1 = p then (e.1, x) else e
theorem vl_dp {K : PySem.W.Frag} {H : Hp} (x : Vl) : Dp K H x.v x.d := by
  cases x with
  | s x => exact .str x
  | n i => exact .int i
theorem dp_vl {K : PySem.W.Frag} {H : Hp} {v : V} {x : Vl} (h : Dp K H v x.d) : v = x.v := by
  cases x with
  | s x => exact dp_str h
  | n i => exact dp_int h
theorem eqv_part (p q : Part) : PyData.eqv (partD p) (partD q) = decide (p = q) := by
  obtain ⟨a, b⟩ := p
  obtain ⟨c, d⟩ := q
  simp only [partD, PyData.eqv, PyData.eqvAll, Bool.and_true]
  by_cases h1 : a = c
  · by_cases h2 : b = d
    · simp [h1, h2]
    · simp [h1, h2]
  · simp [h1]
theorem shaped_part {p : Part} (h : OkP p) : SeqAt.shaped (partD p) = true := by
  obtain ⟨h1, h2⟩ := h
  simp only [OkS] at h1 h2
  simp [SeqAt.shaped, partD, PyData.canLay0, PyData.canLayAll0, PyData.depth, PyData.depthAll, h1, h2]
theorem dp_part {K : PySem.W.Frag} {H : Hp} {a : Addr} {p : Part} (h : H a = some (.tup [.str p.1, .str p.2])) : Dp K H (.ref a) (partD p) :=
  .tup (.of h) (.cons (.str _) (.cons (.str _) .nil))
theorem part_dp {K : PySem.W.Frag} {H : Hp} {v : V} {p : Part} (h : Dp K H v (partD p)) : ∃ a, v = .ref a ∧ SqT K H a [.str p.1, .str p.2] := by
  obtain ⟨a, xs, rfl, h1, h2⟩ := dp_tuple h
  cases h2 with
  | cons x1 h2 =>
    cases h2 with
    | cons x2 h2 =>
      cases h2
      rw [dp_str x1, dp_str x2] at h1
      exact ⟨a, rfl, h1⟩
theorem pair_dp {K : PySem.W.Frag} {H : Hp} {v : V} {e : Part × Vl} (h : Dp K H v (pairD e)) : ∃ a pv, v = .ref a ∧ SqT K H a [pv, e.2.v] ∧ Dp K H pv (partD e.1) := by
  obtain ⟨a, xs, rfl, h1, h2⟩ := dp_tuple h
  cases h2 with
  | cons x1 h2 =>
    cases h2 with
    | cons x2 h2 =>
      cases h2
      rw [dp_vl x2] at h1
      exact ⟨a, _, rfl, h1, x1⟩
theorem look_none {S : Stand} {p : Part} (h : ∀ (i : Nat) e, S[i]? = some e → e.1 ≠ p) : look S p = none := by
  induction S with
  | nil => rfl
  | cons e r ih =>
    unfold look
    rw [if_neg (h 0 e rfl)]
    exact ih fun i e' q => h (i + 1) e' (by simpa using q)
theorem look_first {S : Stand} {p : Part} {i : Nat} {e : Part × Vl} (h : ∀ (j : Nat) e', j < i → S[j]? = some e' → e'.1 ≠ p) (hi : S[i]? = some e) (he : e.1 = p) : look S p = some e.2 := by
  induction S generalizing i with
  | nil => simp at hi
  | cons e0 r ih =>
    unfold look
    cases i with
    | zero =>
      have : e0 = e := by simpa using hi
      subst this
      rw [if_pos he]
    | succ i =>
      rw [if_neg (h 0 e0 (Nat.succ_pos _) rfl)]
      exact ih (fun j e' hj q => h (j + 1) e' (Nat.succ_lt_succ hj) (by simpa using q)) (by simpa using hi)
end Tw
set_option maxHeartbeats 4000000
/-! Classes that only store their arguments. Printed by gen_new.py. -/
namespace Tw
open PySem PySem.Spec L2
local macro_rules | `(tactic| walk_at "rd1") => `(tactic| first
  | with_reducible refine x_seq ?_
  | ((with_reducible refine x_var (v := ?vv) ?hh ?_); case hh => exact rfl)
  | with_reducible refine x_c ?_
  | with_reducible refine x_op ?_
  | with_reducible refine x_fld ?_
  | with_reducible refine x_call ?_
  | with_reducible refine x_meth ?_
  | with_reducible refine x_make ?_
  | with_reducible refine x_cb ?_
  | with_reducible refine x_tup ?_
  | with_reducible refine x_lst ?_
  | with_reducible refine x_nil ?_
  | with_reducible refine x_cons ?_
  | with_reducible refine x_asg ?_
  | with_reducible refine x_name ?_
  | with_reducible refine x_ret ?_
  | with_reducible refine x_retN ?_
  | with_reducible refine x_drop ?_
  | with_reducible refine x_ifS ?_
  | with_reducible refine x_if ?_
  | with_reducible refine x_andV ?_
  | with_reducible refine x_orV ?_
  | with_reducible refine x_notV ?_
  | with_reducible refine x_test ?_
  | with_reducible refine x_tB ?_
  | with_reducible refine x_and ?_
  | with_reducible refine x_or ?_
  | with_reducible refine x_not ?_
  | with_reducible refine x_yes ?_
  | with_reducible refine x_next ?_
  | with_reducible refine x_sfld ?_
  | with_reducible refine blK ?_
  | with_reducible refine r_I0 ?_
  | with_reducible refine r_isN ?_
  | with_reducible refine r_notN ?_
  | ((with_reducible refine r_eq ?hh ?_); case hh => exact rfl)
  | ((with_reducible refine r_ne ?hh ?_); case hh => exact rfl)
  | with_reducible refine x_gnil ?_
  | with_reducible refine x_gcons ?_)
local macro_rules | `(tactic| walk_at "rd2") => `(tactic| first
  | walk_at "rd1"
  | with_reducible refine x_lc ?_
  | with_reducible refine x_for ?_
  | with_reducible refine x_itup ?_
  | with_reducible refine x_ilist ?_
  | with_reducible refine x_rng1 ?_
  | with_reducible refine x_bm ?_
  | with_reducible refine x_chain ?_
  | with_reducible refine x_istr ?_
  | with_reducible refine strK ?_
  | with_reducible refine x_sl ?_
  | with_reducible refine x_part ?_
  | with_reducible refine x_noPart ?_
  | with_reducible refine poK ?_
  | ((with_reducible refine ltK ?hh ?_); case hh => exact rfl)
  | ((with_reducible refine ltKx ?hh ?_); case hh => exact rfl)
  | with_reducible refine x_dput ?_
  | with_reducible refine x_dget ?_
  | with_reducible refine iteK_t ?_
  | with_reducible refine iteK_nf ?_
  | with_reducible refine iteK_nt ?_
  | with_reducible refine iteK_f ?_)
local macro_rules | `(tactic| walk_at "go") => `(tactic| repeat (walk_at "rd2"))
local macro_rules | `(tactic| walk_at "rd") => `(tactic| repeat (walk_at "rd1"))
local macro_rules | `(tactic| walk_at "at") => `(tactic| repeat (first | assumption | refine same_at' (by assumption) ?_))
local macro_rules | `(tactic| walk_at "sm") => `(tactic| repeat (first | exact Same.refl _ | assumption | refine Same.trans ?_ (by assumption)))
local macro_rules | `(tactic| walk_at "mk1") => `(tactic| first
  | with_reducible refine mk_new rfl fun _ _ _ _ _ _ => ?_
  | with_reducible refine lstK rfl fun _ _ _ _ _ => ?_
  | with_reducible refine tupK rfl fun _ _ _ _ _ => ?_
  | with_reducible refine mk_rule4 (SqL.of (by walk_at "at")) (SqL.of (by walk_at "at")) fun _ _ _ _ => ?_
  | with_reducible refine mk_rule (SqL.of (by walk_at "at")) (SqL.of (by walk_at "at")) fun _ _ _ _ => ?_
  | with_reducible refine c_refusal (SqL.of (by walk_at "at")) fun _ _ _ _ => ?_)
local macro_rules | `(tactic| walk_at "mk") => `(tactic| repeat (first | walk_at "rd2" | walk_at "mk1"))
local macro_rules | `(tactic| walk_at "ar1") => `(tactic| ((with_reducible refine r_I ?hh ?_); case hh => first | exact (show (0 : Int) < _ from by decide +kernel) | exact And.intro (by decide +kernel) (by decide +kernel) | exact Or.inr (And.intro (by decide +kernel) (by decide +kernel)) | exact Or.inl (And.intro (by decide +kernel) (by decide +kernel)) | exact And.intro (by decide +kernel) (And.intro (by decide +kernel) (by decide +kernel))))
local macro_rules | `(tactic| walk_at "ar") => `(tactic| repeat (first | walk_at "rd2" | walk_at "ar1"))

section
variable {P : Program} {w : World} {K : PySem.W.Frag} {mg : Str → Option Value} {base : Heap}
def F_Thing : List V → List (Str × V)
  | [a, b, c, d] => putF "start" d (putF "kind" c (putF "words" b (putF "name" a [])))
  | _ => []
theorem l_Thing_name (a b c d : V) : (F_Thing [a, b, c, d]).lookup ("name" : Str) = some a := by kernel_rfl
theorem l_Thing_words (a b c d : V) : (F_Thing [a, b, c, d]).lookup ("words" : Str) = some b := by kernel_rfl
theorem l_Thing_kind (a b c d : V) : (F_Thing [a, b, c, d]).lookup ("kind" : Str) = some c := by kernel_rfl
theorem l_Thing_start (a b c d : V) : (F_Thing [a, b, c, d]).lookup ("start" : Str) = some d := by kernel_rfl
theorem sc_Thing_new : FnScope ["self", "name", "words", "kind", "start"] ["self", "name", "words", "kind", "start"] (defScope s_Thing_new) := ⟨rfl, rfl, rfl, by decide +kernel, rfl, by decide +kernel, by decide +kernel⟩
theorem ok_Thing (t : T K mg) : C8.Mak P w K mg base 1 "Thing" (He.ga K "Thing") (spNew (He.ga K "Thing") F_Thing 4) [] := by
  refine makD 5 1 t.f_Thing_new t.k_Thing t.g_Thing sc_Thing_new (by decide) rfl (fun _ _ _ _ _ _ _ us its hl hi => match us, hl, its, hi with | [_, _, _, _, _], _, [_], _ => ⟨_, rfl, rfl⟩) (fun vs H Q E h => ?_) fun cdv A outer s H vs Q E hr h => ?_
  · obtain ⟨p, dx, as, rfl, hl, _⟩ := h
    exact congrArg Nat.succ hl
  · obtain ⟨p, dx, as, rfl, hl, hp, k⟩ := h
    obtain ⟨a, b, c, d, rfl⟩ : ∃ a b c d, as = [a, b, c, d] := match as, hl with
      | [a, b, c, d], _ => ⟨a, b, c, d, rfl⟩
    refine ⟨_, (pss_cons (ps_fld (L2.pv 0) (L2.pv 1) rfl)
      (pss_cons (ps_fld (L2.pv 0) (L2.pv 2) rfl)
      (pss_cons (ps_fld (L2.pv 0) (L2.pv 3) rfl)
      (pss_one (ps_fld (L2.pv 0) (L2.pv 4) rfl))))), ?_⟩
    walk_at "rd"
    refine sfK1 hp t.c_Thing t.n_Thing_name (Nat.le_trans (Nat.le_refl 0 : ([] : List (Str × V)).length ≤ 0) (by decide)) ?_
    walk_at "rd"
    refine sfK1 upd_same t.c_Thing t.n_Thing_words (Nat.le_trans (putF_small (Nat.le_refl 0 : ([] : List (Str × V)).length ≤ 0)) (by decide)) ?_
    walk_at "rd"
    refine sfK1 upd_same t.c_Thing t.n_Thing_kind (Nat.le_trans (putF_small (putF_small (Nat.le_refl 0 : ([] : List (Str × V)).length ≤ 0))) (by decide)) ?_
    walk_at "rd"
    refine sfK1 upd_same t.c_Thing t.n_Thing_start (Nat.le_trans (putF_small (putF_small (putF_small (Nat.le_refl 0 : ([] : List (Str × V)).length ≤ 0)))) (by decide)) ?_
    walk_at "rd"
    exact k _ upd_same fun b o e hb => by
      rw [upd_ne hb, upd_ne hb, upd_ne hb, upd_ne hb]
      exact e
def F_Mark : List V → List (Str × V)
  | [a, b, c] => putF "most" c (putF "start" b (putF "name" a []))
  | _ => []
theorem l_Mark_name (a b c : V) : (F_Mark [a, b, c]).lookup ("name" : Str) = some a := by kernel_rfl
theorem l_Mark_start (a b c : V) : (F_Mark [a, b, c]).lookup ("start" : Str) = some b := by kernel_rfl
theorem l_Mark_most (a b c : V) : (F_Mark [a, b, c]).lookup ("most" : Str) = some c := by kernel_rfl
theorem sc_Mark_new : FnScope ["self", "name", "start", "most"] ["self", "name", "start", "most"] (defScope s_Mark_new) := ⟨rfl, rfl, rfl, by decide +kernel, rfl, by decide +kernel, by decide +kernel⟩
theorem ok_Mark (t : T K mg) : C8.Mak P w K mg base 1 "Mark" (He.ga K "Mark") (spNew (He.ga K "Mark") F_Mark 3) [] := by
  refine mak t.f_Mark_new t.k_Mark t.g_Mark sc_Mark_new (fun _ _ _ _ _ _ us hl => match us, hl with | [_, _, _, _], _ => rfl) (fun vs H Q E h => ?_) fun cdv A outer s H vs Q E hr h => ?_
  · obtain ⟨p, dx, as, rfl, hl, _⟩ := h
    exact congrArg Nat.succ hl
  · obtain ⟨p, dx, as, rfl, hl, hp, k⟩ := h
    obtain ⟨a, b, c, rfl⟩ : ∃ a b c, as = [a, b, c] := match as, hl with
      | [a, b, c], _ => ⟨a, b, c, rfl⟩
    refine ⟨_, (pss_cons (ps_fld (L2.pv 0) (L2.pv 1) rfl)
      (pss_cons (ps_fld (L2.pv 0) (L2.pv 2) rfl)
      (pss_one (ps_fld (L2.pv 0) (L2.pv 3) rfl)))), ?_⟩
    walk_at "rd"
    refine sfK1 hp t.c_Mark t.n_Mark_name (Nat.le_trans (Nat.le_refl 0 : ([] : List (Str × V)).length ≤ 0) (by decide)) ?_
    walk_at "rd"
    refine sfK1 upd_same t.c_Mark t.n_Mark_start (Nat.le_trans (putF_small (Nat.le_refl 0 : ([] : List (Str × V)).length ≤ 0)) (by decide)) ?_
    walk_at "rd"
    refine sfK1 upd_same t.c_Mark t.n_Mark_most (Nat.le_trans (putF_small (putF_small (Nat.le_refl 0 : ([] : List (Str × V)).length ≤ 0))) (by decide)) ?_
    walk_at "rd"
    exact k _ upd_same fun b o e hb => by
      rw [upd_ne hb, upd_ne hb, upd_ne hb]
      exact e
def F_At : List V → List (Str × V)
  | [a, b] => putF "place" b (putF "term" a [])
  | _ => []
theorem l_At_term (a b : V) : (F_At [a, b]).lookup ("term" : Str) = some a := by kernel_rfl
theorem l_At_place (a b : V) : (F_At [a, b]).lookup ("place" : Str) = some b := by kernel_rfl
theorem sc_At_new : FnScope ["self", "term", "place"] ["self", "term", "place"] (defScope s_At_new) := ⟨rfl, rfl, rfl, by decide +kernel, rfl, by decide +kernel, by decide +kernel⟩
theorem ok_At (t : T K mg) : C8.Mak P w K mg base 1 "At" (He.ga K "At") (spNew (He.ga K "At") F_At 2) [] := by
  refine mak t.f_At_new t.k_At t.g_At sc_At_new (fun _ _ _ _ _ _ us hl => match us, hl with | [_, _, _], _ => rfl) (fun vs H Q E h => ?_) fun cdv A outer s H vs Q E hr h => ?_
  · obtain ⟨p, dx, as, rfl, hl, _⟩ := h
    exact congrArg Nat.succ hl
  · obtain ⟨p, dx, as, rfl, hl, hp, k⟩ := h
    obtain ⟨a, b, rfl⟩ : ∃ a b, as = [a, b] := match as, hl with
      | [a, b], _ => ⟨a, b, rfl⟩
    refine ⟨_, (pss_cons (ps_fld (L2.pv 0) (L2.pv 1) rfl)
      (pss_one (ps_fld (L2.pv 0) (L2.pv 2) rfl))), ?_⟩
    walk_at "rd"
    refine sfK1 hp t.c_At t.n_At_term (Nat.le_trans (Nat.le_refl 0 : ([] : List (Str × V)).length ≤ 0) (by decide)) ?_
    walk_at "rd"
    refine sfK1 upd_same t.c_At t.n_At_place (Nat.le_trans (putF_small (Nat.le_refl 0 : ([] : List (Str × V)).length ≤ 0)) (by decide)) ?_
    walk_at "rd"
    exact k _ upd_same fun b o e hb => by
      rw [upd_ne hb, upd_ne hb]
      exact e
def F_Has : List V → List (Str × V)
  | [a] => putF "term" a []
  | _ => []
theorem l_Has_term (a : V) : (F_Has [a]).lookup ("term" : Str) = some a := by kernel_rfl
theorem sc_Has_new : FnScope ["self", "term"] ["self", "term"] (defScope s_Has_new) := ⟨rfl, rfl, rfl, by decide +kernel, rfl, by decide +kernel, by decide +kernel⟩
theorem ok_Has (t : T K mg) : C8.Mak P w K mg base 1 "Has" (He.ga K "Has") (spNew (He.ga K "Has") F_Has 1) [] := by
  refine mak t.f_Has_new t.k_Has t.g_Has sc_Has_new (fun _ _ _ _ _ _ us hl => match us, hl with | [_, _], _ => rfl) (fun vs H Q E h => ?_) fun cdv A outer s H vs Q E hr h => ?_
  · obtain ⟨p, dx, as, rfl, hl, _⟩ := h
    exact congrArg Nat.succ hl
  · obtain ⟨p, dx, as, rfl, hl, hp, k⟩ := h
    obtain ⟨a, rfl⟩ : ∃ a, as = [a] := match as, hl with
      | [a], _ => ⟨a, rfl⟩
    refine ⟨_, (pss_one (ps_fld (L2.pv 0) (L2.pv 1) rfl)), ?_⟩
    walk_at "rd"
    refine sfK1 hp t.c_Has t.n_Has_term (Nat.le_trans (Nat.le_refl 0 : ([] : List (Str × V)).length ≤ 0) (by decide)) ?_
    walk_at "rd"
    exact k _ upd_same fun b o e hb => by
      rw [upd_ne hb]
      exact e
def F_Marked : List V → List (Str × V)
  | [a, b] => putF "value" b (putF "term" a [])
  | _ => []
theorem l_Marked_term (a b : V) : (F_Marked [a, b]).lookup ("term" : Str) = some a := by kernel_rfl
theorem l_Marked_value (a b : V) : (F_Marked [a, b]).lookup ("value" : Str) = some b := by kernel_rfl
theorem sc_Marked_new : FnScope ["self", "term", "value"] ["self", "term", "value"] (defScope s_Marked_new) := ⟨rfl, rfl, rfl, by decide +kernel, rfl, by decide +kernel, by decide +kernel⟩
theorem ok_Marked (t : T K mg) : C8.Mak P w K mg base 1 "Marked" (He.ga K "Marked") (spNew (He.ga K "Marked") F_Marked 2) [] := by
  refine mak t.f_Marked_new t.k_Marked t.g_Marked sc_Marked_new (fun _ _ _ _ _ _ us hl => match us, hl with | [_, _, _], _ => rfl) (fun vs H Q E h => ?_) fun cdv A outer s H vs Q E hr h => ?_
  · obtain ⟨p, dx, as, rfl, hl, _⟩ := h
    exact congrArg Nat.succ hl
  · obtain ⟨p, dx, as, rfl, hl, hp, k⟩ := h
    obtain ⟨a, b, rfl⟩ : ∃ a b, as = [a, b] := match as, hl with
      | [a, b], _ => ⟨a, b, rfl⟩
    refine ⟨_, (pss_cons (ps_fld (L2.pv 0) (L2.pv 1) rfl)
      (pss_one (ps_fld (L2.pv 0) (L2.pv 2) rfl))), ?_⟩
    walk_at "rd"
    refine sfK1 hp t.c_Marked t.n_Marked_term (Nat.le_trans (Nat.le_refl 0 : ([] : List (Str × V)).length ≤ 0) (by decide)) ?_
    walk_at "rd"
    refine sfK1 upd_same t.c_Marked t.n_Marked_value (Nat.le_trans (putF_small (Nat.le_refl 0 : ([] : List (Str × V)).length ≤ 0)) (by decide)) ?_
    walk_at "rd"
    exact k _ upd_same fun b o e hb => by
      rw [upd_ne hb, upd_ne hb]
      exact e
def F_Kind : List V → List (Str × V)
  | [a, b] => putF "kind" b (putF "term" a [])
  | _ => []
theorem l_Kind_term (a b : V) : (F_Kind [a, b]).lookup ("term" : Str) = some a := by kernel_rfl
theorem l_Kind_kind (a b : V) : (F_Kind [a, b]).lookup ("kind" : Str) = some b := by kernel_rfl
theorem sc_Kind_new : FnScope ["self", "term", "kind"] ["self", "term", "kind"] (defScope s_Kind_new) := ⟨rfl, rfl, rfl, by decide +kernel, rfl, by decide +kernel, by decide +kernel⟩
theorem ok_Kind (t : T K mg) : C8.Mak P w K mg base 1 "Kind" (He.ga K "Kind") (spNew (He.ga K "Kind") F_Kind 2) [] := by
  refine mak t.f_Kind_new t.k_Kind t.g_Kind sc_Kind_new (fun _ _ _ _ _ _ us hl => match us, hl with | [_, _, _], _ => rfl) (fun vs H Q E h => ?_) fun cdv A outer s H vs Q E hr h => ?_
  · obtain ⟨p, dx, as, rfl, hl, _⟩ := h
    exact congrArg Nat.succ hl
  · obtain ⟨p, dx, as, rfl, hl, hp, k⟩ := h
    obtain ⟨a, b, rfl⟩ : ∃ a b, as = [a, b] := match as, hl with
      | [a, b], _ => ⟨a, b, rfl⟩
    refine ⟨_, (pss_cons (ps_fld (L2.pv 0) (L2.pv 1) rfl)
      (pss_one (ps_fld (L2.pv 0) (L2.pv 2) rfl))), ?_⟩
    walk_at "rd"
    refine sfK1 hp t.c_Kind t.n_Kind_term (Nat.le_trans (Nat.le_refl 0 : ([] : List (Str × V)).length ≤ 0) (by decide)) ?_
    walk_at "rd"
    refine sfK1 upd_same t.c_Kind t.n_Kind_kind (Nat.le_trans (putF_small (Nat.le_refl 0 : ([] : List (Str × V)).length ≤ 0)) (by decide)) ?_
    walk_at "rd"
    exact k _ upd_same fun b o e hb => by
      rw [upd_ne hb, upd_ne hb]
      exact e
def F_Word : List V → List (Str × V)
  | [a] => putF "word" a []
  | _ => []
theorem l_Word_word (a : V) : (F_Word [a]).lookup ("word" : Str) = some a := by kernel_rfl
theorem sc_Word_new : FnScope ["self", "word"] ["self", "word"] (defScope s_Word_new) := ⟨rfl, rfl, rfl, by decide +kernel, rfl, by decide +kernel, by decide +kernel⟩
theorem ok_Word (t : T K mg) : C8.Mak P w K mg base 1 "Word" (He.ga K "Word") (spNew (He.ga K "Word") F_Word 1) [] := by
  refine mak t.f_Word_new t.k_Word t.g_Word sc_Word_new (fun _ _ _ _ _ _ us hl => match us, hl with | [_, _], _ => rfl) (fun vs H Q E h => ?_) fun cdv A outer s H vs Q E hr h => ?_
  · obtain ⟨p, dx, as, rfl, hl, _⟩ := h
    exact congrArg Nat.succ hl
  · obtain ⟨p, dx, as, rfl, hl, hp, k⟩ := h
    obtain ⟨a, rfl⟩ : ∃ a, as = [a] := match as, hl with
      | [a], _ => ⟨a, rfl⟩
    refine ⟨_, (pss_one (ps_fld (L2.pv 0) (L2.pv 1) rfl)), ?_⟩
    walk_at "rd"
    refine sfK1 hp t.c_Word t.n_Word_word (Nat.le_trans (Nat.le_refl 0 : ([] : List (Str × V)).length ≤ 0) (by decide)) ?_
    walk_at "rd"
    exact k _ upd_same fun b o e hb => by
      rw [upd_ne hb]
      exact e
def F_Not : List V → List (Str × V)
  | [a] => putF "inner" a []
  | _ => []
theorem l_Not_inner (a : V) : (F_Not [a]).lookup ("inner" : Str) = some a := by kernel_rfl
theorem sc_Not_new : FnScope ["self", "inner"] ["self", "inner"] (defScope s_Not_new) := ⟨rfl, rfl, rfl, by decide +kernel, rfl, by decide +kernel, by decide +kernel⟩
theorem ok_Not (t : T K mg) : C8.Mak P w K mg base 1 "Not" (He.ga K "Not") (spNew (He.ga K "Not") F_Not 1) [] := by
  refine mak t.f_Not_new t.k_Not t.g_Not sc_Not_new (fun _ _ _ _ _ _ us hl => match us, hl with | [_, _], _ => rfl) (fun vs H Q E h => ?_) fun cdv A outer s H vs Q E hr h => ?_
  · obtain ⟨p, dx, as, rfl, hl, _⟩ := h
    exact congrArg Nat.succ hl
  · obtain ⟨p, dx, as, rfl, hl, hp, k⟩ := h
    obtain ⟨a, rfl⟩ : ∃ a, as = [a] := match as, hl with
      | [a], _ => ⟨a, rfl⟩
    refine ⟨_, (pss_one (ps_fld (L2.pv 0) (L2.pv 1) rfl)), ?_⟩
    walk_at "rd"
    refine sfK1 hp t.c_Not t.n_Not_inner (Nat.le_trans (Nat.le_refl 0 : ([] : List (Str × V)).length ≤ 0) (by decide)) ?_
    walk_at "rd"
    exact k _ upd_same fun b o e hb => by
      rw [upd_ne hb]
      exact e
def F_Move : List V → List (Str × V)
  | [a, b] => putF "place" b (putF "term" a [])
  | _ => []
theorem l_Move_term (a b : V) : (F_Move [a, b]).lookup ("term" : Str) = some a := by kernel_rfl
theorem l_Move_place (a b : V) : (F_Move [a, b]).lookup ("place" : Str) = some b := by kernel_rfl
theorem sc_Move_new : FnScope ["self", "term", "place"] ["self", "term", "place"] (defScope s_Move_new) := ⟨rfl, rfl, rfl, by decide +kernel, rfl, by decide +kernel, by decide +kernel⟩
theorem ok_Move (t : T K mg) : C8.Mak P w K mg base 1 "Move" (He.ga K "Move") (spNew (He.ga K "Move") F_Move 2) [] := by
  refine mak t.f_Move_new t.k_Move t.g_Move sc_Move_new (fun _ _ _ _ _ _ us hl => match us, hl with | [_, _, _], _ => rfl) (fun vs H Q E h => ?_) fun cdv A outer s H vs Q E hr h => ?_
  · obtain ⟨p, dx, as, rfl, hl, _⟩ := h
    exact congrArg Nat.succ hl
  · obtain ⟨p, dx, as, rfl, hl, hp, k⟩ := h
    obtain ⟨a, b, rfl⟩ : ∃ a b, as = [a, b] := match as, hl with
      | [a, b], _ => ⟨a, b, rfl⟩
    refine ⟨_, (pss_cons (ps_fld (L2.pv 0) (L2.pv 1) rfl)
      (pss_one (ps_fld (L2.pv 0) (L2.pv 2) rfl))), ?_⟩
    walk_at "rd"
    refine sfK1 hp t.c_Move t.n_Move_term (Nat.le_trans (Nat.le_refl 0 : ([] : List (Str × V)).length ≤ 0) (by decide)) ?_
    walk_at "rd"
    refine sfK1 upd_same t.c_Move t.n_Move_place (Nat.le_trans (putF_small (Nat.le_refl 0 : ([] : List (Str × V)).length ≤ 0)) (by decide)) ?_
    walk_at "rd"
    exact k _ upd_same fun b o e hb => by
      rw [upd_ne hb, upd_ne hb]
      exact e
def F_Put : List V → List (Str × V)
  | [a, b] => putF "value" b (putF "term" a [])
  | _ => []
theorem l_Put_term (a b : V) : (F_Put [a, b]).lookup ("term" : Str) = some a := by kernel_rfl
theorem l_Put_value (a b : V) : (F_Put [a, b]).lookup ("value" : Str) = some b := by kernel_rfl
theorem sc_Put_new : FnScope ["self", "term", "value"] ["self", "term", "value"] (defScope s_Put_new) := ⟨rfl, rfl, rfl, by decide +kernel, rfl, by decide +kernel, by decide +kernel⟩
theorem ok_Put (t : T K mg) : C8.Mak P w K mg base 1 "Put" (He.ga K "Put") (spNew (He.ga K "Put") F_Put 2) [] := by
  refine mak t.f_Put_new t.k_Put t.g_Put sc_Put_new (fun _ _ _ _ _ _ us hl => match us, hl with | [_, _, _], _ => rfl) (fun vs H Q E h => ?_) fun cdv A outer s H vs Q E hr h => ?_
  · obtain ⟨p, dx, as, rfl, hl, _⟩ := h
    exact congrArg Nat.succ hl
  · obtain ⟨p, dx, as, rfl, hl, hp, k⟩ := h
    obtain ⟨a, b, rfl⟩ : ∃ a b, as = [a, b] := match as, hl with
      | [a, b], _ => ⟨a, b, rfl⟩
    refine ⟨_, (pss_cons (ps_fld (L2.pv 0) (L2.pv 1) rfl)
      (pss_one (ps_fld (L2.pv 0) (L2.pv 2) rfl))), ?_⟩
    walk_at "rd"
    refine sfK1 hp t.c_Put t.n_Put_term (Nat.le_trans (Nat.le_refl 0 : ([] : List (Str × V)).length ≤ 0) (by decide)) ?_
    walk_at "rd"
    refine sfK1 upd_same t.c_Put t.n_Put_value (Nat.le_trans (putF_small (Nat.le_refl 0 : ([] : List (Str × V)).length ≤ 0)) (by decide)) ?_
    walk_at "rd"
    exact k _ upd_same fun b o e hb => by
      rw [upd_ne hb, upd_ne hb]
      exact e
end
end Tw
set_option maxHeartbeats 4000000
/-! Verbs, rules, what things say of themselves. -/
namespace Tw
open PySem PySem.Spec L2
local macro_rules | `(tactic| walk_at "rd1") => `(tactic| first
  | with_reducible refine x_seq ?_
  | ((with_reducible refine x_var (v := ?vv) ?hh ?_); case hh => exact rfl)
  | with_reducible refine x_c ?_
  | with_reducible refine x_op ?_
  | with_reducible refine x_fld ?_
  | with_reducible refine x_call ?_
  | with_reducible refine x_meth ?_
  | with_reducible refine x_make ?_
  | with_reducible refine x_cb ?_
  | with_reducible refine x_tup ?_
  | with_reducible refine x_lst ?_
  | with_reducible refine x_nil ?_
  | with_reducible refine x_cons ?_
  | with_reducible refine x_asg ?_
  | with_reducible refine x_name ?_
  | with_reducible refine x_ret ?_
  | with_reducible refine x_retN ?_
  | with_reducible refine x_drop ?_
  | with_reducible refine x_ifS ?_
  | with_reducible refine x_if ?_
  | with_reducible refine x_andV ?_
  | with_reducible refine x_orV ?_
  | with_reducible refine x_notV ?_
  | with_reducible refine x_test ?_
  | with_reducible refine x_tB ?_
  | with_reducible refine x_and ?_
  | with_reducible refine x_or ?_
  | with_reducible refine x_not ?_
  | with_reducible refine x_yes ?_
  | with_reducible refine x_next ?_
  | with_reducible refine x_sfld ?_
  | with_reducible refine blK ?_
  | with_reducible refine r_I0 ?_
  | with_reducible refine r_isN ?_
  | with_reducible refine r_notN ?_
  | ((with_reducible refine r_eq ?hh ?_); case hh => exact rfl)
  | ((with_reducible refine r_ne ?hh ?_); case hh => exact rfl)
  | with_reducible refine x_gnil ?_
  | with_reducible refine x_gcons ?_)
local macro_rules | `(tactic| walk_at "rd2") => `(tactic| first
  | walk_at "rd1"
  | with_reducible refine x_lc ?_
  | with_reducible refine x_for ?_
  | with_reducible refine x_itup ?_
  | with_reducible refine x_ilist ?_
  | with_reducible refine x_rng1 ?_
  | with_reducible refine x_bm ?_
  | with_reducible refine x_chain ?_
  | with_reducible refine x_istr ?_
  | with_reducible refine strK ?_
  | with_reducible refine x_sl ?_
  | with_reducible refine x_part ?_
  | with_reducible refine x_noPart ?_
  | with_reducible refine poK ?_
  | ((with_reducible refine ltK ?hh ?_); case hh => exact rfl)
  | ((with_reducible refine ltKx ?hh ?_); case hh => exact rfl)
  | with_reducible refine x_dput ?_
  | with_reducible refine x_dget ?_
  | with_reducible refine iteK_t ?_
  | with_reducible refine iteK_nf ?_
  | with_reducible refine iteK_nt ?_
  | with_reducible refine iteK_f ?_)
local macro_rules | `(tactic| walk_at "go") => `(tactic| repeat (walk_at "rd2"))
local macro_rules | `(tactic| walk_at "rd") => `(tactic| repeat (walk_at "rd1"))
local macro_rules | `(tactic| walk_at "at") => `(tactic| repeat (first | assumption | refine same_at' (by assumption) ?_))
local macro_rules | `(tactic| walk_at "sm") => `(tactic| repeat (first | exact Same.refl _ | assumption | refine Same.trans ?_ (by assumption)))
local macro_rules | `(tactic| walk_at "mk1") => `(tactic| first
  | with_reducible refine mk_new rfl fun _ _ _ _ _ _ => ?_
  | with_reducible refine lstK rfl fun _ _ _ _ _ => ?_
  | with_reducible refine tupK rfl fun _ _ _ _ _ => ?_
  | with_reducible refine mk_rule4 (SqL.of (by walk_at "at")) (SqL.of (by walk_at "at")) fun _ _ _ _ => ?_
  | with_reducible refine mk_rule (SqL.of (by walk_at "at")) (SqL.of (by walk_at "at")) fun _ _ _ _ => ?_
  | with_reducible refine c_refusal (SqL.of (by walk_at "at")) fun _ _ _ _ => ?_)
local macro_rules | `(tactic| walk_at "mk") => `(tactic| repeat (first | walk_at "rd2" | walk_at "mk1"))
local macro_rules | `(tactic| walk_at "ar1") => `(tactic| ((with_reducible refine r_I ?hh ?_); case hh => first | exact (show (0 : Int) < _ from by decide +kernel) | exact And.intro (by decide +kernel) (by decide +kernel) | exact Or.inr (And.intro (by decide +kernel) (by decide +kernel)) | exact Or.inl (And.intro (by decide +kernel) (by decide +kernel)) | exact And.intro (by decide +kernel) (And.intro (by decide +kernel) (by decide +kernel))))
local macro_rules | `(tactic| walk_at "ar") => `(tactic| repeat (first | walk_at "rd2" | walk_at "ar1"))

section
variable {P : Program} {w : World} {K : PySem.W.Frag} {mg : Str → Option Value} {base : Heap}
/-! ### verbs -/
def F_Verb (a b c d : V) : List (Str × V) := putF "joining" d (putF "form" c (putF "others" b (putF "name" a [])))
theorem l_Verb_name (a b c d : V) : (F_Verb a b c d).lookup ("name" : Str) = some a := by kernel_rfl
theorem l_Verb_others (a b c d : V) : (F_Verb a b c d).lookup ("others" : Str) = some b := by kernel_rfl
theorem l_Verb_form (a b c d : V) : (F_Verb a b c d).lookup ("form" : Str) = some c := by kernel_rfl
theorem l_Verb_joining (a b c d : V) : (F_Verb a b c d).lookup ("joining" : Str) = some d := by kernel_rfl
theorem F_Verb_two (a b b' c d : V) : putF "joining" d (putF "form" c (putF "others" b' (putF "others" b (putF "name" a [])))) = F_Verb a b' c d := by kernel_rfl
def spVerb (K : PySem.W.Frag) : Sp := fun vs H Q _ => ∃ p dx a b c d, vs = [.ref p, a, b, c, d] ∧ H p = some (.ins (He.ga K "Verb") dx []) ∧ (b = .non ∨ ∃ q, b = .ref q ∧ SqT K H q []) ∧
  ∀ H' q, SqT K H' q [] → H' p = some (.ins (He.ga K "Verb") dx (F_Verb a (.ref q) c d)) → (∀ b o, H b = some o → b ≠ p → H' b = some o) → Q .non H'
theorem sqt_upd {H : Hp} {q p : Addr} {xs : List V} {o o' : HO} (h : SqT K H q xs) (hp : H p = some o) (ho : ∀ ys, o ≠ .tup ys) (hf : ∀ ob u, o ≠ .frz ob u) : SqT K (upd H p o') q xs := by
  rcases h with (h | ⟨ob, h⟩) | h
  · exact .inl (.inl (by rw [upd_ne (ne_of h hp fun e => ho _ e.symm)]; exact h))
  · exact .inl (.inr ⟨ob, by rw [upd_ne (ne_of h hp fun e => hf _ _ e.symm)]; exact h⟩)
  · exact .inr h
theorem sqt_ins {H : Hp} {q p C dx : Addr} {xs : List V} {fs : List (Str × V)} {o' : HO} (h : SqT K H q xs) (hp : H p = some (.ins C dx fs)) : SqT K (upd H p o') q xs := sqt_upd h hp (fun _ e => by cases e) (fun _ _ e => by cases e)
theorem sc_Verb_new : FnScope ["self", "name", "others", "form", "joining"] ["self", "name", "others", "form", "joining"] (defScope s_Verb_new) := ⟨rfl, rfl, rfl, by decide +kernel, rfl, by decide +kernel, by decide +kernel⟩
theorem body_Verb (t : T K mg) : Body P w K mg base 0 ["self", "name", "others", "form", "joining"] "Verb.__init__" (defScope s_Verb_new) (defBody s_Verb_new) (He.ma K (He.ga K "Verb") "__init__") (spVerb K) := by
  intro cdv A outer s H vs Q E hr h
  obtain ⟨p, dx, a, b, c, d, rfl, hp, hb, k⟩ := h
  refine ⟨_, (pss_cons (ps_fld (L2.pv 0) (L2.pv 1) rfl)
      (pss_cons (ps_fld (L2.pv 0) (L2.pv 2) rfl)
      (pss_cons (ps_if (pt_cmpR op_isN1 (L2.pv 2) pe_non (nomark _)) (pss_one (ps_fld (L2.pv 0) (pe_tup pa_nil) rfl)) pss_nil)
      (pss_cons (ps_fld (L2.pv 0) (L2.pv 3) rfl)
      (pss_one (ps_fld (L2.pv 0) (L2.pv 4) rfl)))))), ?_⟩
  walk_at "rd"
  refine sfK1 hp t.c_Verb t.n_Verb_name (Nat.zero_le _) ?_
  walk_at "rd"
  refine sfK1 upd_same t.c_Verb t.n_Verb_others (Nat.le_trans (putF_small (n := 0) (Nat.le_refl 0)) (by decide)) ?_
  walk_at "rd"
  refine iteK (fun e => ?_) fun e => ?_
  · have e : b = .non := of_decide_eq_true e
    walk_at "rd"
    refine tupK rfl fun q H1 nq s1 h1 => ?_
    walk_at "rd"
    refine sfK1 (s1 _ _ upd_same) t.c_Verb t.n_Verb_others (Nat.le_trans (putF_small (n := 1) (putF_small (n := 0) (Nat.le_refl 0))) (by decide)) ?_
    walk_at "rd"
    refine sfK1 upd_same t.c_Verb t.n_Verb_form (Nat.le_trans (putF_small (n := 2) (putF_small (n := 1) (putF_small (n := 0) (Nat.le_refl 0)))) (by decide)) ?_
    walk_at "rd"
    refine sfK1 upd_same t.c_Verb t.n_Verb_joining (Nat.le_trans (putF_small (n := 3) (putF_small (n := 2) (putF_small (n := 1) (putF_small (n := 0) (Nat.le_refl 0))))) (by decide)) ?_
    refine k _ q ?_ (by rw [F_Verb_two]; exact upd_same) fun b' o he hb' => ?_
    · exact sqt_ins (sqt_ins (sqt_ins (SqT.of h1) (s1 _ _ upd_same)) upd_same) upd_same
    · rw [upd_ne hb', upd_ne hb', upd_ne hb']
      exact s1 _ _ (by rw [upd_ne hb', upd_ne hb']; exact he)
  · have e : ¬ b = .non := of_decide_eq_false e
    rcases hb with hb | ⟨q, rfl, hq⟩
    · exact absurd hb e
    walk_at "rd"
    refine sfK1 upd_same t.c_Verb t.n_Verb_form (Nat.le_trans (putF_small (n := 1) (putF_small (n := 0) (Nat.le_refl 0))) (by decide)) ?_
    walk_at "rd"
    refine sfK1 upd_same t.c_Verb t.n_Verb_joining (Nat.le_trans (putF_small (n := 2) (putF_small (n := 1) (putF_small (n := 0) (Nat.le_refl 0)))) (by decide)) ?_
    refine k _ q ?_ upd_same fun b' o he hb' => ?_
    · exact sqt_ins (sqt_ins (sqt_ins (sqt_ins hq hp) upd_same) upd_same) upd_same
    · rw [upd_ne hb', upd_ne hb', upd_ne hb', upd_ne hb']
      exact he
theorem len_Verb : ∀ vs H Q E, spVerb K vs H Q E → vs.length = ["self", "name", "others", "form", "joining"].length := fun vs H Q E h => by
  obtain ⟨p, dx, a, b, c, d, rfl, _⟩ := h
  rfl
theorem ok_Verb1 (t : T K mg) : C8.Mak P w K mg base 1 "Verb" (He.ga K "Verb") (spVerb K) [.non, .str "one", .non] :=
  makD 2 0 t.f_Verb_new t.k_Verb t.g_Verb sc_Verb_new (by decide) rfl (fun _ _ _ _ _ _ _ us its hl hi => match us, hl, its, hi with | [_, _], _, [_, _, _], _ => ⟨_, rfl, rfl⟩) len_Verb (body_Verb t)
theorem ok_Verb3 (t : T K mg) : C8.Mak P w K mg base 1 "Verb" (He.ga K "Verb") (spVerb K) [.non] :=
  makD 4 2 t.f_Verb_new t.k_Verb t.g_Verb sc_Verb_new (by decide) rfl (fun _ _ _ _ _ _ _ us its hl hi => match us, hl, its, hi with | [_, _, _, _], _, [_, _, _], _ => ⟨_, rfl, rfl⟩) len_Verb (body_Verb t)
theorem ok_Verb4 (t : T K mg) : C8.Mak P w K mg base 1 "Verb" (He.ga K "Verb") (spVerb K) [] :=
  makD 5 3 t.f_Verb_new t.k_Verb t.g_Verb sc_Verb_new (by decide) rfl (fun _ _ _ _ _ _ _ us its hl hi => match us, hl, its, hi with | [_, _, _, _, _], _, [_, _, _], _ => ⟨_, rfl, rfl⟩) len_Verb (body_Verb t)
structure Vb where
  name : Str
  form : Str
  joining : Option Str
def oS : Option Str → V
  | some x => .str x
  | none => .non
def VerbAt (K : PySem.W.Frag) (H : Hp) (v : V) (b : Vb) : Prop := ∃ p dx q, v = .ref p ∧ H p = some (.ins (He.ga K "Verb") dx (F_Verb (.str b.name) (.ref q) (.str b.form) (oS b.joining))) ∧ SqT K H q []
theorem verb_mono {H H' : Hp} {v : V} {b : Vb} (s : Same H H') (h : VerbAt K H v b) : VerbAt K H' v b := by
  obtain ⟨p, dx, q, e, h1, h2⟩ := h
  exact ⟨p, dx, q, e, s _ _ h1, same_sqt s h2⟩
theorem mk_verb {E : XK} {H : Hp} {Q : VK} {a b c d : V} {vb : Vb} (ha : a = .str vb.name) (hb : b = .non ∨ ∃ q, b = .ref q ∧ SqT K H q []) (hc : c = .str vb.form) (hd : d = oS vb.joining)
    (q : ∀ p H', H p = none → Same H H' → VerbAt K H' (.ref p) vb → Q (.ref p) H') : MakeK (He.ga K "Verb") (spVerb K) [a, b, c, d] H Q E := fun x dx nx nd _ => by
  subst ha hc hd
  refine ⟨x, dx, _, b, _, _, rfl, upd_same, ?_, fun H' q' e1 e2 k => ⟨rfl, q x H' nx (Same.made nx nd k) ⟨x, dx, q', rfl, e2, e1⟩⟩⟩
  rcases hb with hb | ⟨q, hb, h⟩
  · exact .inl hb
  · exact .inr ⟨q, hb, same_sqt ((same_new nd).trans (same_new (H := upd H dx (.own x)) (by
      rw [upd_ne]
      · exact nx
      · intro z
        subst z
        exact absurd rfl ‹_›))) h⟩
def vbs : List Vb := [⟨"take", "one", none⟩, ⟨"drop", "one", none⟩, ⟨"open", "one", none⟩, ⟨"shut", "one", none⟩, ⟨"light", "one", none⟩, ⟨"douse", "one", none⟩, ⟨"put", "two", some "in"⟩, ⟨"go", "way", none⟩, ⟨"wait", "alone", none⟩]
end
end Tw
set_option maxHeartbeats 4000000
namespace Tw
open PySem PySem.Spec L2
local macro_rules | `(tactic| walk_at "rd1") => `(tactic| first
  | with_reducible refine x_seq ?_
  | ((with_reducible refine x_var (v := ?vv) ?hh ?_); case hh => exact rfl)
  | with_reducible refine x_c ?_
  | with_reducible refine x_op ?_
  | with_reducible refine x_fld ?_
  | with_reducible refine x_call ?_
  | with_reducible refine x_meth ?_
  | with_reducible refine x_make ?_
  | with_reducible refine x_cb ?_
  | with_reducible refine x_tup ?_
  | with_reducible refine x_lst ?_
  | with_reducible refine x_nil ?_
  | with_reducible refine x_cons ?_
  | with_reducible refine x_asg ?_
  | with_reducible refine x_name ?_
  | with_reducible refine x_ret ?_
  | with_reducible refine x_retN ?_
  | with_reducible refine x_drop ?_
  | with_reducible refine x_ifS ?_
  | with_reducible refine x_if ?_
  | with_reducible refine x_andV ?_
  | with_reducible refine x_orV ?_
  | with_reducible refine x_notV ?_
  | with_reducible refine x_test ?_
  | with_reducible refine x_tB ?_
  | with_reducible refine x_and ?_
  | with_reducible refine x_or ?_
  | with_reducible refine x_not ?_
  | with_reducible refine x_yes ?_
  | with_reducible refine x_next ?_
  | with_reducible refine x_sfld ?_
  | with_reducible refine blK ?_
  | with_reducible refine r_I0 ?_
  | with_reducible refine r_isN ?_
  | with_reducible refine r_notN ?_
  | ((with_reducible refine r_eq ?hh ?_); case hh => exact rfl)
  | ((with_reducible refine r_ne ?hh ?_); case hh => exact rfl)
  | with_reducible refine x_gnil ?_
  | with_reducible refine x_gcons ?_)
local macro_rules | `(tactic| walk_at "rd2") => `(tactic| first
  | walk_at "rd1"
  | with_reducible refine x_lc ?_
  | with_reducible refine x_for ?_
  | with_reducible refine x_itup ?_
  | with_reducible refine x_ilist ?_
  | with_reducible refine x_rng1 ?_
  | with_reducible refine x_bm ?_
  | with_reducible refine x_chain ?_
  | with_reducible refine x_istr ?_
  | with_reducible refine strK ?_
  | with_reducible refine x_sl ?_
  | with_reducible refine x_part ?_
  | with_reducible refine x_noPart ?_
  | with_reducible refine poK ?_
  | ((with_reducible refine ltK ?hh ?_); case hh => exact rfl)
  | ((with_reducible refine ltKx ?hh ?_); case hh => exact rfl)
  | with_reducible refine x_dput ?_
  | with_reducible refine x_dget ?_
  | with_reducible refine iteK_t ?_
  | with_reducible refine iteK_nf ?_
  | with_reducible refine iteK_nt ?_
  | with_reducible refine iteK_f ?_)
local macro_rules | `(tactic| walk_at "go") => `(tactic| repeat (walk_at "rd2"))
local macro_rules | `(tactic| walk_at "rd") => `(tactic| repeat (walk_at "rd1"))
local macro_rules | `(tactic| walk_at "at") => `(tactic| repeat (first | assumption | refine same_at' (by assumption) ?_))
local macro_rules | `(tactic| walk_at "sm") => `(tactic| repeat (first | exact Same.refl _ | assumption | refine Same.trans ?_ (by assumption)))
local macro_rules | `(tactic| walk_at "mk1") => `(tactic| first
  | with_reducible refine mk_new rfl fun _ _ _ _ _ _ => ?_
  | with_reducible refine lstK rfl fun _ _ _ _ _ => ?_
  | with_reducible refine tupK rfl fun _ _ _ _ _ => ?_
  | with_reducible refine mk_rule4 (SqL.of (by walk_at "at")) (SqL.of (by walk_at "at")) fun _ _ _ _ => ?_
  | with_reducible refine mk_rule (SqL.of (by walk_at "at")) (SqL.of (by walk_at "at")) fun _ _ _ _ => ?_
  | with_reducible refine c_refusal (SqL.of (by walk_at "at")) fun _ _ _ _ => ?_)
local macro_rules | `(tactic| walk_at "mk") => `(tactic| repeat (first | walk_at "rd2" | walk_at "mk1"))
local macro_rules | `(tactic| walk_at "ar1") => `(tactic| ((with_reducible refine r_I ?hh ?_); case hh => first | exact (show (0 : Int) < _ from by decide +kernel) | exact And.intro (by decide +kernel) (by decide +kernel) | exact Or.inr (And.intro (by decide +kernel) (by decide +kernel)) | exact Or.inl (And.intro (by decide +kernel) (by decide +kernel)) | exact And.intro (by decide +kernel) (And.intro (by decide +kernel) (by decide +kernel))))
local macro_rules | `(tactic| walk_at "ar") => `(tactic| repeat (first | walk_at "rd2" | walk_at "ar1"))

section
variable {P : Program} {w : World} {K : PySem.W.Frag} {mg : Str → Option Value} {base : Heap}
/-! ### value_of, at_of, with_part -/
def spValueOf (K : PySem.W.Frag) : Sp := fun vs H Q _ => ∃ sv pv S p, vs = [sv, pv] ∧ Dp K H sv (standD S) ∧ Dp K H pv (partD p) ∧ OkStand S ∧ OkP p ∧ ∀ H', Same H H' → Q (vO (look S p)) H'
theorem sc_value_of : FnScope ["stand", "part", "other", "value"] ["stand", "part"] (defScope s_value_of) := ⟨rfl, rfl, rfl, by decide +kernel, rfl, by decide +kernel, by decide +kernel⟩
theorem ok_value_of (t : T K mg) : C8.Cal P w K mg base 1 "value_of" (spValueOf K) [] := by
  refine cal t.f_value_of t.g_value_of sc_value_of (fun _ _ _ _ _ _ us hl => match us, hl with | [_, _], _ => rfl) (fun vs H Q E h => ?_) fun cdv A outer s H vs Q E hr h => ?_
  · obtain ⟨sv, pv, S, p, rfl, _⟩ := h
    rfl
  · obtain ⟨sv, pv, S, p, rfl, hS, hp, oS, oP, k⟩ := h
    obtain ⟨a, xs, rfl, h1, h2⟩ := dp_tuple hS
    have hl := dpa_len h2
    rw [List.length_map] at hl
    refine ⟨_, (pss_cons (ps_for PassesOwn.never (by rfl) (pi_tup' (K := K) rfl (L2.pv 0)) (pg_tup' (K := K) (n := 2) rfl (by rfl) (pgs_cons (pg_name (i := 2) sc_value_of.nd rfl (Or.inl rfl)) (pgs_cons (pg_name (i := 3) sc_value_of.nd rfl (Or.inl rfl)) pgs_nil))) (pss_one (ps_if (pt_cmpR (op_eqD' (K := K) rfl hr.units) (L2.pv 2) (L2.pv 1) (nomark _)) (pss_one (ps_ret (L2.pv 3))) pss_nil)))
      (pss_one (ps_ret pe_non))), ?_⟩
    refine x_seq ?_
    refine ⟨_, rfl, a, rfl, ⟨_, h1⟩, for_tup (K := K) (a := a) (xs := xs) (fun i σ H2 => (∃ o v, σ = [some (.ref a), some pv, o, v]) ∧ Same H H2 ∧ ∀ (j : Nat) e, j < i → S[j]? = some e → e.1 ≠ p) ⟨⟨none, none, rfl⟩, Same.refl H, fun j e hj => absurd hj (Nat.not_lt_zero _)⟩ (fun i σ H2 _ ⟨_, s, _⟩ => same_sqt s h1) ?_ ?_⟩
    · rintro i x σ H2 hx ⟨⟨o, v, rfl⟩, s, hn⟩
      obtain ⟨d, hd, dx⟩ := dpa_get h2 hx
      obtain ⟨e, he, rfl⟩ : ∃ e, S[i]? = some e ∧ pairD e = d := by
        rw [List.getElem?_map] at hd
        cases q : S[i]? with
        | none => rw [q] at hd; cases hd
        | some e => rw [q] at hd; exact ⟨e, rfl, Option.some.inj hd⟩
      obtain ⟨b, pv2, rfl, hb, hp2⟩ := pair_dp (dp_mono s dx)
      refine x_gtup hb rfl ?_
      walk_at "rd"
      refine r_eqD hp2 (dp_mono s hp) (shaped_part (oS e (List.mem_of_getElem? he)).1) (shaped_part oP) ?_
      walk_at "rd"
      rw [eqv_part]
      refine iteK (fun c => ?_) fun c => ?_
      · walk_at "rd"
        rw [← show vO (look S p) = e.2.v from by rw [look_first hn he (of_decide_eq_true c)] <;> rfl]
        exact k _ s
      · refine x_next ⟨⟨_, _, rfl⟩, s, fun j e' hj q => ?_⟩
        by_cases hji : j < i
        · exact hn j e' hji q
        · have : j = i := by omega
          subst this
          rw [he] at q
          cases q
          exact of_decide_eq_false c
    · rintro σ H2 ⟨⟨o, v, rfl⟩, s, hn⟩
      walk_at "rd"
      rw [hl] at hn
      rw [← show vO (look S p) = V.non from by rw [look_none fun i e q => hn i e (List.getElem?_eq_some_iff.mp q).1 q] <;> rfl]
      exact k _ s
def spAtOf (K : PySem.W.Frag) : Sp := fun vs H Q _ => ∃ sv n S, vs = [sv, .str n] ∧ Dp K H sv (standD S) ∧ OkStand S ∧ OkS n ∧ ∀ H', Same H H' → Q (vO (look S ("at", n))) H'
theorem ok_at : OkS "at" := by decide +kernel
theorem ok_mark : OkS "mark" := by decide +kernel
theorem sc_at_of : FnScope ["stand", "name"] ["stand", "name"] (defScope s_at_of) := ⟨rfl, rfl, rfl, by decide +kernel, rfl, by decide +kernel, by decide +kernel⟩
theorem ok_at_of (t : T K mg) : C8.Cal P w K mg base 2 "at_of" (spAtOf K) [] := by
  have c_value_of := ok_value_of (P := P) (w := w) (base := base) t
  refine cal t.f_at_of t.g_at_of sc_at_of (fun _ _ _ _ _ _ us hl => match us, hl with | [_, _], _ => rfl) (fun vs H Q E h => ?_) fun cdv A outer s H vs Q E hr h => ?_
  · obtain ⟨sv, n, S, rfl, _⟩ := h
    rfl
  · obtain ⟨sv, n, S, rfl, hS, oS, oN, k⟩ := h
    refine ⟨_, (pss_one (ps_ret (C8.pe_c c_value_of hr (by decide) (by rfl) (pa_cons (L2.pv 0) (pa_cons (pe_tup (pa_cons pe_str (pa_cons (L2.pv 1) pa_nil))) pa_nil))))), ?_⟩
    walk_at "rd"
    refine tupK rfl fun p H1 np s1 h1 => ?_
    walk_at "rd"
    exact ⟨_, _, S, ("at", n), rfl, dp_mono s1 hS, dp_part h1, oS, ⟨ok_at, oN⟩, fun H2 s2 => k H2 (s1.trans s2)⟩
/-! ### with_part -/
def spWithPart (K : PySem.W.Frag) : Sp := fun vs H Q _ => ∃ sv pv S p x, vs = [sv, pv, Vl.v x] ∧ Dp K H sv (standD S) ∧ Dp K H pv (partD p) ∧ OkStand S ∧ OkP p ∧ S.length ≤ 1000 ∧ ∀ v H', Same H H' → Dp K H' v (standD (putS S p x)) → Q v H'
theorem sc_with_part : FnScope ["stand", "part", "value", "one", "old"] ["stand", "part", "value"] (defScope s_with_part) := ⟨rfl, rfl, rfl, by decide +kernel, rfl, by decide +kernel, by decide +kernel⟩
theorem ok_with_part (t : T K mg) : C8.Cal P w K mg base 1 "with_part" (spWithPart K) [] := by
  refine cal t.f_with_part t.g_with_part sc_with_part (fun _ _ _ _ _ _ us hl => match us, hl with | [_, _, _], _ => rfl) (fun vs H Q E h => ?_) fun cdv A outer s H vs Q E hr h => ?_
  · obtain ⟨sv, pv, S, p, x, rfl, _⟩ := h
    rfl
  · obtain ⟨sv, pv, S, p, x, rfl, hS, hp, oS, oP, hz, k⟩ := h
    obtain ⟨a, xs, rfl, h1, h2⟩ := dp_tuple hS
    have hl := dpa_len h2
    rw [List.length_map] at hl
    refine ⟨_, (pss_one (ps_ret (pe_callTy (cr_tuple (K := K) rfl) (by rfl) t.b_tuple (by decide +kernel) (pa_cons (pe_lc (own := [("one", 3), ("old", 4)]) (by rfl) sc_with_part.nd (pi_tup' (K := K) rfl (L2.pv 0)) (blkOk_by (own := [("one", 3), ("old", 4)]) (N := ["stand", "part", "value", "one", "old"]) (sc := defScope s_with_part) (by decide +kernel)) (fun _ _ _ _ _ => (pg_tup' (K := K) (n := 2) rfl (by rfl) (pgs_cons (pg_name (i := 3) sc_with_part.nd rfl (Or.inl rfl)) (pgs_cons (pg_name (i := 4) sc_with_part.nd rfl (Or.inl rfl)) pgs_nil)))) (fun _ _ _ _ _ => pts_nil) (fun _ _ _ _ _ => (pe_ifExp (pt_cmpR (op_eqD' (K := K) rfl hr.units) (L2.pv 3) (L2.pv 1) (nomark _)) (pe_tup (pa_cons (L2.pv 3) (pa_cons (L2.pv 2) pa_nil))) (pe_tup (pa_cons (L2.pv 3) (pa_cons (L2.pv 4) pa_nil)))))) pa_nil)))), ?_⟩
    walk_at "rd"
    refine ⟨_, rfl, a, rfl, ⟨_, h1⟩, fun D nD => ?_⟩
    have hq : (putS S p x).length = S.length := by unfold putS; rw [List.length_map]
    refine lc_tup (K := K) (a := a) (xs := xs) (fun i H2 => ∃ ys, Mk1 H D H2 ys ∧ ys.length = i ∧ DpAll K (del D H2) ys (((putS S p x).take i).map pairD)) ⟨[], mk1 nD, rfl, .nil⟩ (fun i H2 _ ⟨_, m, _⟩ => same_sqt m.same h1) ?_ ?_
    · rintro i y H2 hx ⟨ys, m, hy, hd⟩
      obtain ⟨d, hdd, dx⟩ := dpa_get h2 hx
      obtain ⟨e, he, rfl⟩ := map_get hdd
      obtain ⟨b, qv, rfl, hb, hp2⟩ := pair_dp dx
      have hi := get_lt he
      refine x_gtup (same_sqt m.same hb) rfl ?_
      walk_at "rd"
      refine ⟨rfl, ?_⟩
      walk_at "rd"
      refine iteT ?_
      walk_at "rd"
      refine r_eqD (dp_mono m.same hp2) (dp_mono m.same hp) (shaped_part (oS e (List.mem_of_getElem? he)).1) (shaped_part oP) ?_
      walk_at "rd"
      rw [eqv_part]
      have hput : (putS S p x)[i]? = some (if e.1 = p then (e.1, x) else e) := by
        unfold putS
        rw [List.getElem?_map, he]
        all_goals rfl
      refine iteK (fun c => ?_) fun c => ?_
      · walk_at "rd"
        refine tupK rfl fun q H3 nq s3 h3 => ?_
        have nqD : q ≠ D := fun z => by rw [z, m.at_] at nq; cases nq
        refine ⟨ys, s3 _ _ m.at_, small (by omega), ys ++ [.ref q], (m.grow s3).upd, by rw [List.length_append, hy] <;> rfl, ?_⟩
        rw [del_upd, take_succ' hput, List.map_append, if_pos (of_decide_eq_true c)]
        exact dpa_snoc (dpAll_mono (del_mono s3) hd) (.tup (.of (del_at h3 nqD)) (.cons (dp_mono (m.sm.trans (del_mono s3)) hp2) (.cons (vl_dp x) .nil)))
      · walk_at "rd"
        refine tupK rfl fun q H3 nq s3 h3 => ?_
        have nqD : q ≠ D := fun z => by rw [z, m.at_] at nq; cases nq
        refine ⟨ys, s3 _ _ m.at_, small (by omega), ys ++ [.ref q], (m.grow s3).upd, by rw [List.length_append, hy] <;> rfl, ?_⟩
        rw [del_upd, take_succ' hput, List.map_append, if_neg (of_decide_eq_false c)]
        exact dpa_snoc (dpAll_mono (del_mono s3) hd) (.tup (.of (del_at h3 nqD)) (.cons (dp_mono (m.sm.trans (del_mono s3)) hp2) (.cons (vl_dp e.2) .nil)))
    · rintro H2 ⟨ys, m, hy, hd⟩
      walk_at "rd"
      refine ⟨D, ys, rfl, .inl ⟨.of m.at_, fun l nl => ?_⟩⟩
      refine k _ _ (m.same.trans (same_new nl)) (.tup (.of upd_same) ?_)
      rw [List.take_of_length_le (by omega)] at hd
      exact dpAll_mono (del_le.trans (same_new nl)) hd
end
end Tw
set_option maxHeartbeats 4000000
/-! Walks and comprehensions. -/
namespace Tw
open PySem PySem.Spec L2
section
variable {K : PySem.W.Frag} {σ : L2.St} {H : Hp} {Q : VK} {D : Ends} {ta tb te tl : TE} {tt : TT} {tA : TA} {g : TG} {tb : TS} {a : Addr} {xs : List V} {wi : TI} {J : It} {vs : List Nat} {x v : V}
def LcK (J : It) (g : TG) (tt : TT) (te : TE) (vs : List Nat) (σ : L2.St) (Q : VK) (H1 : Hp) : Prop := ∀ D, H1 D = none → ∃ W : Nat → Nat → Hp → Prop, (∃ m, W 0 m (upd H1 D (.lst []))) ∧ ∀ i m H, W i m H →
  (J.stop i H ∧ Q (.ref D) H) ∨ (J.go i H ∧ ∃ Nx : Hp → Prop, (∀ H', Nx H' → ∃ m', m' < m ∧ W (i + 1) m' H') ∧ ∀ x H', J.yld i H x H' → g x (wipe σ vs) H' fun σ2 H2 => wipe σ2 vs = wipe σ vs ∧ tt σ2 H2 fun b H3 =>
    if b = true then te σ2 H3 fun y H4 => ∃ acc, H4 D = some (.lst acc) ∧ acc.length < sizeLine ∧ Nx (upd H4 D (.lst (acc ++ [y]))) else Nx H3)
theorem x_lc (q : wi σ H fun J H1 => LcK J g tt te vs σ Q H1) : tLc wi g tt te vs σ H Q := q
def ForK (J : It) (g : TG) (tb : TS) (D : Ends) (σ : L2.St) (H1 : Hp) : Prop := ∃ W : Nat → Nat → L2.St → Hp → Prop, (∃ m, W 0 m σ H1) ∧ ∀ i m σ H, W i m σ H →
  (J.stop i H ∧ D.nx σ H) ∨ (J.go i H ∧ ∃ N : L2.St → Hp → Prop, (∀ σ' H', N σ' H' → ∃ m', m' < m ∧ W (i + 1) m' σ' H') ∧ ∀ x H', J.yld i H x H' → g x σ H' fun σ2 H2 => tb { D with nx := N, ct := N, bk := D.nx } σ2 H2)
theorem x_for (q : wi σ H fun J H1 => ForK J g tb D σ H1) : tFor wi g tb D σ H := q
def SqTK (K : PySem.W.Frag) (x : V) (H : Hp) (R : It → Hp → Prop) : Prop := ∃ a, x = .ref a ∧ (∃ xs, SqT K H a xs) ∧ R (Itt K a) H
def SqLK (K : PySem.W.Frag) (x : V) (H : Hp) (R : It → Hp → Prop) : Prop := ∃ a, x = .ref a ∧ (∃ xs, SqL K H a xs) ∧ R (Itl K a) H
theorem sqTK {R : It → Hp → Prop} (h : SqT K H a xs) (q : R (Itt K a) H) : SqTK K (.ref a) H R := ⟨a, rfl, ⟨xs, h⟩, q⟩
theorem sqLK {R : It → Hp → Prop} (h : SqL K H a xs) (q : R (Itl K a) H) : SqLK K (.ref a) H R := ⟨a, rfl, ⟨xs, h⟩, q⟩
theorem x_itup {R : It → Hp → Prop} (q : tl σ H fun x H1 => SqTK K x H1 R) : iTup K tl σ H R := q
theorem x_ilist {R : It → Hp → Prop} (q : tl σ H fun x H1 => SqLK K x H1 R) : iList K tl σ H R := q
def ApK (H : Hp) (F : List V → Nat → Hp → Prop) (D : Addr) (i : Nat) (y : V) (H4 : Hp) : Prop := ∃ acc, H4 D = some (.lst acc) ∧ acc.length < sizeLine ∧ ∃ ys, Mk1 H D (upd H4 D (.lst (acc ++ [y]))) ys ∧ F ys (i + 1) (del D (upd H4 D (.lst (acc ++ [y]))))
theorem apK {F : List V → Nat → Hp → Prop} {D : Addr} {i : Nat} {y : V} {H4 : Hp} {ys : List V} (m : Mk1 H D H4 ys) (hl : ys.length ≤ 1000) (f : F (ys ++ [y]) (i + 1) (del D H4)) : ApK H F D i y H4 :=
  ⟨ys, m.at_, small1000 hl, ys ++ [y], m.upd, by rw [del_upd]; exact f⟩
/-- an item is left out -/
def SkK (H : Hp) (F : List V → Nat → Hp → Prop) (D : Addr) (i : Nat) (H4 : Hp) : Prop := ∃ ys, Mk1 H D H4 ys ∧ F ys (i + 1) (del D H4)
theorem skK {F : List V → Nat → Hp → Prop} {D : Addr} {i : Nat} {H4 : Hp} {ys : List V} (m : Mk1 H D H4 ys) (f : F ys (i + 1) (del D H4)) : SkK H F D i H4 := ⟨ys, m, f⟩
/-- what a turn reaches -/
def LtK (H : Hp) (F : List V → Nat → Hp → Prop) (D : Addr) (i : Nat) (tt : TT) (te : TE) (vs : List Nat) (σ : L2.St) (σ2 : L2.St) (H2 : Hp) : Prop :=
  wipe σ2 vs = wipe σ vs ∧ tt σ2 H2 fun b H3 => IteK b (te σ2 H3 fun y H4 => ApK H F D i y H4) (SkK H F D i H3)
theorem ltK {F : List V → Nat → Hp → Prop} {D : Addr} {i : Nat} {σ2 : L2.St} {H2 : Hp} (h : wipe σ2 vs = wipe σ vs) (q : tt σ2 H2 fun b H3 => IteK b (te σ2 H3 fun y H4 => ApK H F D i y H4) (SkK H F D i H3)) : LtK H F D i tt te vs σ σ2 H2 := ⟨h, q⟩
theorem lcT (F : List V → Nat → Hp → Prop) (hx : SqT K H a xs) (h0 : F [] 0 H) (fm : ∀ H', Same H H' → F [] 0 H → F [] 0 H')
    (turn : ∀ D i x ys H2, Mk1 H D H2 ys → F ys i (del D H2) → xs[i]? = some x → g x (wipe σ vs) H2 fun σ2 H3 => LtK H F D i tt te vs σ σ2 H3)
    (hd : ∀ D H' ys, Mk1 H D H' ys → F ys xs.length (del D H') → Q (.ref D) H') : LcK (Itt K a) g tt te vs σ Q H := fun D nD =>
  lc_tup (K := K) (a := a) (xs := xs) (fun i H2 => ∃ ys, Mk1 H D H2 ys ∧ F ys i (del D H2)) ⟨[], mk1 nD, by rw [del_upd]; exact fm _ (del_none (Same.refl H) nD) h0⟩ (fun i H2 _ ⟨_, m, _⟩ => same_sqt m.same hx)
    (fun i x H2 hi ⟨ys, m, f⟩ => turn D i x ys H2 m f hi) (fun H2 ⟨ys, m, f⟩ => hd D H2 ys m f)
theorem lcL (F : List V → Nat → Hp → Prop) (hx : SqL K H a xs) (h0 : F [] 0 H) (fm : ∀ H', Same H H' → F [] 0 H → F [] 0 H')
    (turn : ∀ D i x ys H2, Mk1 H D H2 ys → F ys i (del D H2) → xs[i]? = some x → g x (wipe σ vs) H2 fun σ2 H3 => LtK H F D i tt te vs σ σ2 H3)
    (hd : ∀ D H' ys, Mk1 H D H' ys → F ys xs.length (del D H') → Q (.ref D) H') : LcK (Itl K a) g tt te vs σ Q H := fun D nD =>
  lc_list (K := K) (a := a) (xs := xs) (fun i H2 => ∃ ys, Mk1 H D H2 ys ∧ F ys i (del D H2)) ⟨[], mk1 nD, by rw [del_upd]; exact fm _ (del_none (Same.refl H) nD) h0⟩ (fun i H2 _ ⟨_, m, _⟩ => m.same.seq hx)
    (fun i x H2 hi ⟨ys, m, f⟩ => turn D i x ys H2 m f hi) (fun H2 ⟨ys, m, f⟩ => hd D H2 ys m f)
theorem lcR (lo : Int) (n : Nat) (F : List V → Nat → Hp → Prop) (h0 : F [] 0 H) (fm : ∀ H', Same H H' → F [] 0 H → F [] 0 H')
    (turn : ∀ D i ys H2, Mk1 H D H2 ys → F ys i (del D H2) → i < n → g (.int (lo + i)) (wipe σ vs) H2 fun σ2 H3 => LtK H F D i tt te vs σ σ2 H3)
    (hd : ∀ D H' ys, Mk1 H D H' ys → F ys n (del D H') → Q (.ref D) H') : LcK (Itr lo n) g tt te vs σ Q H := fun D nD =>
  lc_range (fun i H2 => ∃ ys, Mk1 H D H2 ys ∧ F ys i (del D H2)) ⟨[], mk1 nD, by rw [del_upd]; exact fm _ (del_none (Same.refl H) nD) h0⟩
    (fun i H2 hi ⟨ys, m, f⟩ => turn D i ys H2 m f hi) (fun H2 ⟨ys, m, f⟩ => hd D H2 ys m f)
theorem forT (Pv : Nat → L2.St → Hp → Prop) (h0 : Pv 0 σ H) (hl : ∀ i σ H, i ≤ xs.length → Pv i σ H → SqT K H a xs)
    (hs : ∀ i x σ H, xs[i]? = some x → Pv i σ H → g x σ H fun σ2 H2 => tb { D with nx := Pv (i + 1), ct := Pv (i + 1), bk := D.nx } σ2 H2) (hd : ∀ σ H, Pv xs.length σ H → D.nx σ H) : ForK (Itt K a) g tb D σ H := for_tup Pv h0 hl hs hd
theorem forL (Pv : Nat → L2.St → Hp → Prop) (h0 : Pv 0 σ H) (hl : ∀ i σ H, i ≤ xs.length → Pv i σ H → SqL K H a xs)
    (hs : ∀ i x σ H, xs[i]? = some x → Pv i σ H → g x σ H fun σ2 H2 => tb { D with nx := Pv (i + 1), ct := Pv (i + 1), bk := D.nx } σ2 H2) (hd : ∀ σ H, Pv xs.length σ H → D.nx σ H) : ForK (Itl K a) g tb D σ H := for_list Pv h0 hl hs hd
theorem forR {lo : Int} {n : Nat} (Pv : Nat → L2.St → Hp → Prop) (h0 : Pv 0 σ H)
    (hs : ∀ i σ H, i < n → Pv i σ H → g (.int (lo + i)) σ H fun σ2 H2 => tb { D with nx := Pv (i + 1), ct := Pv (i + 1), bk := D.nx } σ2 H2) (hd : ∀ σ H, Pv n σ H → D.nx σ H) : ForK (Itr lo n) g tb D σ H := for_range Pv h0 hs hd
def Rg1K (vs : List V) (H : Hp) (R : It → Hp → Prop) : Prop := ∃ j : Int, vs = [.int j] ∧ -(2 ^ 62) ≤ j ∧ j < 2 ^ 62 ∧ R (Itr 0 j.toNat) H
theorem rg1K {j : Int} {R : It → Hp → Prop} (h1 : 0 ≤ j) (h2 : j ≤ 100000) (q : R (Itr 0 j.toNat) H) : Rg1K [.int j] H R := ⟨j, rfl, by omega, by omega, q⟩
theorem x_rng1 {R : It → Hp → Prop} (q : tA σ H fun vs H1 => Rg1K vs H1 R) : iRng1 tA σ H R := q
/-- methods of lists -/
def TyK (K : PySem.W.Frag) (T : String) (x : V) (H : Hp) (R : Prop) : Prop := tyV K T x H ∧ R
theorem tyK_l {ys : List V} {R : Prop} (h : SqL K H a ys) (q : R) : TyK K "list" (.ref a) H R := ⟨.inl ⟨rfl, _, h⟩, q⟩
theorem x_bm {T : String} {r : V → List V → Hp → VK → Prop} (q : ta σ H fun x H1 => TyK K T x H1 (tA σ H1 fun xs H2 => r x xs H2 Q)) : tBM K T r ta tA σ H Q := q
theorem r_app {xs : List V} {y : V} (h : H a = some (.lst xs)) (hl : xs.length ≤ 1000) (q : Q .non (upd H a (.lst (xs ++ [y])))) : rAppend (.ref a) [y] H Q := ⟨a, xs, y, rfl, rfl, h, small1000 hl, q⟩
/-- lists -/
theorem r_cat {b : Addr} {ys : List V} (h1 : H a = some (.lst xs)) (h2 : H b = some (.lst ys)) (hl : xs.length + ys.length ≤ 1000) (q : ∀ p H', H p = none → Same H H' → H' p = some (.lst (xs ++ ys)) → Q (.ref p) H') : rCat (.ref a) (.ref b) H Q :=
  ⟨a, b, xs, ys, rfl, rfl, h1, h2, Nat.le_of_lt (small1000 hl), fun p np => q p _ np (same_new np) upd_same⟩
theorem r_len (h : SqL K H a xs) (q : Q (.int xs.length) H) : rLenS K [.ref a] H Q := ⟨a, xs, rfl, .inl h, q⟩
theorem r_lenT (h : SqT K H a xs) (q : Q (.int xs.length) H) : rLenS K [.ref a] H Q := ⟨a, xs, rfl, .inr h, q⟩
theorem r_list (h : SqL K H a xs) (q : ∀ p H', H p = none → Same H H' → H' p = some (.lst xs) → Q (.ref p) H') : rListS K [.ref a] H Q := ⟨a, xs, rfl, .inl h, fun p np => q p _ np (same_new np) upd_same⟩
theorem r_tupL (h : SqL K H a xs) (q : ∀ p H', H p = none → Same H H' → H' p = some (.tup xs) → Q (.ref p) H') : rTupS K [.ref a] H Q := ⟨a, xs, rfl, .inl ⟨h, fun p np => q p _ np (same_new np) upd_same⟩⟩
theorem r_all {bs : List Bool} (h : SqL K H a (bs.map V.bl)) (q : Q (.bl (bs.all id)) H) : rAll K [.ref a] H Q := ⟨a, bs, rfl, h, q⟩
end
/-- what is no list stays without a list -/
theorem del_sqt {K : PySem.W.Frag} {H : Hp} {D q : Addr} {xs ys : List V} (hd : H D = some (.lst ys)) (h : SqT K H q xs) : SqT K (del D H) q xs := by
  rcases h with (h | ⟨ob, h⟩) | h
  · exact .inl (.inl (del_at h (ne_of h hd fun e => by cases e)))
  · exact .inl (.inr ⟨ob, del_at h (ne_of h hd fun e => by cases e)⟩)
  · exact .inr h
theorem del_ins {H : Hp} {D p C dx : Addr} {ys : List V} {fs : List (Str × V)} (hd : H D = some (.lst ys)) (h : H p = some (.ins C dx fs)) : del D H p = some (.ins C dx fs) := del_at h (ne_of h hd fun e => by cases e)
mutual
/-- data without lists -/
def noL : PyData → Bool
  | .list _ => false
  | .tuple ds => noLs ds
  | _ => true
def noLs : List PyData → Bool
  | [] => true
  | d :: r => noL d && noLs r
end
mutual
theorem del_dp {K : PySem.W.Frag} {H : Hp} {D : Addr} {ys : List V} (hd : H D = some (.lst ys)) : ∀ {v : V} {d : PyData}, Dp K H v d → noL d = true → Dp K (del D H) v d
  | _, _, .non, _ => .non
  | _, _, .bl b, _ => .bl b
  | _, _, .int i, _ => .int i
  | _, _, .str x, _ => .str x
  | _, _, .lst _ _, n => by simp [noL] at n
  | _, _, .tup h a, n => .tup (del_sqt hd h) (del_dps hd a (by simpa [noL] using n))
theorem del_dps {K : PySem.W.Frag} {H : Hp} {D : Addr} {ys : List V} (hd : H D = some (.lst ys)) : ∀ {vs : List V} {ds : List PyData}, DpAll K H vs ds → noLs ds = true → DpAll K (del D H) vs ds
  | _, _, .nil, _ => .nil
  | _, _, .cons h a, n => by
    have n2 := Bool.and_eq_true_iff.mp (show (noL _ && noLs _) = true from by simpa [noLs] using n)
    exact .cons (del_dp hd h n2.1) (del_dps hd a n2.2)
end
theorem del_verb {K : PySem.W.Frag} {H : Hp} {D : Addr} {ys : List V} (hd : H D = some (.lst ys)) {v : V} {b : Vb} (h : VerbAt K H v b) : VerbAt K (del D H) v b := by
  obtain ⟨p, dx, q, e, h1, h2⟩ := h
  exact ⟨p, dx, q, e, del_ins hd h1, del_sqt hd h2⟩
theorem paired_get' {α β : Type} {G : α → β → Prop} {l₁ : List α} {l₂ : List β} (h : Paired G l₁ l₂) : ∀ {i : Nat} {a : α}, l₁[i]? = some a → ∃ b, l₂[i]? = some b ∧ G a b := by
  induction h with
  | nil => intro i a e; simp at e
  | cons h t ih =>
    intro i a e
    cases i with
    | zero => exact ⟨_, rfl, by simp at e; subst e; exact h⟩
    | succ i => exact ih (i := i) (by simpa using e)
theorem paired_app {α β : Type} {G : α → β → Prop} {l₁ l₃ : List α} {l₂ l₄ : List β} (h : Paired G l₁ l₂) (k : Paired G l₃ l₄) : Paired G (l₁ ++ l₃) (l₂ ++ l₄) := by
  induction h with
  | nil => exact k
  | cons h t ih => exact .cons h ih
end Tw
set_option maxHeartbeats 4000000
/-! The common verbs; rules are made (nothing is asked of them but that they are made). -/
namespace Tw
open PySem PySem.Spec L2
local macro_rules | `(tactic| walk_at "rd1") => `(tactic| first
  | with_reducible refine x_seq ?_
  | ((with_reducible refine x_var (v := ?vv) ?hh ?_); case hh => exact rfl)
  | with_reducible refine x_c ?_
  | with_reducible refine x_op ?_
  | with_reducible refine x_fld ?_
  | with_reducible refine x_call ?_
  | with_reducible refine x_meth ?_
  | with_reducible refine x_make ?_
  | with_reducible refine x_cb ?_
  | with_reducible refine x_tup ?_
  | with_reducible refine x_lst ?_
  | with_reducible refine x_nil ?_
  | with_reducible refine x_cons ?_
  | with_reducible refine x_asg ?_
  | with_reducible refine x_name ?_
  | with_reducible refine x_ret ?_
  | with_reducible refine x_retN ?_
  | with_reducible refine x_drop ?_
  | with_reducible refine x_ifS ?_
  | with_reducible refine x_if ?_
  | with_reducible refine x_andV ?_
  | with_reducible refine x_orV ?_
  | with_reducible refine x_notV ?_
  | with_reducible refine x_test ?_
  | with_reducible refine x_tB ?_
  | with_reducible refine x_and ?_
  | with_reducible refine x_or ?_
  | with_reducible refine x_not ?_
  | with_reducible refine x_yes ?_
  | with_reducible refine x_next ?_
  | with_reducible refine x_sfld ?_
  | with_reducible refine blK ?_
  | with_reducible refine r_I0 ?_
  | with_reducible refine r_isN ?_
  | with_reducible refine r_notN ?_
  | ((with_reducible refine r_eq ?hh ?_); case hh => exact rfl)
  | ((with_reducible refine r_ne ?hh ?_); case hh => exact rfl)
  | with_reducible refine x_gnil ?_
  | with_reducible refine x_gcons ?_)
local macro_rules | `(tactic| walk_at "rd2") => `(tactic| first
  | walk_at "rd1"
  | with_reducible refine x_lc ?_
  | with_reducible refine x_for ?_
  | with_reducible refine x_itup ?_
  | with_reducible refine x_ilist ?_
  | with_reducible refine x_rng1 ?_
  | with_reducible refine x_bm ?_
  | with_reducible refine x_chain ?_
  | with_reducible refine x_istr ?_
  | with_reducible refine strK ?_
  | with_reducible refine x_sl ?_
  | with_reducible refine x_part ?_
  | with_reducible refine x_noPart ?_
  | with_reducible refine poK ?_
  | ((with_reducible refine ltK ?hh ?_); case hh => exact rfl)
  | ((with_reducible refine ltKx ?hh ?_); case hh => exact rfl)
  | with_reducible refine x_dput ?_
  | with_reducible refine x_dget ?_
  | with_reducible refine iteK_t ?_
  | with_reducible refine iteK_nf ?_
  | with_reducible refine iteK_nt ?_
  | with_reducible refine iteK_f ?_)
local macro_rules | `(tactic| walk_at "go") => `(tactic| repeat (walk_at "rd2"))
local macro_rules | `(tactic| walk_at "rd") => `(tactic| repeat (walk_at "rd1"))
local macro_rules | `(tactic| walk_at "at") => `(tactic| repeat (first | assumption | refine same_at' (by assumption) ?_))
local macro_rules | `(tactic| walk_at "sm") => `(tactic| repeat (first | exact Same.refl _ | assumption | refine Same.trans ?_ (by assumption)))
local macro_rules | `(tactic| walk_at "mk1") => `(tactic| first
  | with_reducible refine mk_new rfl fun _ _ _ _ _ _ => ?_
  | with_reducible refine lstK rfl fun _ _ _ _ _ => ?_
  | with_reducible refine tupK rfl fun _ _ _ _ _ => ?_
  | with_reducible refine mk_rule4 (SqL.of (by walk_at "at")) (SqL.of (by walk_at "at")) fun _ _ _ _ => ?_
  | with_reducible refine mk_rule (SqL.of (by walk_at "at")) (SqL.of (by walk_at "at")) fun _ _ _ _ => ?_
  | with_reducible refine c_refusal (SqL.of (by walk_at "at")) fun _ _ _ _ => ?_)
local macro_rules | `(tactic| walk_at "mk") => `(tactic| repeat (first | walk_at "rd2" | walk_at "mk1"))
local macro_rules | `(tactic| walk_at "ar1") => `(tactic| ((with_reducible refine r_I ?hh ?_); case hh => first | exact (show (0 : Int) < _ from by decide +kernel) | exact And.intro (by decide +kernel) (by decide +kernel) | exact Or.inr (And.intro (by decide +kernel) (by decide +kernel)) | exact Or.inl (And.intro (by decide +kernel) (by decide +kernel)) | exact And.intro (by decide +kernel) (And.intro (by decide +kernel) (by decide +kernel))))
local macro_rules | `(tactic| walk_at "ar") => `(tactic| repeat (first | walk_at "rd2" | walk_at "ar1"))

section
variable {P : Program} {w : World} {K : PySem.W.Frag} {mg : Str → Option Value} {base : Heap}
def spVerbs (K : PySem.W.Frag) : Sp := fun vs H Q _ => vs = [] ∧ ∀ p H' us, Same H H' → H p = none → H' p = some (.lst us) → Paired (VerbAt K H') us vbs → Q (.ref p) H'
def vb1 (n : Str) : Vb := ⟨n, "one", none⟩
def six : List Str := ["take", "drop", "open", "shut", "light", "douse"]
theorem sc_common_verbs : FnScope ["found", "name"] [] (defScope s_common_verbs) := ⟨rfl, rfl, rfl, by decide +kernel, rfl, by decide +kernel, by decide +kernel⟩
theorem ok_common_verbs (t : T K mg) : C8.Cal P w K mg base 3 "common_verbs" (spVerbs K) [] := by
  have v1 := ok_Verb1 (P := P) (w := w) (base := base) t
  have v3 := ok_Verb3 (P := P) (w := w) (base := base) t
  have v4 := ok_Verb4 (P := P) (w := w) (base := base) t
  refine cal t.f_common_verbs t.g_common_verbs sc_common_verbs (fun _ _ _ _ _ _ us hl => match us, hl with | [], _ => rfl) (fun vs H Q E h => ?_) fun cdv A outer s H vs Q E hr h => ?_
  · obtain ⟨rfl, _⟩ := h
    rfl
  · obtain ⟨rfl, k⟩ := h
    refine ⟨_, (pss_cons (ps_setLc (i := 0) (own := [("name", 1)]) (by rfl) sc_common_verbs.nd rfl rfl (sw_true rfl rfl rfl (by decide +kernel)) (pi_tup' (K := K) rfl (pe_tup (pa_cons pe_str (pa_cons pe_str (pa_cons pe_str (pa_cons pe_str (pa_cons pe_str (pa_cons pe_str pa_nil)))))))) (blkOk_by (own := [("name", 1)]) (N := ["found", "name"]) (sc := defScope s_common_verbs) (by decide +kernel)) (fun _ _ _ _ _ => (pg_name (i := 1) sc_common_verbs.nd rfl (Or.inl rfl))) (fun _ _ _ _ _ => pts_nil) (fun _ _ _ _ _ => (C8.pe_mk v1 hr (by decide) (by rfl) (pa_cons (L2.pv 1) pa_nil))))
      (pss_one (ps_ret (pe_op op_cat (L2.pv 0) (pe_lst (pa_cons (C8.pe_mk v4 hr (by decide) (by rfl) (pa_cons pe_str (pa_cons (pe_tup pa_nil) (pa_cons pe_str (pa_cons pe_str pa_nil))))) (pa_cons (C8.pe_mk v3 hr (by decide) (by rfl) (pa_cons pe_str (pa_cons (pe_tup pa_nil) (pa_cons pe_str pa_nil)))) (pa_cons (C8.pe_mk v3 hr (by decide) (by rfl) (pa_cons pe_str (pa_cons (pe_tup pa_nil) (pa_cons pe_str pa_nil)))) pa_nil)))))))), ?_⟩
    walk_at "go"
    refine tupK rfl fun a H1 na s1 h1 => sqTK (SqT.of h1) ?_
    refine lcT (fun ys i H' => Paired (VerbAt K H') ys ((six.take i).map vb1)) (SqT.of h1) .nil (fun _ _ _ => .nil) ?_ ?_
    · intro D i x ys H2 m f hi
      obtain ⟨n, hn, rfl⟩ : ∃ n, six[i]? = some n ∧ V.str n = x := map_get (l := six) (f := V.str) hi
      have hlt : i < 6 := get_lt hn
      walk_at "go"
      refine mk_verb (vb := vb1 n) rfl (.inl rfl) rfl rfl fun p H3 np s3 h3 => ?_
      have e := f.length
      rw [List.length_map, List.length_take] at e
      refine apK (m.grow s3) (by omega) ?_
      rw [take_succ' hn, List.map_append]
      exact paired_app (Paired.mapP f fun _ _ q => verb_mono (del_mono s3) q) (.cons (del_verb (m.grow s3).at_ h3) .nil)
    · intro D H2 ys m f
      walk_at "go"
      refine tupK rfl fun q3 H3 n3 s3 h3 => ?_
      walk_at "go"
      refine mk_verb (vb := ⟨"put", "two", some "in"⟩) rfl (.inr ⟨q3, rfl, .of h3⟩) rfl rfl fun p4 H4 n4 s4 h4 => ?_
      walk_at "go"
      refine tupK rfl fun q5 H5 n5 s5 h5 => ?_
      walk_at "go"
      refine mk_verb (vb := ⟨"go", "way", none⟩) rfl (.inr ⟨q5, rfl, .of h5⟩) rfl rfl fun p6 H6 n6 s6 h6 => ?_
      walk_at "go"
      refine tupK rfl fun q7 H7 n7 s7 h7 => ?_
      walk_at "go"
      refine mk_verb (vb := ⟨"wait", "alone", none⟩) rfl (.inr ⟨q7, rfl, .of h7⟩) rfl rfl fun p8 H8 n8 s8 h8 => ?_
      walk_at "go"
      refine lstK rfl fun l H9 n9 s9 h9 => ?_
      have e := f.length
      refine r_cat (xs := ys) (by walk_at "at"; exact m.at_) h9 (by simp [six] at e; simp [e]) fun l2 H10 n10 s10 h10 => ?_
      have s29 : Same H2 H10 := ((((((s3.trans s4).trans s5).trans s6).trans s7).trans s8).trans s9).trans s10
      refine k l2 H10 _ (s1.trans (m.same.trans s29)) ((s1.trans (m.same.trans ((((((s3.trans s4).trans s5).trans s6).trans s7).trans s8).trans s9))).free n10) h10 ?_
      · refine paired_app (l₂ := six.map vb1) (Paired.mapP f fun _ _ q => verb_mono (del_le.trans s29) q) (.cons (verb_mono ((((s5.trans s6).trans s7).trans s8).trans (s9.trans s10)) h4) (.cons (verb_mono ((s7.trans s8).trans (s9.trans s10)) h6) (.cons (verb_mono (s9.trans s10) h8) .nil)))
/-! ### what verbs and things say -/
def spCalled (K : PySem.W.Frag) : Sp := fun vs H Q _ => ∃ v b x, vs = [v, .str x] ∧ VerbAt K H v b ∧ ∀ H', Same H H' → Q (.bl (decide (x = b.name))) H'
theorem sc_Verb_is_called : FnScope ["self", "word"] ["self", "word"] (defScope s_Verb_is_called) := ⟨rfl, rfl, rfl, by decide +kernel, rfl, by decide +kernel, by decide +kernel⟩
theorem ok_is_called (t : T K mg) : C8.Met P w K mg base 1 (He.ga K "Verb") "is_called" (spCalled K) [] := by
  refine met t.f_Verb_is_called t.c_Verb t.m_Verb_is_called sc_Verb_is_called (fun _ _ _ _ _ _ us hl => match us, hl with | [_, _], _ => rfl) (fun vs H Q E h => ?_) fun cdv A outer s H vs Q E hr h => ?_
  · obtain ⟨v, b, x, rfl, _⟩ := h
    rfl
  · obtain ⟨v, b, x, rfl, ⟨p, dx, q, rfl, h1, h2⟩, k⟩ := h
    refine ⟨_, (pss_one (ps_ret (pe_or (pe_cmpR op_eq (L2.pv 1) (pe_fld' (K := K) rfl (L2.pv 0) rfl) (nomark _)) (pe_one (pe_cmpR (op_in' (K := K) rfl) (L2.pv 1) (pe_fld' (K := K) rfl (L2.pv 0) rfl) (by rfl)))))), ?_⟩
    walk_at "go"
    refine fldK h1 t.c_Verb t.n_Verb_name (l_Verb_name _ _ _ _) ?_
    walk_at "go"
    by_cases e : x = b.name
    · subst e
      refine iteK_y (decide_eq_true rfl) ?_
      have := k H (Same.refl H)
      rw [decide_eq_true rfl] at this
      exact this
    · refine iteK_n (decide_eq_false fun z => e (by injection z)) ?_
      walk_at "go"
      refine fldK h1 t.c_Verb t.n_Verb_others (l_Verb_others _ _ _ _) ?_
      refine r_inT h2 rfl rfl ?_
      have := k H (Same.refl H)
      rw [decide_eq_false e] at this
      exact this
structure Th where
  name : Str
  words : List Str
  kind : Str
  start : Option Str
def strsD (xs : List Str) : List PyData := xs.map PyData.str
def ThingAt (K : PySem.W.Frag) (H : Hp) (v : V) (h : Th) : Prop := ∃ p dx q, v = .ref p ∧ H p = some (.ins (He.ga K "Thing") dx (F_Thing [.str h.name, .ref q, .str h.kind, oS h.start])) ∧ SqT K H q (h.words.map V.str)
theorem thing_mono {H H' : Hp} {v : V} {b : Th} (s : Same H H') (h : ThingAt K H v b) : ThingAt K H' v b := by
  obtain ⟨p, dx, q, e, h1, h2⟩ := h
  exact ⟨p, dx, q, e, s _ _ h1, same_sqt s h2⟩
theorem del_thing {H : Hp} {D : Addr} {ys : List V} (hd : H D = some (.lst ys)) {v : V} {b : Th} (h : ThingAt K H v b) : ThingAt K (del D H) v b := by
  obtain ⟨p, dx, q, e, h1, h2⟩ := h
  exact ⟨p, dx, q, e, del_ins hd h1, del_sqt hd h2⟩
/-- a field of a thing, whatever has been made meanwhile -/
theorem thing_name (t : T K mg) {H H' : Hp} {v : V} {h : Th} {Q : VK} (a : ThingAt K H v h) (s : Same H H') (q : Q (.str h.name) H') : FldK K "name" v H' Q := by
  obtain ⟨p, dx, w, rfl, h1, _⟩ := a
  exact fldK (s _ _ h1) t.c_Thing t.n_Thing_name (l_Thing_name _ _ _ _) q
theorem thing_kind (t : T K mg) {H H' : Hp} {v : V} {h : Th} {Q : VK} (a : ThingAt K H v h) (s : Same H H') (q : Q (.str h.kind) H') : FldK K "kind" v H' Q := by
  obtain ⟨p, dx, w, rfl, h1, _⟩ := a
  exact fldK (s _ _ h1) t.c_Thing t.n_Thing_kind (l_Thing_kind _ _ _ _) q
theorem thing_start (t : T K mg) {H H' : Hp} {v : V} {h : Th} {Q : VK} (a : ThingAt K H v h) (s : Same H H') (q : Q (oS h.start) H') : FldK K "start" v H' Q := by
  obtain ⟨p, dx, w, rfl, h1, _⟩ := a
  exact fldK (s _ _ h1) t.c_Thing t.n_Thing_start (l_Thing_start _ _ _ _) q
theorem thing_words (t : T K mg) {H H' : Hp} {v : V} {h : Th} {Q : VK} (a : ThingAt K H v h) (s : Same H H') (q : ∀ w, SqT K H' w (h.words.map V.str) → Q (.ref w) H') : FldK K "words" v H' Q := by
  obtain ⟨p, dx, w, rfl, h1, h2⟩ := a
  exact fldK (s _ _ h1) t.c_Thing t.n_Thing_words (l_Thing_words _ _ _ _) (q w (same_sqt s h2))
theorem thing_mt (c : Str) {H H' : Hp} {v : V} {h : Th} {R : Prop} (a : ThingAt K H v h) (s : Same H H') (hc : ∀ a b c' d, (F_Thing [a, b, c', d]).lookup c = none) (q : R) : MtK (He.ga K "Thing") c v H' R := by
  obtain ⟨p, dx, w, rfl, h1, h2⟩ := a
  exact mtK (s _ _ h1) (hc _ _ _ _) q
theorem no_can_hold (a b c d : V) : (F_Thing [a, b, c, d]).lookup ("can_hold" : Str) = none := by kernel_rfl
theorem no_has_mark (a b c d : V) : (F_Thing [a, b, c, d]).lookup ("has_mark" : Str) = none := by kernel_rfl
theorem no_is_plainly (a b c d : V) : (F_Thing [a, b, c, d]).lookup ("is_plainly" : Str) = none := by kernel_rfl
def Th.holds (h : Th) : Bool := decide (h.kind = "room") || (decide (h.kind = "box") || decide (h.kind = "you"))
def Th.marked (h : Th) : Bool := decide (h.kind = "box") || decide (h.kind = "lamp")
def Th.plain (h : Th) : Bool := !(decide (h.kind = "room") || decide (h.kind = "you"))
theorem inV_str (x : Str) (xs : List Str) : inV (.str x) (xs.map V.str) = xs.any fun y => decide (x = y) := by
  unfold inV
  rw [List.any_map]
  congr 1
  funext y
  show (y == x) = decide (x = y)
  by_cases e : x = y
  · subst e; simp
  · rw [decide_eq_false e]
    exact beq_eq_false_iff_ne.mpr fun z => e z.symm
theorem flat_strs (xs : List Str) : (xs.map V.str).all flatV = true := by
  rw [List.all_map]
  exact List.all_eq_true.mpr fun _ _ => rfl
def spSays (K : PySem.W.Frag) (f : Th → Bool) : Sp := fun vs H Q _ => ∃ v h, vs = [v] ∧ ThingAt K H v h ∧ ∀ H', Same H H' → Q (.bl (f h)) H'
theorem sc_Thing_can_hold : FnScope ["self"] ["self"] (defScope s_Thing_can_hold) := ⟨rfl, rfl, rfl, by decide +kernel, rfl, by decide +kernel, by decide +kernel⟩
theorem ok_can_hold (t : T K mg) : C8.Met P w K mg base 1 (He.ga K "Thing") "can_hold" (spSays K Th.holds) [] := by
  refine met t.f_Thing_can_hold t.c_Thing t.m_Thing_can_hold sc_Thing_can_hold (fun _ _ _ _ _ _ us hl => match us, hl with | [_], _ => rfl) (fun vs H Q E h => ?_) fun cdv A outer s H vs Q E hr h => ?_
  · obtain ⟨v, b, rfl, _⟩ := h
    rfl
  · obtain ⟨v, h, rfl, a, k⟩ := h
    refine ⟨_, (pss_one (ps_ret (pe_cmpR (op_in' (K := K) rfl) (pe_fld' (K := K) rfl (L2.pv 0) rfl) (pe_tup (pa_cons pe_str (pa_cons pe_str (pa_cons pe_str pa_nil)))) (by rfl)))), ?_⟩
    walk_at "go"
    refine thing_kind t a (Same.refl H) ?_
    walk_at "go"
    refine tupK rfl fun p H1 np s1 h1 => r_inT (.of h1) rfl rfl ?_
    have := k H1 s1
    rw [show Th.holds h = inV (.str h.kind) ((["room", "box", "you"] : List Str).map V.str) from by rw [inV_str]; simp [Th.holds]] at this
    exact this
theorem sc_Thing_has_mark : FnScope ["self"] ["self"] (defScope s_Thing_has_mark) := ⟨rfl, rfl, rfl, by decide +kernel, rfl, by decide +kernel, by decide +kernel⟩
theorem ok_has_mark (t : T K mg) : C8.Met P w K mg base 1 (He.ga K "Thing") "has_mark" (spSays K Th.marked) [] := by
  refine met t.f_Thing_has_mark t.c_Thing t.m_Thing_has_mark sc_Thing_has_mark (fun _ _ _ _ _ _ us hl => match us, hl with | [_], _ => rfl) (fun vs H Q E h => ?_) fun cdv A outer s H vs Q E hr h => ?_
  · obtain ⟨v, b, rfl, _⟩ := h
    rfl
  · obtain ⟨v, h, rfl, a, k⟩ := h
    refine ⟨_, (pss_one (ps_ret (pe_cmpR (op_in' (K := K) rfl) (pe_fld' (K := K) rfl (L2.pv 0) rfl) (pe_tup (pa_cons pe_str (pa_cons pe_str pa_nil))) (by rfl)))), ?_⟩
    walk_at "go"
    refine thing_kind t a (Same.refl H) ?_
    walk_at "go"
    refine tupK rfl fun p H1 np s1 h1 => r_inT (.of h1) rfl rfl ?_
    have := k H1 s1
    rw [show Th.marked h = inV (.str h.kind) ((["box", "lamp"] : List Str).map V.str) from by rw [inV_str]; simp [Th.marked]] at this
    exact this
theorem sc_Thing_is_plainly : FnScope ["self"] ["self"] (defScope s_Thing_is_plainly) := ⟨rfl, rfl, rfl, by decide +kernel, rfl, by decide +kernel, by decide +kernel⟩
theorem ok_is_plainly (t : T K mg) : C8.Met P w K mg base 1 (He.ga K "Thing") "is_plainly" (spSays K Th.plain) [] := by
  refine met t.f_Thing_is_plainly t.c_Thing t.m_Thing_is_plainly sc_Thing_is_plainly (fun _ _ _ _ _ _ us hl => match us, hl with | [_], _ => rfl) (fun vs H Q E h => ?_) fun cdv A outer s H vs Q E hr h => ?_
  · obtain ⟨v, b, rfl, _⟩ := h
    rfl
  · obtain ⟨v, h, rfl, a, k⟩ := h
    refine ⟨_, (pss_one (ps_ret (pe_cmpR (op_notIn' (K := K) rfl) (pe_fld' (K := K) rfl (L2.pv 0) rfl) (pe_tup (pa_cons pe_str (pa_cons pe_str pa_nil))) (by rfl)))), ?_⟩
    walk_at "go"
    refine thing_kind t a (Same.refl H) ?_
    walk_at "go"
    refine tupK rfl fun p H1 np s1 h1 => r_inT (.of h1) rfl rfl ?_
    have := k H1 s1
    rw [show Th.plain h = !inV (.str h.kind) ((["room", "you"] : List Str).map V.str) from by rw [inV_str]; simp [Th.plain]] at this
    exact this
end
end Tw
set_option maxHeartbeats 4000000
/-! Rules are made. -/
namespace Tw
open PySem PySem.Spec L2
section
variable {P : Program} {w : World} {K : PySem.W.Frag} {mg : Str → Option Value} {base : Heap}
theorem same_made {H : Hp} {x dx C : Addr} (nx : H x = none) (nd : H dx = none) (ne : dx ≠ x) : Same H (upd (upd H dx (.own x)) x (.ins C dx [])) :=
  (same_new nd).trans (same_new (by rw [upd_ne ne.symm]; exact nx))
def spRule (K : PySem.W.Frag) : Sp := fun vs H Q _ => ∃ p dx v a b z r xs ys, vs = [.ref p, v, .ref a, .ref b, z, r] ∧ H p = some (.ins (He.ga K "Rule") dx []) ∧ SqL K H a xs ∧ SqL K H b ys ∧
  ∀ H', (∀ b o, H b = some o → b ≠ p → H' b = some o) → Q .non H'
theorem mk_rule {E : XK} {H : Hp} {Q : VK} {a b : Addr} {v z r : V} {xs ys : List V} (ha : SqL K H a xs) (hb : SqL K H b ys) (q : ∀ p H', H p = none → Same H H' → Q (.ref p) H') : MakeK (He.ga K "Rule") (spRule K) [v, .ref a, .ref b, z, r] H Q E :=
  fun x dx nx nd ne => ⟨x, dx, v, a, b, z, r, xs, ys, rfl, upd_same, (same_made nx nd ne).seq ha, (same_made nx nd ne).seq hb, fun H' k => ⟨rfl, q x H' nx (Same.made nx nd k)⟩⟩
theorem mk_rule4 {E : XK} {H : Hp} {Q : VK} {a b : Addr} {v z r : V} {xs ys : List V} (ha : SqL K H a xs) (hb : SqL K H b ys) (q : ∀ p H', H p = none → Same H H' → Q (.ref p) H') : MakeK (He.ga K "Rule") (spRule K) ([v, .ref a, .ref b, z] ++ [r]) H Q E := mk_rule ha hb q
def spRefusal (K : PySem.W.Frag) : Sp := fun vs H Q _ => ∃ v a z xs, vs = [v, .ref a, z] ∧ SqL K H a xs ∧ ∀ p H', H p = none → Same H H' → Q (.ref p) H'
theorem c_refusal {E : XK} {H : Hp} {Q : VK} {a : Addr} {v z : V} {xs : List V} (ha : SqL K H a xs) (q : ∀ p H', H p = none → Same H H' → Q (.ref p) H') : spRefusal K ([v, .ref a, z] ++ []) H Q E := ⟨v, a, z, xs, rfl, ha, q⟩
local macro_rules | `(tactic| walk_at "rd1") => `(tactic| first
  | with_reducible refine x_seq ?_
  | ((with_reducible refine x_var (v := ?vv) ?hh ?_); case hh => exact rfl)
  | with_reducible refine x_c ?_
  | with_reducible refine x_op ?_
  | with_reducible refine x_fld ?_
  | with_reducible refine x_call ?_
  | with_reducible refine x_meth ?_
  | with_reducible refine x_make ?_
  | with_reducible refine x_cb ?_
  | with_reducible refine x_tup ?_
  | with_reducible refine x_lst ?_
  | with_reducible refine x_nil ?_
  | with_reducible refine x_cons ?_
  | with_reducible refine x_asg ?_
  | with_reducible refine x_name ?_
  | with_reducible refine x_ret ?_
  | with_reducible refine x_retN ?_
  | with_reducible refine x_drop ?_
  | with_reducible refine x_ifS ?_
  | with_reducible refine x_if ?_
  | with_reducible refine x_andV ?_
  | with_reducible refine x_orV ?_
  | with_reducible refine x_notV ?_
  | with_reducible refine x_test ?_
  | with_reducible refine x_tB ?_
  | with_reducible refine x_and ?_
  | with_reducible refine x_or ?_
  | with_reducible refine x_not ?_
  | with_reducible refine x_yes ?_
  | with_reducible refine x_next ?_
  | with_reducible refine x_sfld ?_
  | with_reducible refine blK ?_
  | with_reducible refine r_I0 ?_
  | with_reducible refine r_isN ?_
  | with_reducible refine r_notN ?_
  | ((with_reducible refine r_eq ?hh ?_); case hh => exact rfl)
  | ((with_reducible refine r_ne ?hh ?_); case hh => exact rfl)
  | with_reducible refine x_gnil ?_
  | with_reducible refine x_gcons ?_)
local macro_rules | `(tactic| walk_at "rd2") => `(tactic| first
  | walk_at "rd1"
  | with_reducible refine x_lc ?_
  | with_reducible refine x_for ?_
  | with_reducible refine x_itup ?_
  | with_reducible refine x_ilist ?_
  | with_reducible refine x_rng1 ?_
  | with_reducible refine x_bm ?_
  | with_reducible refine x_chain ?_
  | with_reducible refine x_istr ?_
  | with_reducible refine strK ?_
  | with_reducible refine x_sl ?_
  | with_reducible refine x_part ?_
  | with_reducible refine x_noPart ?_
  | with_reducible refine poK ?_
  | ((with_reducible refine ltK ?hh ?_); case hh => exact rfl)
  | ((with_reducible refine ltKx ?hh ?_); case hh => exact rfl)
  | with_reducible refine x_dput ?_
  | with_reducible refine x_dget ?_
  | with_reducible refine iteK_t ?_
  | with_reducible refine iteK_nf ?_
  | with_reducible refine iteK_nt ?_
  | with_reducible refine iteK_f ?_)
local macro_rules | `(tactic| walk_at "go") => `(tactic| repeat (walk_at "rd2"))
local macro_rules | `(tactic| walk_at "rd") => `(tactic| repeat (walk_at "rd1"))
local macro_rules | `(tactic| walk_at "at") => `(tactic| repeat (first | assumption | refine same_at' (by assumption) ?_))
local macro_rules | `(tactic| walk_at "sm") => `(tactic| repeat (first | exact Same.refl _ | assumption | refine Same.trans ?_ (by assumption)))
local macro_rules | `(tactic| walk_at "mk1") => `(tactic| first
  | with_reducible refine mk_new rfl fun _ _ _ _ _ _ => ?_
  | with_reducible refine lstK rfl fun _ _ _ _ _ => ?_
  | with_reducible refine tupK rfl fun _ _ _ _ _ => ?_
  | with_reducible refine mk_rule4 (SqL.of (by walk_at "at")) (SqL.of (by walk_at "at")) fun _ _ _ _ => ?_
  | with_reducible refine mk_rule (SqL.of (by walk_at "at")) (SqL.of (by walk_at "at")) fun _ _ _ _ => ?_
  | with_reducible refine c_refusal (SqL.of (by walk_at "at")) fun _ _ _ _ => ?_)
local macro_rules | `(tactic| walk_at "mk") => `(tactic| repeat (first | walk_at "rd2" | walk_at "mk1"))
local macro_rules | `(tactic| walk_at "ar1") => `(tactic| ((with_reducible refine r_I ?hh ?_); case hh => first | exact (show (0 : Int) < _ from by decide +kernel) | exact And.intro (by decide +kernel) (by decide +kernel) | exact Or.inr (And.intro (by decide +kernel) (by decide +kernel)) | exact Or.inl (And.intro (by decide +kernel) (by decide +kernel)) | exact And.intro (by decide +kernel) (And.intro (by decide +kernel) (by decide +kernel))))
local macro_rules | `(tactic| walk_at "ar") => `(tactic| repeat (first | walk_at "rd2" | walk_at "ar1"))

theorem seq_upd {H : Hp} {q p C dx : Addr} {xs : List V} {fs : List (Str × V)} {o' : HO} (h : SqL K H q xs) (hp : H p = some (.ins C dx fs)) : SqL K (upd H p o') q xs := by
  rcases h with (h | ⟨ob, h⟩) | h
  · exact .inl (.inl (by rw [upd_ne (ne_of h hp fun e => by cases e)]; exact h))
  · exact .inl (.inr ⟨ob, by rw [upd_ne (ne_of h hp fun e => by cases e)]; exact h⟩)
  · exact .inr h
theorem sc_Rule_new : FnScope ["self", "verb", "tests", "deeds", "text", "refuses"] ["self", "verb", "tests", "deeds", "text", "refuses"] (defScope s_Rule_new) := ⟨rfl, rfl, rfl, by decide +kernel, rfl, by decide +kernel, by decide +kernel⟩
theorem body_Rule (t : T K mg) : Body P w K mg base 0 ["self", "verb", "tests", "deeds", "text", "refuses"] "Rule.__init__" (defScope s_Rule_new) (defBody s_Rule_new) (He.ma K (He.ga K "Rule") "__init__") (spRule K) := by
  intro cdv A outer s H vs Q E hr h
  obtain ⟨p, dx, v, a, b, z, r, xs, ys, rfl, hp, ha, hb, k⟩ := h
  refine ⟨_, (pss_cons (ps_fld (L2.pv 0) (L2.pv 1) rfl)
      (pss_cons (ps_fld (L2.pv 0) (pe_callTy (cr_list (K := K) rfl) (by rfl) t.b_list (by decide +kernel) (pa_cons (L2.pv 2) pa_nil)) rfl)
      (pss_cons (ps_fld (L2.pv 0) (pe_callTy (cr_list (K := K) rfl) (by rfl) t.b_list (by decide +kernel) (pa_cons (L2.pv 3) pa_nil)) rfl)
      (pss_cons (ps_fld (L2.pv 0) (L2.pv 4) rfl)
      (pss_one (ps_fld (L2.pv 0) (L2.pv 5) rfl)))))), ?_⟩
  walk_at "go"
  refine sfK1 hp t.c_Rule t.n_Rule_verb (Nat.zero_le _) ?_
  walk_at "go"
  refine r_list (seq_upd ha hp) fun l1 H1 n1 s1 h1 => ?_
  walk_at "go"
  refine sfK1 (s1 _ _ upd_same) t.c_Rule t.n_Rule_tests (Nat.le_trans (putF_small (n := 0) (Nat.le_refl 0)) (by decide)) ?_
  walk_at "go"
  refine r_list (seq_upd (s1.seq (seq_upd hb hp)) (s1 _ _ upd_same)) fun l2 H2 n2 s2 h2 => ?_
  walk_at "go"
  refine sfK1 (s2 _ _ upd_same) t.c_Rule t.n_Rule_deeds (Nat.le_trans (putF_small (n := 1) (putF_small (n := 0) (Nat.le_refl 0))) (by decide)) ?_
  walk_at "go"
  refine sfK1 upd_same t.c_Rule t.n_Rule_text (Nat.le_trans (putF_small (n := 2) (putF_small (n := 1) (putF_small (n := 0) (Nat.le_refl 0)))) (by decide)) ?_
  walk_at "go"
  refine sfK1 upd_same t.c_Rule t.n_Rule_refuses (Nat.le_trans (putF_small (n := 3) (putF_small (n := 2) (putF_small (n := 1) (putF_small (n := 0) (Nat.le_refl 0))))) (by decide)) ?_
  refine k _ fun b' o he hb' => ?_
  rw [upd_ne hb', upd_ne hb', upd_ne hb']
  refine s2 _ _ ?_
  rw [upd_ne hb']
  refine s1 _ _ ?_
  rw [upd_ne hb']
  exact he
theorem len_Rule : ∀ vs H Q E, spRule K vs H Q E → vs.length = ["self", "verb", "tests", "deeds", "text", "refuses"].length := fun vs H Q E h => by
  obtain ⟨p, dx, v, a, b, z, r, xs, ys, rfl, _⟩ := h
  rfl
theorem ok_Rule4 (t : T K mg) : C8.Mak P w K mg base 1 "Rule" (He.ga K "Rule") (spRule K) [.bl false] :=
  makD 5 0 t.f_Rule_new t.k_Rule t.g_Rule sc_Rule_new (by decide) rfl (fun _ _ _ _ _ _ _ us its hl hi => match us, hl, its, hi with | [_, _, _, _, _], _, [_], _ => ⟨_, rfl, rfl⟩) len_Rule (body_Rule t)
theorem ok_Rule5 (t : T K mg) : C8.Mak P w K mg base 1 "Rule" (He.ga K "Rule") (spRule K) [] :=
  makD 6 1 t.f_Rule_new t.k_Rule t.g_Rule sc_Rule_new (by decide) rfl (fun _ _ _ _ _ _ _ us its hl hi => match us, hl, its, hi with | [_, _, _, _, _, _], _, [_], _ => ⟨_, rfl, rfl⟩) len_Rule (body_Rule t)
theorem sc_refusal : FnScope ["verb", "tests", "text"] ["verb", "tests", "text"] (defScope s_refusal) := ⟨rfl, rfl, rfl, by decide +kernel, rfl, by decide +kernel, by decide +kernel⟩
theorem ok_refusal (t : T K mg) : C8.Cal P w K mg base 3 "refusal" (spRefusal K) [] := by
  have c_Rule := ok_Rule5 (P := P) (w := w) (base := base) t
  refine cal t.f_refusal t.g_refusal sc_refusal (fun _ _ _ _ _ _ us hl => match us, hl with | [_, _, _], _ => rfl) (fun vs H Q E h => ?_) fun cdv A outer s H vs Q E hr h => ?_
  · obtain ⟨v, a, z, xs, rfl, _⟩ := h
    rfl
  · obtain ⟨v, a, z, xs, rfl, ha, k⟩ := h
    refine ⟨_, (pss_one (ps_ret (C8.pe_mk c_Rule hr (by decide) (by rfl) (pa_cons (L2.pv 0) (pa_cons (L2.pv 1) (pa_cons (pe_lst pa_nil) (pa_cons (L2.pv 2) (pa_cons pe_bl pa_nil)))))))), ?_⟩
    walk_at "go"
    refine lstK rfl fun l1 H1 n1 s1 h1 => ?_
    walk_at "go"
    refine mk_rule (s1.seq ha) (.of h1) fun p2 H2 n2 s2 => ?_
    exact k p2 H2 (s1.free n2) (s1.trans s2)
def spRules : Sp := fun vs H Q _ => ∃ y, vs = [V.str y] ∧ ∀ p H' xs, Same H H' → H' p = some (.lst xs) → xs.length ≤ 20 → Q (.ref p) H'
theorem sc_hand_rules : FnScope ["you"] ["you"] (defScope s_hand_rules) := ⟨rfl, rfl, rfl, by decide +kernel, rfl, by decide +kernel, by decide +kernel⟩
theorem ok_hand_rules (t : T K mg) : C8.Cal P w K mg base 4 "hand_rules" spRules [] := by
  have c_refusal := ok_refusal (P := P) (w := w) (base := base) t
  have c_Rule := ok_Rule4 (P := P) (w := w) (base := base) t
  have c_Kind := ok_Kind (P := P) (w := w) (base := base) t
  have c_At := ok_At (P := P) (w := w) (base := base) t
  have c_Has := ok_Has (P := P) (w := w) (base := base) t
  have c_Not := ok_Not (P := P) (w := w) (base := base) t
  have c_Marked := ok_Marked (P := P) (w := w) (base := base) t
  have c_Move := ok_Move (P := P) (w := w) (base := base) t
  refine cal t.f_hand_rules t.g_hand_rules sc_hand_rules (fun _ _ _ _ _ _ us hl => match us, hl with | [_], _ => rfl) (fun vs H Q E h => ?_) fun cdv A outer s H vs Q E hr h => ?_
  · obtain ⟨y, rfl, _⟩ := h
    rfl
  · obtain ⟨y, rfl, k⟩ := h
    refine ⟨_, (pss_one (ps_ret (pe_lst (pa_cons (C8.pe_c c_refusal hr (by decide) (by rfl) (pa_cons pe_str (pa_cons (pe_lst (pa_cons (C8.pe_mk c_Kind hr (by decide) (by rfl) (pa_cons pe_str (pa_cons pe_str pa_nil))) pa_nil)) (pa_cons pe_str pa_nil)))) (pa_cons (C8.pe_c c_refusal hr (by decide) (by rfl) (pa_cons pe_str (pa_cons (pe_lst (pa_cons (C8.pe_mk c_At hr (by decide) (by rfl) (pa_cons pe_str (pa_cons (L2.pv 0) pa_nil))) pa_nil)) (pa_cons pe_str pa_nil)))) (pa_cons (C8.pe_mk c_Rule hr (by decide) (by rfl) (pa_cons pe_str (pa_cons (pe_lst pa_nil) (pa_cons (pe_lst (pa_cons (C8.pe_mk c_Move hr (by decide) (by rfl) (pa_cons pe_str (pa_cons (L2.pv 0) pa_nil))) pa_nil)) (pa_cons pe_str pa_nil))))) (pa_cons (C8.pe_mk c_Rule hr (by decide) (by rfl) (pa_cons pe_str (pa_cons (pe_lst (pa_cons (C8.pe_mk c_Has hr (by decide) (by rfl) (pa_cons pe_str pa_nil)) pa_nil)) (pa_cons (pe_lst (pa_cons (C8.pe_mk c_Move hr (by decide) (by rfl) (pa_cons pe_str (pa_cons pe_str pa_nil))) pa_nil)) (pa_cons pe_str pa_nil))))) (pa_cons (C8.pe_c c_refusal hr (by decide) (by rfl) (pa_cons pe_str (pa_cons (pe_lst pa_nil) (pa_cons pe_str pa_nil)))) (pa_cons (C8.pe_c c_refusal hr (by decide) (by rfl) (pa_cons pe_str (pa_cons (pe_lst (pa_cons (C8.pe_mk c_Not hr (by decide) (by rfl) (pa_cons (C8.pe_mk c_Has hr (by decide) (by rfl) (pa_cons pe_str pa_nil)) pa_nil)) pa_nil)) (pa_cons pe_str pa_nil)))) (pa_cons (C8.pe_c c_refusal hr (by decide) (by rfl) (pa_cons pe_str (pa_cons (pe_lst (pa_cons (C8.pe_mk c_Not hr (by decide) (by rfl) (pa_cons (C8.pe_mk c_Kind hr (by decide) (by rfl) (pa_cons pe_str (pa_cons pe_str pa_nil))) pa_nil)) pa_nil)) (pa_cons pe_str pa_nil)))) (pa_cons (C8.pe_c c_refusal hr (by decide) (by rfl) (pa_cons pe_str (pa_cons (pe_lst (pa_cons (C8.pe_mk c_Marked hr (by decide) (by rfl) (pa_cons pe_str (pa_cons pe_int pa_nil))) pa_nil)) (pa_cons pe_str pa_nil)))) (pa_cons (C8.pe_mk c_Rule hr (by decide) (by rfl) (pa_cons pe_str (pa_cons (pe_lst pa_nil) (pa_cons (pe_lst (pa_cons (C8.pe_mk c_Move hr (by decide) (by rfl) (pa_cons pe_str (pa_cons pe_str pa_nil))) pa_nil)) (pa_cons pe_str pa_nil))))) pa_nil)))))))))))), ?_⟩
    clear c_refusal c_Rule c_Kind c_At c_Has c_Not c_Marked c_Move
    walk_at "mk"
    refine k _ _ ?xs ?h1 ?h2 ?h3
    case h2 => assumption
    case h3 => exact Nat.le_of_ble_eq_true rfl
    walk_at "sm"
def spTurned (K : PySem.W.Frag) : Sp := fun vs H Q _ => ∃ v kd n a w1 w2 w3, vs = [v, kd, n, .ref a] ∧ SqT K H a [w1, w2, w3] ∧ ∀ p H' xs, Same H H' → H' p = some (.lst xs) → xs.length ≤ 3 → Q (.ref p) H'
theorem sc_turned_rules : FnScope ["verb", "kind", "value", "words", "lacking", "already", "said"] ["verb", "kind", "value", "words"] (defScope s_turned_rules) := ⟨rfl, rfl, rfl, by decide +kernel, rfl, by decide +kernel, by decide +kernel⟩
theorem ok_turned_rules (t : T K mg) : C8.Cal P w K mg base 4 "turned_rules" (spTurned K) [] := by
  have c_refusal := ok_refusal (P := P) (w := w) (base := base) t
  have c_Rule := ok_Rule4 (P := P) (w := w) (base := base) t
  have c_Kind := ok_Kind (P := P) (w := w) (base := base) t
  have c_Not := ok_Not (P := P) (w := w) (base := base) t
  have c_Marked := ok_Marked (P := P) (w := w) (base := base) t
  have c_Put := ok_Put (P := P) (w := w) (base := base) t
  refine cal t.f_turned_rules t.g_turned_rules sc_turned_rules (fun _ _ _ _ _ _ us hl => match us, hl with | [_, _, _, _], _ => rfl) (fun vs H Q E h => ?_) fun cdv A outer s H vs Q E hr h => ?_
  · obtain ⟨v, kd, n, a, w1, w2, w3, rfl, _⟩ := h
    rfl
  · obtain ⟨v, kd, n, a, w1, w2, w3, rfl, ha, k⟩ := h
    refine ⟨_, (pss_cons (ps_asg (L2.pv 3) (pg_tup' (K := K) (n := 3) rfl (by rfl) (pgs_cons (pg_name (i := 4) sc_turned_rules.nd rfl (Or.inl rfl)) (pgs_cons (pg_name (i := 5) sc_turned_rules.nd rfl (Or.inl rfl)) (pgs_cons (pg_name (i := 6) sc_turned_rules.nd rfl (Or.inl rfl)) pgs_nil)))))
      (pss_one (ps_ret (pe_lst (pa_cons (C8.pe_c c_refusal hr (by decide) (by rfl) (pa_cons (L2.pv 0) (pa_cons (pe_lst (pa_cons (C8.pe_mk c_Not hr (by decide) (by rfl) (pa_cons (C8.pe_mk c_Kind hr (by decide) (by rfl) (pa_cons pe_str (pa_cons (L2.pv 1) pa_nil))) pa_nil)) pa_nil)) (pa_cons (L2.pv 4) pa_nil)))) (pa_cons (C8.pe_c c_refusal hr (by decide) (by rfl) (pa_cons (L2.pv 0) (pa_cons (pe_lst (pa_cons (C8.pe_mk c_Marked hr (by decide) (by rfl) (pa_cons pe_str (pa_cons (L2.pv 2) pa_nil))) pa_nil)) (pa_cons (L2.pv 5) pa_nil)))) (pa_cons (C8.pe_mk c_Rule hr (by decide) (by rfl) (pa_cons (L2.pv 0) (pa_cons (pe_lst pa_nil) (pa_cons (pe_lst (pa_cons (C8.pe_mk c_Put hr (by decide) (by rfl) (pa_cons pe_str (pa_cons (L2.pv 2) pa_nil))) pa_nil)) (pa_cons (L2.pv 6) pa_nil))))) pa_nil))))))), ?_⟩
    clear c_refusal c_Rule c_Kind c_Not c_Marked c_Put
    walk_at "go"
    refine x_gtup ha rfl ?_
    walk_at "mk"
    refine k _ _ ?xs ?h1 ?h2 ?h3
    case h2 => assumption
    case h3 => exact Nat.le_of_ble_eq_true rfl
    walk_at "sm"
/-- a way as it is handed in -/
structure Wy where
  room : Str
  word : Str
  goal : Str
def wyD (y : Wy) : PyData := .tuple [.str y.room, .str y.word, .str y.goal, .none]
theorem way_dp {H : Hp} {v : V} {y : Wy} (h : Dp K H v (wyD y)) : ∃ a, v = .ref a ∧ SqT K H a [.str y.room, .str y.word, .str y.goal, .non] := by
  obtain ⟨a, xs, rfl, h1, h2⟩ := dp_tuple h
  cases h2 with
  | cons x1 h2 => cases h2 with
    | cons x2 h2 => cases h2 with
      | cons x3 h2 => cases h2 with
        | cons x4 h2 =>
          cases h2
          rw [dp_str x1, dp_str x2, dp_str x3, dp_non x4] at h1
          exact ⟨a, rfl, h1⟩
def spWayRule (K : PySem.W.Frag) : Sp := fun vs H Q _ => ∃ y v wy, vs = [V.str y, v] ∧ Dp K H v (wyD wy) ∧ ∀ p H', H p = none → Same H H' → Q (.ref p) H'
theorem sc_way_rule : FnScope ["you", "way", "room", "word", "goal", "mark", "tests"] ["you", "way"] (defScope s_way_rule) := ⟨rfl, rfl, rfl, by decide +kernel, rfl, by decide +kernel, by decide +kernel⟩
theorem ok_way_rule (t : T K mg) : C8.Cal P w K mg base 3 "way_rule" (spWayRule K) [] := by
  have c_Rule := ok_Rule4 (P := P) (w := w) (base := base) t
  have c_At := ok_At (P := P) (w := w) (base := base) t
  have c_Word := ok_Word (P := P) (w := w) (base := base) t
  have c_Not := ok_Not (P := P) (w := w) (base := base) t
  have c_Marked := ok_Marked (P := P) (w := w) (base := base) t
  have c_Move := ok_Move (P := P) (w := w) (base := base) t
  refine cal t.f_way_rule t.g_way_rule sc_way_rule (fun _ _ _ _ _ _ us hl => match us, hl with | [_, _], _ => rfl) (fun vs H Q E h => ?_) fun cdv A outer s H vs Q E hr h => ?_
  · obtain ⟨y, v, wy, rfl, _⟩ := h
    rfl
  · obtain ⟨y, v, wy, rfl, h, k⟩ := h
    obtain ⟨a, rfl, ha⟩ := way_dp h
    refine ⟨_, (pss_cons (ps_asg (L2.pv 1) (pg_tup' (K := K) (n := 4) rfl (by rfl) (pgs_cons (pg_name (i := 2) sc_way_rule.nd rfl (Or.inl rfl)) (pgs_cons (pg_name (i := 3) sc_way_rule.nd rfl (Or.inl rfl)) (pgs_cons (pg_name (i := 4) sc_way_rule.nd rfl (Or.inl rfl)) (pgs_cons (pg_name (i := 5) sc_way_rule.nd rfl (Or.inl rfl)) pgs_nil))))))
      (pss_cons (ps_set (i := 6) sc_way_rule.nd rfl (Or.inl rfl) (pe_lst (pa_cons (C8.pe_mk c_At hr (by decide) (by rfl) (pa_cons (L2.pv 0) (pa_cons (L2.pv 2) pa_nil))) (pa_cons (C8.pe_mk c_Word hr (by decide) (by rfl) (pa_cons (L2.pv 3) pa_nil)) pa_nil))))
      (pss_cons (ps_if (pt_cmpR op_notN1 (L2.pv 5) pe_non (nomark _)) (pss_one (ps_expr (pe_bm PySem.F.plainAttrs_list PySem.F.slot_list_append PySem.F.type_list_append mt_append (L2.pv 6) (pa_cons (C8.pe_mk c_Not hr (by decide) (by rfl) (pa_cons (C8.pe_mk c_Marked hr (by decide) (by rfl) (pa_cons (L2.pv 5) (pa_cons pe_int pa_nil))) pa_nil)) pa_nil)))) pss_nil)
      (pss_one (ps_ret (C8.pe_mk c_Rule hr (by decide) (by rfl) (pa_cons pe_str (pa_cons (L2.pv 6) (pa_cons (pe_lst (pa_cons (C8.pe_mk c_Move hr (by decide) (by rfl) (pa_cons (L2.pv 0) (pa_cons (L2.pv 4) pa_nil))) pa_nil)) (pa_cons pe_str pa_nil)))))))))), ?_⟩
    clear c_Rule c_At c_Word c_Not c_Marked c_Move
    walk_at "go"
    refine x_gtup ha rfl ?_
    walk_at "mk"
    refine iteK_n rfl ?_
    walk_at "mk"
    refine k _ _ ?h1 ?h2
    case h2 => walk_at "sm"
    refine Same.free (H' := ?hh) ?s ?n
    case n => assumption
    walk_at "sm"
def spCommonRules (K : PySem.W.Frag) : Sp := fun vs H Q _ => ∃ (y : Str) (a : Addr) (wys : List Wy), vs = [V.str y, .ref a] ∧ Dp K H (.ref a) (.list (wys.map wyD)) ∧ wys.length ≤ 20 ∧ ∀ p H' xs, Same H H' → H' p = some (.lst xs) → xs.length ≤ 100 → Q (.ref p) H'
theorem sc_common_rules : FnScope ["you", "ways", "found", "way"] ["you", "ways"] (defScope s_common_rules) := ⟨rfl, rfl, rfl, by decide +kernel, rfl, by decide +kernel, by decide +kernel⟩
theorem ok_common_rules (t : T K mg) : C8.Cal P w K mg base 5 "common_rules" (spCommonRules K) [] := by
  have c_hand_rules := ok_hand_rules (P := P) (w := w) (base := base) t
  have c_turned_rules := ok_turned_rules (P := P) (w := w) (base := base) t
  have c_way_rule := ok_way_rule (P := P) (w := w) (base := base) t
  have c_refusal := ok_refusal (P := P) (w := w) (base := base) t
  have c_Rule := ok_Rule4 (P := P) (w := w) (base := base) t
  refine cal t.f_common_rules t.g_common_rules sc_common_rules (fun _ _ _ _ _ _ us hl => match us, hl with | [_, _], _ => rfl) (fun vs H Q E h => ?_) fun cdv A outer s H vs Q E hr h => ?_
  · obtain ⟨y, a, wys, rfl, _⟩ := h
    rfl
  · obtain ⟨y, a, wys, rfl, hd, hz, k⟩ := h
    refine ⟨_, (pss_cons (ps_set (i := 2) sc_common_rules.nd rfl (Or.inl rfl) (C8.pe_c c_hand_rules hr (by decide) (by rfl) (pa_cons (L2.pv 0) pa_nil)))
      (pss_cons (ps_set (i := 2) sc_common_rules.nd rfl (Or.inl rfl) (pe_op op_cat (L2.pv 2) (C8.pe_c c_turned_rules hr (by decide) (by rfl) (pa_cons pe_str (pa_cons pe_str (pa_cons pe_int (pa_cons (pe_tup (pa_cons pe_str (pa_cons pe_str (pa_cons pe_str pa_nil)))) pa_nil)))))))
      (pss_cons (ps_set (i := 2) sc_common_rules.nd rfl (Or.inl rfl) (pe_op op_cat (L2.pv 2) (C8.pe_c c_turned_rules hr (by decide) (by rfl) (pa_cons pe_str (pa_cons pe_str (pa_cons pe_int (pa_cons (pe_tup (pa_cons pe_str (pa_cons pe_str (pa_cons pe_str pa_nil)))) pa_nil)))))))
      (pss_cons (ps_set (i := 2) sc_common_rules.nd rfl (Or.inl rfl) (pe_op op_cat (L2.pv 2) (C8.pe_c c_turned_rules hr (by decide) (by rfl) (pa_cons pe_str (pa_cons pe_str (pa_cons pe_int (pa_cons (pe_tup (pa_cons pe_str (pa_cons pe_str (pa_cons pe_str pa_nil)))) pa_nil)))))))
      (pss_cons (ps_set (i := 2) sc_common_rules.nd rfl (Or.inl rfl) (pe_op op_cat (L2.pv 2) (C8.pe_c c_turned_rules hr (by decide) (by rfl) (pa_cons pe_str (pa_cons pe_str (pa_cons pe_int (pa_cons (pe_tup (pa_cons pe_str (pa_cons pe_str (pa_cons pe_str pa_nil)))) pa_nil)))))))
      (pss_cons (ps_set (i := 2) sc_common_rules.nd rfl (Or.inl rfl) (pe_op op_cat (L2.pv 2) (pe_lc (own := [("way", 3)]) (by rfl) sc_common_rules.nd (pi_list' (K := K) rfl (L2.pv 1)) (blkOk_by (own := [("way", 3)]) (N := ["you", "ways", "found", "way"]) (sc := defScope s_common_rules) (by decide +kernel)) (fun _ _ _ _ _ => (pg_name (i := 3) sc_common_rules.nd rfl (Or.inl rfl))) (fun _ _ _ _ _ => pts_nil) (fun _ _ _ _ _ => (C8.pe_c c_way_rule hr (by decide) (by rfl) (pa_cons (L2.pv 0) (pa_cons (L2.pv 3) pa_nil)))))))
      (pss_one (ps_ret (pe_op op_cat (L2.pv 2) (pe_lst (pa_cons (C8.pe_c c_refusal hr (by decide) (by rfl) (pa_cons pe_str (pa_cons (pe_lst pa_nil) (pa_cons pe_str pa_nil)))) (pa_cons (C8.pe_mk c_Rule hr (by decide) (by rfl) (pa_cons pe_str (pa_cons (pe_lst pa_nil) (pa_cons (pe_lst pa_nil) (pa_cons pe_str pa_nil))))) pa_nil)))))))))))), ?_⟩
    walk_at "go"
    refine ⟨y, rfl, fun p1 H1 xs1 s1 h1 l1 => ?_⟩
    walk_at "go"
    refine tupK rfl fun q1 H2 n2 s2 h2 => ?_
    walk_at "go"
    refine ⟨_, _, _, q1, _, _, _, rfl, .of h2, fun p3 H3 xs3 s3 h3 l3 => ?_⟩
    walk_at "go"
    refine r_cat (s3 _ _ (s2 _ _ h1)) h3 (by omega) fun p4 H4 n4 s4 h4 => ?_
    have e4 : (xs1 ++ xs3).length ≤ 23 := by rw [List.length_append]; omega
    walk_at "go"
    refine tupK rfl fun q5 H5 n5 s5 h5 => ?_
    walk_at "go"
    refine ⟨_, _, _, q5, _, _, _, rfl, .of h5, fun p6 H6 xs6 s6 h6 l6 => ?_⟩
    walk_at "go"
    refine r_cat (s6 _ _ (s5 _ _ h4)) h6 (by omega) fun p7 H7 n7 s7 h7 => ?_
    have e7 : (xs1 ++ xs3 ++ xs6).length ≤ 26 := by rw [List.length_append]; omega
    walk_at "go"
    refine tupK rfl fun q8 H8 n8 s8 h8 => ?_
    walk_at "go"
    refine ⟨_, _, _, q8, _, _, _, rfl, .of h8, fun p9 H9 xs9 s9 h9 l9 => ?_⟩
    walk_at "go"
    refine r_cat (s9 _ _ (s8 _ _ h7)) h9 (by omega) fun p10 H10 n10 s10 h10 => ?_
    have e10 : (xs1 ++ xs3 ++ xs6 ++ xs9).length ≤ 29 := by rw [List.length_append]; omega
    walk_at "go"
    refine tupK rfl fun q11 H11 n11 s11 h11 => ?_
    walk_at "go"
    refine ⟨_, _, _, q11, _, _, _, rfl, .of h11, fun p12 H12 xs12 s12 h12 l12 => ?_⟩
    walk_at "go"
    refine r_cat (s12 _ _ (s11 _ _ h10)) h12 (by omega) fun p13 H13 n13 s13 h13 => ?_
    have e13 : (xs1 ++ xs3 ++ xs6 ++ xs9 ++ xs12).length ≤ 32 := by rw [List.length_append]; omega
    have S : Same H H13 := by walk_at "sm"
    walk_at "go"
    obtain ⟨b, ws, e, hb, hw⟩ := dp_list (dp_mono S hd)
    cases e
    refine sqLK hb ?_
    have hwl := dpa_len hw
    rw [List.length_map] at hwl
    refine lcL (fun ys i H' => ys.length = i) hb rfl (fun _ _ _ => rfl) ?_ ?_
    · intro D i x ys H14 m f hi
      obtain ⟨d, hd1, hd2⟩ := dpa_get hw hi
      obtain ⟨wy, _, rfl⟩ := map_get hd1
      have hlt := get_lt hi
      walk_at "go"
      refine ⟨y, x, wy, rfl, dp_mono m.same hd2, fun p15 H15 n15 s15 => ?_⟩
      exact apK (m.grow s15) (by omega) (by rw [List.length_append, f] <;> rfl)
    · intro D H14 ys m f
      refine r_cat (m.same _ _ h13) m.at_ (by omega) fun p15 H15 n15 s15 h15 => ?_
      have e15 : (xs1 ++ xs3 ++ xs6 ++ xs9 ++ xs12 ++ ys).length ≤ 52 := by rw [List.length_append]; omega
      have S2 : Same H H15 := S.trans (m.same.trans s15)
      generalize (xs1 ++ xs3 ++ xs6 ++ xs9 ++ xs12 ++ ys) = all at h15 e15
      clear h4 h7 h10 h13 h1 h2 h3 h5 h6 h8 h9 h11 h12 n4 n7 n10 n13 s2 s3 s4 s5 s6 s7 s8 s9 s10 s11 s12 s13 s1 s15
      walk_at "mk"
      refine r_cat (by walk_at "at") (by walk_at "at") (Nat.le_trans (Nat.add_le_add_right e15 _) (Nat.le_of_ble_eq_true rfl)) fun p16 H16 n16 s16 h16 => ?_
      refine k _ _ _ (S2.trans ?_) h16 (by rw [List.length_append]; exact Nat.le_trans (Nat.add_le_add_right e15 _) (Nat.le_of_ble_eq_true rfl))
      walk_at "sm"
end
end Tw
set_option maxHeartbeats 4000000
/-! A world, and what it says. -/
namespace Tw
open PySem PySem.Spec L2
local macro_rules | `(tactic| walk_at "rd1") => `(tactic| first
  | with_reducible refine x_seq ?_
  | ((with_reducible refine x_var (v := ?vv) ?hh ?_); case hh => exact rfl)
  | with_reducible refine x_c ?_
  | with_reducible refine x_op ?_
  | with_reducible refine x_fld ?_
  | with_reducible refine x_call ?_
  | with_reducible refine x_meth ?_
  | with_reducible refine x_make ?_
  | with_reducible refine x_cb ?_
  | with_reducible refine x_tup ?_
  | with_reducible refine x_lst ?_
  | with_reducible refine x_nil ?_
  | with_reducible refine x_cons ?_
  | with_reducible refine x_asg ?_
  | with_reducible refine x_name ?_
  | with_reducible refine x_ret ?_
  | with_reducible refine x_retN ?_
  | with_reducible refine x_drop ?_
  | with_reducible refine x_ifS ?_
  | with_reducible refine x_if ?_
  | with_reducible refine x_andV ?_
  | with_reducible refine x_orV ?_
  | with_reducible refine x_notV ?_
  | with_reducible refine x_test ?_
  | with_reducible refine x_tB ?_
  | with_reducible refine x_and ?_
  | with_reducible refine x_or ?_
  | with_reducible refine x_not ?_
  | with_reducible refine x_yes ?_
  | with_reducible refine x_next ?_
  | with_reducible refine x_sfld ?_
  | with_reducible refine blK ?_
  | with_reducible refine r_I0 ?_
  | with_reducible refine r_isN ?_
  | with_reducible refine r_notN ?_
  | ((with_reducible refine r_eq ?hh ?_); case hh => exact rfl)
  | ((with_reducible refine r_ne ?hh ?_); case hh => exact rfl)
  | with_reducible refine x_gnil ?_
  | with_reducible refine x_gcons ?_)
local macro_rules | `(tactic| walk_at "rd2") => `(tactic| first
  | walk_at "rd1"
  | with_reducible refine x_lc ?_
  | with_reducible refine x_for ?_
  | with_reducible refine x_itup ?_
  | with_reducible refine x_ilist ?_
  | with_reducible refine x_rng1 ?_
  | with_reducible refine x_bm ?_
  | with_reducible refine x_chain ?_
  | with_reducible refine x_istr ?_
  | with_reducible refine strK ?_
  | with_reducible refine x_sl ?_
  | with_reducible refine x_part ?_
  | with_reducible refine x_noPart ?_
  | with_reducible refine poK ?_
  | ((with_reducible refine ltK ?hh ?_); case hh => exact rfl)
  | ((with_reducible refine ltKx ?hh ?_); case hh => exact rfl)
  | with_reducible refine x_dput ?_
  | with_reducible refine x_dget ?_
  | with_reducible refine iteK_t ?_
  | with_reducible refine iteK_nf ?_
  | with_reducible refine iteK_nt ?_
  | with_reducible refine iteK_f ?_)
local macro_rules | `(tactic| walk_at "go") => `(tactic| repeat (walk_at "rd2"))
local macro_rules | `(tactic| walk_at "rd") => `(tactic| repeat (walk_at "rd1"))
local macro_rules | `(tactic| walk_at "at") => `(tactic| repeat (first | assumption | refine same_at' (by assumption) ?_))
local macro_rules | `(tactic| walk_at "sm") => `(tactic| repeat (first | exact Same.refl _ | assumption | refine Same.trans ?_ (by assumption)))
local macro_rules | `(tactic| walk_at "mk1") => `(tactic| first
  | with_reducible refine mk_new rfl fun _ _ _ _ _ _ => ?_
  | with_reducible refine lstK rfl fun _ _ _ _ _ => ?_
  | with_reducible refine tupK rfl fun _ _ _ _ _ => ?_
  | with_reducible refine mk_rule4 (SqL.of (by walk_at "at")) (SqL.of (by walk_at "at")) fun _ _ _ _ => ?_
  | with_reducible refine mk_rule (SqL.of (by walk_at "at")) (SqL.of (by walk_at "at")) fun _ _ _ _ => ?_
  | with_reducible refine c_refusal (SqL.of (by walk_at "at")) fun _ _ _ _ => ?_)
local macro_rules | `(tactic| walk_at "mk") => `(tactic| repeat (first | walk_at "rd2" | walk_at "mk1"))
local macro_rules | `(tactic| walk_at "ar1") => `(tactic| ((with_reducible refine r_I ?hh ?_); case hh => first | exact (show (0 : Int) < _ from by decide +kernel) | exact And.intro (by decide +kernel) (by decide +kernel) | exact Or.inr (And.intro (by decide +kernel) (by decide +kernel)) | exact Or.inl (And.intro (by decide +kernel) (by decide +kernel)) | exact And.intro (by decide +kernel) (And.intro (by decide +kernel) (by decide +kernel))))
local macro_rules | `(tactic| walk_at "ar") => `(tactic| repeat (first | walk_at "rd2" | walk_at "ar1"))

section
variable {P : Program} {w : World} {K : PySem.W.Frag} {mg : Str → Option Value} {base : Heap}
structure M3 where
  name : Str
  start : Int
  most : Int
structure Wd where
  things : List Th
  marks : List M3
  dark : List Str
  ways : List Wy
def Wd.names (W : Wd) : List Str := W.things.map Th.name
def Wd.plains (W : Wd) : List Str := (W.things.filter Th.plain).map Th.name
def Wd.kind (W : Wd) (k : Str) : List Str := (W.things.filter fun h => decide (h.kind = k)).map Th.name
def Wd.find (W : Wd) (n : Str) : Option Th := W.things.find? fun h => decide (h.name = n)
def Wd.most (W : Wd) (n : Str) : Option Int := match W.marks.find? fun m => decide (m.name = n) with
  | some m => some m.most
  | none => match W.find n with
    | some h => if h.marked = true then some 1 else none
    | none => none
def MarkAt (K : PySem.W.Frag) (H : Hp) (v : V) (m : M3) : Prop := ∃ p dx, v = .ref p ∧ H p = some (.ins (He.ga K "Mark") dx (F_Mark [.str m.name, .int m.start, .int m.most]))
theorem mark_mono {H H' : Hp} {v : V} {b : M3} (s : Same H H') (h : MarkAt K H v b) : MarkAt K H' v b := by
  obtain ⟨p, dx, e, h1⟩ := h
  exact ⟨p, dx, e, s _ _ h1⟩
theorem del_mark {H : Hp} {D : Addr} {ys : List V} (hd : H D = some (.lst ys)) {v : V} {b : M3} (h : MarkAt K H v b) : MarkAt K (del D H) v b := by
  obtain ⟨p, dx, e, h1⟩ := h
  exact ⟨p, dx, e, del_ins hd h1⟩
theorem mark_name (t : T K mg) {H H' : Hp} {v : V} {h : M3} {Q : VK} (a : MarkAt K H v h) (s : Same H H') (q : Q (.str h.name) H') : FldK K "name" v H' Q := by
  obtain ⟨p, dx, rfl, h1⟩ := a
  exact fldK (s _ _ h1) t.c_Mark t.n_Mark_name (l_Mark_name _ _ _) q
theorem mark_start (t : T K mg) {H H' : Hp} {v : V} {h : M3} {Q : VK} (a : MarkAt K H v h) (s : Same H H') (q : Q (.int h.start) H') : FldK K "start" v H' Q := by
  obtain ⟨p, dx, rfl, h1⟩ := a
  exact fldK (s _ _ h1) t.c_Mark t.n_Mark_start (l_Mark_start _ _ _) q
theorem mark_most (t : T K mg) {H H' : Hp} {v : V} {h : M3} {Q : VK} (a : MarkAt K H v h) (s : Same H H') (q : Q (.int h.most) H') : FldK K "most" v H' Q := by
  obtain ⟨p, dx, rfl, h1⟩ := a
  exact fldK (s _ _ h1) t.c_Mark t.n_Mark_most (l_Mark_most _ _ _) q
def F_World (a b c d e f g : V) : List (Str × V) := putF "whole_verbs" g (putF "laid_rules" f (putF "verbs" e (putF "ways" d (putF "dark" c (putF "marks" b (putF "things" a []))))))
def FW (a b c d e f g : V) (fs : List (Str × V)) : Prop := fs = F_World a b c d e f g ∨ ∃ h, fs = putF "whole_rules" h (F_World a b c d e f g)
theorem fw_things {a b c d e f g : V} {fs : List (Str × V)} (h : FW a b c d e f g fs) : fs.lookup ("things" : Str) = some a := by rcases h with rfl | ⟨h, rfl⟩ <;> kernel_rfl
theorem fw_marks {a b c d e f g : V} {fs : List (Str × V)} (h : FW a b c d e f g fs) : fs.lookup ("marks" : Str) = some b := by rcases h with rfl | ⟨h, rfl⟩ <;> kernel_rfl
theorem fw_dark {a b c d e f g : V} {fs : List (Str × V)} (h : FW a b c d e f g fs) : fs.lookup ("dark" : Str) = some c := by rcases h with rfl | ⟨h, rfl⟩ <;> kernel_rfl
theorem fw_ways {a b c d e f g : V} {fs : List (Str × V)} (h : FW a b c d e f g fs) : fs.lookup ("ways" : Str) = some d := by rcases h with rfl | ⟨h, rfl⟩ <;> kernel_rfl
theorem fw_verbs {a b c d e f g : V} {fs : List (Str × V)} (h : FW a b c d e f g fs) : fs.lookup ("verbs" : Str) = some e := by rcases h with rfl | ⟨h, rfl⟩ <;> kernel_rfl
theorem fw_laid {a b c d e f g : V} {fs : List (Str × V)} (h : FW a b c d e f g fs) : fs.lookup ("laid_rules" : Str) = some f := by rcases h with rfl | ⟨h, rfl⟩ <;> kernel_rfl
theorem fw_whole {a b c d e f g : V} {fs : List (Str × V)} (h : FW a b c d e f g fs) : fs.lookup ("whole_verbs" : Str) = some g := by rcases h with rfl | ⟨h, rfl⟩ <;> kernel_rfl
def wmeths : List Str := ["names", "plain_names", "of_kind", "thing_of", "you", "most_of", "way_words", "all_verbs", "verb_of"]
theorem fw_no {a b c d e f g : V} {fs : List (Str × V)} (h : FW a b c d e f g fs) (m : Str) (hm : m ∈ wmeths := by simp [wmeths]) : fs.lookup m = none := by
  have key : ∀ n ∈ (["whole_rules", "whole_verbs", "laid_rules", "verbs", "ways", "dark", "marks", "things"] : List Str), ¬ m = n := by
    have z : ∀ m ∈ wmeths, ∀ n ∈ (["whole_rules", "whole_verbs", "laid_rules", "verbs", "ways", "dark", "marks", "things"] : List Str), ¬ m = n := by decide +kernel
    exact z m hm
  rcases h with rfl | ⟨h, rfl⟩ <;> (unfold F_World; simp only [lookup_putF]; simp [key])
structure WA (K : PySem.W.Frag) (H : Hp) (p dx a b c d e f g : Addr) (fs : List (Str × V)) (ts ms ws us : List V) (W : Wd) : Prop where
  ob : H p = some (.ins (He.ga K "World") dx fs)
  fw : FW (.ref a) (.ref b) (.ref c) (.ref d) (.ref e) (.ref f) (.ref g) fs
  th : H a = some (.lst ts)
  thA : Paired (ThingAt K H) ts W.things
  mq : H b = some (.lst ms)
  mkA : Paired (MarkAt K H) ms W.marks
  dk : H c = some (.lst (W.dark.map V.str))
  wy : H d = some (.lst ws)
  wyA : DpAll K H ws (W.ways.map wyD)
  vb : H e = some (.lst [])
  rl : H f = some (.lst [])
  wv : H g = some (.lst us)
  vbA : Paired (VerbAt K H) us vbs
  z1 : W.things.length ≤ 20
  z2 : W.marks.length ≤ 10
  z3 : W.dark.length ≤ 10
  z4 : W.ways.length ≤ 10
def WorldAt (K : PySem.W.Frag) (H : Hp) (v : V) (W : Wd) : Prop := ∃ p dx a b c d e f g fs ts ms ws us, v = .ref p ∧ WA K H p dx a b c d e f g fs ts ms ws us W
theorem world_mono {H H' : Hp} {v : V} {W : Wd} (s : Same H H') (h : WorldAt K H v W) : WorldAt K H' v W := by
  obtain ⟨p, dx, a, b, c, d, e, f, g, fs, ts, ms, ws, us, rfl, h⟩ := h
  exact ⟨p, dx, a, b, c, d, e, f, g, fs, ts, ms, ws, us, rfl, s _ _ h.ob, h.fw, s _ _ h.th, Paired.mapP h.thA fun _ _ q => thing_mono s q, s _ _ h.mq, Paired.mapP h.mkA fun _ _ q => mark_mono s q, s _ _ h.dk, s _ _ h.wy, dpAll_mono s h.wyA, s _ _ h.vb, s _ _ h.rl, s _ _ h.wv,
    Paired.mapP h.vbA fun _ _ q => verb_mono s q, h.z1, h.z2, h.z3, h.z4⟩
theorem world_sizes {H : Hp} {v : V} {W : Wd} (h : WorldAt K H v W) : W.things.length ≤ 20 ∧ W.marks.length ≤ 10 ∧ W.dark.length ≤ 10 ∧ W.ways.length ≤ 10 := by
  obtain ⟨p, dx, a, b, c, d, e, f, g, fs, ts, ms, ws, us, rfl, h⟩ := h
  exact ⟨h.z1, h.z2, h.z3, h.z4⟩
section
variable {H H' : Hp} {v : V} {W : Wd} {Q : VK}
theorem wf_things (t : T K mg) (h : WorldAt K H v W) (s : Same H H') (q : ∀ a ts, H a = some (.lst ts) → Paired (ThingAt K H) ts W.things → Q (.ref a) H') : FldK K "things" v H' Q := by
  obtain ⟨p, dx, a, b, c, d, e, f, g, fs, ts, ms, ws, us, rfl, hA⟩ := h
  exact fldK (s _ _ hA.ob) t.c_World t.n_World_things (fw_things hA.fw) (q a ts hA.th hA.thA)
theorem wf_marks (t : T K mg) (h : WorldAt K H v W) (s : Same H H') (q : ∀ a ts, H a = some (.lst ts) → Paired (MarkAt K H) ts W.marks → Q (.ref a) H') : FldK K "marks" v H' Q := by
  obtain ⟨p, dx, a, b, c, d, e, f, g, fs, ts, ms, ws, us, rfl, hA⟩ := h
  exact fldK (s _ _ hA.ob) t.c_World t.n_World_marks (fw_marks hA.fw) (q b ms hA.mq hA.mkA)
theorem wf_dark (t : T K mg) (h : WorldAt K H v W) (s : Same H H') (q : ∀ a, H a = some (.lst (W.dark.map V.str)) → Q (.ref a) H') : FldK K "dark" v H' Q := by
  obtain ⟨p, dx, a, b, c, d, e, f, g, fs, ts, ms, ws, us, rfl, hA⟩ := h
  exact fldK (s _ _ hA.ob) t.c_World t.n_World_dark (fw_dark hA.fw) (q c hA.dk)
theorem wf_ways (t : T K mg) (h : WorldAt K H v W) (s : Same H H') (q : ∀ a ws, H a = some (.lst ws) → DpAll K H ws (W.ways.map wyD) → Q (.ref a) H') : FldK K "ways" v H' Q := by
  obtain ⟨p, dx, a, b, c, d, e, f, g, fs, ts, ms, ws, us, rfl, hA⟩ := h
  exact fldK (s _ _ hA.ob) t.c_World t.n_World_ways (fw_ways hA.fw) (q d ws hA.wy hA.wyA)
theorem wf_verbs (t : T K mg) (h : WorldAt K H v W) (s : Same H H') (q : ∀ a, H a = some (.lst []) → Q (.ref a) H') : FldK K "verbs" v H' Q := by
  obtain ⟨p, dx, a, b, c, d, e, f, g, fs, ts, ms, ws, us, rfl, hA⟩ := h
  exact fldK (s _ _ hA.ob) t.c_World t.n_World_verbs (fw_verbs hA.fw) (q e hA.vb)
theorem wf_laid (t : T K mg) (h : WorldAt K H v W) (s : Same H H') (q : ∀ a, H a = some (.lst []) → Q (.ref a) H') : FldK K "laid_rules" v H' Q := by
  obtain ⟨p, dx, a, b, c, d, e, f, g, fs, ts, ms, ws, us, rfl, hA⟩ := h
  exact fldK (s _ _ hA.ob) t.c_World t.n_World_laid_rules (fw_laid hA.fw) (q f hA.rl)
theorem wf_whole (t : T K mg) (h : WorldAt K H v W) (s : Same H H') (q : ∀ a us, H a = some (.lst us) → Paired (VerbAt K H) us vbs → Q (.ref a) H') : FldK K "whole_verbs" v H' Q := by
  obtain ⟨p, dx, a, b, c, d, e, f, g, fs, ts, ms, ws, us, rfl, hA⟩ := h
  exact fldK (s _ _ hA.ob) t.c_World t.n_World_whole_verbs (fw_whole hA.fw) (q g us hA.wv hA.vbA)
theorem world_mt {m : Str} {R : Prop} (h : WorldAt K H v W) (s : Same H H') (hm : m ∈ wmeths) (q : R) : MtK (He.ga K "World") m v H' R := by
  obtain ⟨p, dx, a, b, c, d, e, f, g, fs, ts, ms, ws, us, rfl, hA⟩ := world_mono s h
  exact mtK hA.ob (fw_no hA.fw m hm) q
end
/-! ### lists of names -/
def spNames (K : PySem.W.Frag) (f : Wd → List Str) : Sp := fun vs H Q _ => ∃ v W, vs = [v] ∧ WorldAt K H v W ∧ ∀ p H', H p = none → Same H H' → H' p = some (.lst ((f W).map V.str)) → Q (.ref p) H'
theorem filt_take {α : Type} {l : List α} {f : α → Bool} {i : Nat} {x : α} (h : l[i]? = some x) : (l.take (i + 1)).filter f = (l.take i).filter f ++ (if f x = true then [x] else []) := by
  rw [take_succ' h, List.filter_append]
  congr 1
  cases e : f x <;> simp [e]
theorem sc_World_names : FnScope ["self", "thing"] ["self"] (defScope s_World_names) := ⟨rfl, rfl, rfl, by decide +kernel, rfl, by decide +kernel, by decide +kernel⟩
theorem ok_names (t : T K mg) : C8.Met P w K mg base 1 (He.ga K "World") "names" (spNames K Wd.names) [] := by
  refine met t.f_World_names t.c_World t.m_World_names sc_World_names (fun _ _ _ _ _ _ us hl => match us, hl with | [_], _ => rfl) (fun vs H Q E h => ?_) fun cdv A outer s H vs Q E hr h => ?_
  · obtain ⟨v, W, rfl, _⟩ := h
    rfl
  · obtain ⟨v, W, rfl, hW, k⟩ := h
    refine ⟨_, (pss_one (ps_ret (pe_lc (own := [("thing", 1)]) (by rfl) sc_World_names.nd (pi_list' (K := K) rfl (pe_fld' (K := K) rfl (L2.pv 0) rfl)) (blkOk_by (own := [("thing", 1)]) (N := ["self", "thing"]) (sc := defScope s_World_names) (by decide +kernel)) (fun _ _ _ _ _ => (pg_name (i := 1) sc_World_names.nd rfl (Or.inl rfl))) (fun _ _ _ _ _ => pts_nil) (fun _ _ _ _ _ => (pe_fld' (K := K) rfl (L2.pv 1) rfl))))), ?_⟩
    walk_at "go"
    refine wf_things t hW (Same.refl H) fun a ts ha hp => sqLK (SqL.of ha) ?_
    have hl := hp.length
    have hz := world_sizes hW
    refine lcL (fun ys i H' => ys = (((W.things.take i).map Th.name).map V.str)) (SqL.of ha) rfl (fun _ _ _ => rfl) ?_ ?_
    · intro D i x ys H2 m f hi
      obtain ⟨th, h1, h2⟩ := paired_get' hp hi
      walk_at "go"
      refine thing_name t h2 m.same ?_
      have hlt := get_lt hi
      refine apK m (by rw [f]; simp; omega) ?_
      rw [f, take_succ' h1]
      simp
    · intro D H2 ys m f
      refine k D H2 m.nw m.same ?_
      rw [m.at_, f, List.take_of_length_le (by omega)]
      rfl
theorem sc_World_plain_names : FnScope ["self", "thing"] ["self"] (defScope s_World_plain_names) := ⟨rfl, rfl, rfl, by decide +kernel, rfl, by decide +kernel, by decide +kernel⟩
theorem ok_plain_names (t : T K mg) : C8.Met P w K mg base 2 (He.ga K "World") "plain_names" (spNames K Wd.plains) [] := by
  have c_pl := ok_is_plainly (P := P) (w := w) (base := base) t
  refine met t.f_World_plain_names t.c_World t.m_World_plain_names sc_World_plain_names (fun _ _ _ _ _ _ us hl => match us, hl with | [_], _ => rfl) (fun vs H Q E h => ?_) fun cdv A outer s H vs Q E hr h => ?_
  · obtain ⟨v, W, rfl, _⟩ := h
    rfl
  · obtain ⟨v, W, rfl, hW, k⟩ := h
    refine ⟨_, (pss_one (ps_ret (pe_lc (own := [("thing", 1)]) (by rfl) sc_World_plain_names.nd (pi_list' (K := K) rfl (pe_fld' (K := K) rfl (L2.pv 0) rfl)) (blkOk_by (own := [("thing", 1)]) (N := ["self", "thing"]) (sc := defScope s_World_plain_names) (by decide +kernel)) (fun _ _ _ _ _ => (pg_name (i := 1) sc_World_plain_names.nd rfl (Or.inl rfl))) (fun _ _ _ _ _ => (pts_one (pt_val (C8.pe_mt0 c_pl hr (by decide) (L2.pv 1))))) (fun _ _ _ _ _ => (pe_fld' (K := K) rfl (L2.pv 1) rfl))))), ?_⟩
    walk_at "go"
    refine wf_things t hW (Same.refl H) fun a ts ha hp => sqLK (SqL.of ha) ?_
    have hl := hp.length
    have hz := world_sizes hW
    refine lcL (fun ys i H' => ys = ((((W.things.take i).filter Th.plain).map Th.name).map V.str)) (SqL.of ha) rfl (fun _ _ _ => rfl) ?_ ?_
    · intro D i x ys H2 m f hi
      obtain ⟨th, h1, h2⟩ := paired_get' hp hi
      have hlt := get_lt hi
      walk_at "go"
      refine thing_mt "is_plainly" h2 m.same no_is_plainly ?_
      walk_at "go"
      refine ⟨x, th, rfl, thing_mono m.same h2, fun H3 s3 => ?_⟩
      walk_at "go"
      refine iteK (fun e => ?_) fun e => ?_
      · walk_at "go"
        refine thing_name t h2 (m.same.trans s3) ?_
        refine apK (m.grow s3) ?_ ?_
        · rw [f, List.length_map, List.length_map]
          exact Nat.le_trans (List.length_filter_le _ _) (by rw [List.length_take]; omega)
        · rw [f, filt_take h1, if_pos e]
          simp
      · refine skK (m.grow s3) ?_
        rw [f, filt_take h1, if_neg (by rw [e]; decide)]
        simp
    · intro D H2 ys m f
      refine k D H2 m.nw m.same ?_
      rw [m.at_, f, List.take_of_length_le (by omega)]
      rfl
def spOfKind (K : PySem.W.Frag) : Sp := fun vs H Q _ => ∃ v W k, vs = [v, .str k] ∧ WorldAt K H v W ∧ ∀ p H', H p = none → Same H H' → H' p = some (.lst ((W.kind k).map V.str)) → Q (.ref p) H'
theorem sc_World_of_kind : FnScope ["self", "kind", "thing"] ["self", "kind"] (defScope s_World_of_kind) := ⟨rfl, rfl, rfl, by decide +kernel, rfl, by decide +kernel, by decide +kernel⟩
theorem ok_of_kind (t : T K mg) : C8.Met P w K mg base 1 (He.ga K "World") "of_kind" (spOfKind K) [] := by
  refine met t.f_World_of_kind t.c_World t.m_World_of_kind sc_World_of_kind (fun _ _ _ _ _ _ us hl => match us, hl with | [_, _], _ => rfl) (fun vs H Q E h => ?_) fun cdv A outer s H vs Q E hr h => ?_
  · obtain ⟨v, W, kd, rfl, _⟩ := h
    rfl
  · obtain ⟨v, W, kd, rfl, hW, k⟩ := h
    refine ⟨_, (pss_one (ps_ret (pe_lc (own := [("thing", 2)]) (by rfl) sc_World_of_kind.nd (pi_list' (K := K) rfl (pe_fld' (K := K) rfl (L2.pv 0) rfl)) (blkOk_by (own := [("thing", 2)]) (N := ["self", "kind", "thing"]) (sc := defScope s_World_of_kind) (by decide +kernel)) (fun _ _ _ _ _ => (pg_name (i := 2) sc_World_of_kind.nd rfl (Or.inl rfl))) (fun _ _ _ _ _ => (pts_one (pt_cmpR op_eq (pe_fld' (K := K) rfl (L2.pv 2) rfl) (L2.pv 1) (nomark _)))) (fun _ _ _ _ _ => (pe_fld' (K := K) rfl (L2.pv 2) rfl))))), ?_⟩
    walk_at "go"
    refine wf_things t hW (Same.refl H) fun a ts ha hp => sqLK (SqL.of ha) ?_
    have hl := hp.length
    have hz := world_sizes hW
    refine lcL (fun ys i H' => ys = ((((W.things.take i).filter fun h => decide (h.kind = kd)).map Th.name).map V.str)) (SqL.of ha) rfl (fun _ _ _ => rfl) ?_ ?_
    · intro D i x ys H2 m f hi
      obtain ⟨th, h1, h2⟩ := paired_get' hp hi
      have hlt := get_lt hi
      walk_at "go"
      refine thing_kind t h2 m.same ?_
      walk_at "go"
      refine iteK (fun e => ?_) fun e => ?_
      · have e : th.kind = kd := by have := of_decide_eq_true e; injection this
        walk_at "go"
        refine thing_name t h2 m.same ?_
        refine apK m ?_ ?_
        · rw [f, List.length_map, List.length_map]
          exact Nat.le_trans (List.length_filter_le _ _) (by rw [List.length_take]; omega)
        · rw [f, filt_take h1, if_pos (decide_eq_true e)]
          simp
      · have e : ¬ th.kind = kd := fun z => by
          have := of_decide_eq_false e
          exact this (congrArg V.str z)
        refine skK m ?_
        rw [f, filt_take h1, if_neg (by rw [decide_eq_false e]; decide)]
        simp
    · intro D H2 ys m f
      refine k D H2 m.nw m.same ?_
      rw [m.at_, f, List.take_of_length_le (by omega)]
      rfl
end
end Tw
set_option maxHeartbeats 4000000
/-! A world says more. -/
namespace Tw
open PySem PySem.Spec L2
local macro_rules | `(tactic| walk_at "rd1") => `(tactic| first
  | with_reducible refine x_seq ?_
  | ((with_reducible refine x_var (v := ?vv) ?hh ?_); case hh => exact rfl)
  | with_reducible refine x_c ?_
  | with_reducible refine x_op ?_
  | with_reducible refine x_fld ?_
  | with_reducible refine x_call ?_
  | with_reducible refine x_meth ?_
  | with_reducible refine x_make ?_
  | with_reducible refine x_cb ?_
  | with_reducible refine x_tup ?_
  | with_reducible refine x_lst ?_
  | with_reducible refine x_nil ?_
  | with_reducible refine x_cons ?_
  | with_reducible refine x_asg ?_
  | with_reducible refine x_name ?_
  | with_reducible refine x_ret ?_
  | with_reducible refine x_retN ?_
  | with_reducible refine x_drop ?_
  | with_reducible refine x_ifS ?_
  | with_reducible refine x_if ?_
  | with_reducible refine x_andV ?_
  | with_reducible refine x_orV ?_
  | with_reducible refine x_notV ?_
  | with_reducible refine x_test ?_
  | with_reducible refine x_tB ?_
  | with_reducible refine x_and ?_
  | with_reducible refine x_or ?_
  | with_reducible refine x_not ?_
  | with_reducible refine x_yes ?_
  | with_reducible refine x_next ?_
  | with_reducible refine x_sfld ?_
  | with_reducible refine blK ?_
  | with_reducible refine r_I0 ?_
  | with_reducible refine r_isN ?_
  | with_reducible refine r_notN ?_
  | ((with_reducible refine r_eq ?hh ?_); case hh => exact rfl)
  | ((with_reducible refine r_ne ?hh ?_); case hh => exact rfl)
  | with_reducible refine x_gnil ?_
  | with_reducible refine x_gcons ?_)
local macro_rules | `(tactic| walk_at "rd2") => `(tactic| first
  | walk_at "rd1"
  | with_reducible refine x_lc ?_
  | with_reducible refine x_for ?_
  | with_reducible refine x_itup ?_
  | with_reducible refine x_ilist ?_
  | with_reducible refine x_rng1 ?_
  | with_reducible refine x_bm ?_
  | with_reducible refine x_chain ?_
  | with_reducible refine x_istr ?_
  | with_reducible refine strK ?_
  | with_reducible refine x_sl ?_
  | with_reducible refine x_part ?_
  | with_reducible refine x_noPart ?_
  | with_reducible refine poK ?_
  | ((with_reducible refine ltK ?hh ?_); case hh => exact rfl)
  | ((with_reducible refine ltKx ?hh ?_); case hh => exact rfl)
  | with_reducible refine x_dput ?_
  | with_reducible refine x_dget ?_
  | with_reducible refine iteK_t ?_
  | with_reducible refine iteK_nf ?_
  | with_reducible refine iteK_nt ?_
  | with_reducible refine iteK_f ?_)
local macro_rules | `(tactic| walk_at "go") => `(tactic| repeat (walk_at "rd2"))
local macro_rules | `(tactic| walk_at "rd") => `(tactic| repeat (walk_at "rd1"))
local macro_rules | `(tactic| walk_at "at") => `(tactic| repeat (first | assumption | refine same_at' (by assumption) ?_))
local macro_rules | `(tactic| walk_at "sm") => `(tactic| repeat (first | exact Same.refl _ | assumption | refine Same.trans ?_ (by assumption)))
local macro_rules | `(tactic| walk_at "mk1") => `(tactic| first
  | with_reducible refine mk_new rfl fun _ _ _ _ _ _ => ?_
  | with_reducible refine lstK rfl fun _ _ _ _ _ => ?_
  | with_reducible refine tupK rfl fun _ _ _ _ _ => ?_
  | with_reducible refine mk_rule4 (SqL.of (by walk_at "at")) (SqL.of (by walk_at "at")) fun _ _ _ _ => ?_
  | with_reducible refine mk_rule (SqL.of (by walk_at "at")) (SqL.of (by walk_at "at")) fun _ _ _ _ => ?_
  | with_reducible refine c_refusal (SqL.of (by walk_at "at")) fun _ _ _ _ => ?_)
local macro_rules | `(tactic| walk_at "mk") => `(tactic| repeat (first | walk_at "rd2" | walk_at "mk1"))
local macro_rules | `(tactic| walk_at "ar1") => `(tactic| ((with_reducible refine r_I ?hh ?_); case hh => first | exact (show (0 : Int) < _ from by decide +kernel) | exact And.intro (by decide +kernel) (by decide +kernel) | exact Or.inr (And.intro (by decide +kernel) (by decide +kernel)) | exact Or.inl (And.intro (by decide +kernel) (by decide +kernel)) | exact And.intro (by decide +kernel) (And.intro (by decide +kernel) (by decide +kernel))))
local macro_rules | `(tactic| walk_at "ar") => `(tactic| repeat (first | walk_at "rd2" | walk_at "ar1"))

section
variable {P : Program} {w : World} {K : PySem.W.Frag} {mg : Str → Option Value} {base : Heap}
/-- what a search in a list of objects gives -/
def Got {α : Type} (R : Hp → V → α → Prop) (H : Hp) (x : V) : Option α → Prop
  | some b => R H x b
  | none => x = .non
theorem find_first {α : Type} {l : List α} {f : α → Bool} {i : Nat} {x : α} (h : ∀ (j : Nat) y, j < i → l[j]? = some y → f y = false) (hi : l[i]? = some x) (hx : f x = true) : l.find? f = some x := by
  induction l generalizing i with
  | nil => simp at hi
  | cons y r ih =>
    cases i with
    | zero =>
      have : y = x := by simpa using hi
      subst this
      rw [List.find?_cons, hx]
    | succ i =>
      rw [List.find?_cons, h 0 y (Nat.succ_pos _) rfl]
      exact ih (fun j z hj q => h (j + 1) z (Nat.succ_lt_succ hj) (by simpa using q)) (by simpa using hi)
theorem find_none {α : Type} {l : List α} {f : α → Bool} (h : ∀ (j : Nat) y, l[j]? = some y → f y = false) : l.find? f = none := by
  rw [List.find?_eq_none]
  intro x hx
  obtain ⟨i, hi, e⟩ := List.mem_iff_getElem.mp hx
  rw [h i x (by rw [List.getElem?_eq_getElem hi, e])]
  decide
def spThingOf (K : PySem.W.Frag) : Sp := fun vs H Q _ => ∃ v W n, vs = [v, .str n] ∧ WorldAt K H v W ∧ ∀ x H', Same H H' → Got (ThingAt K) H' x (W.find n) → Q x H'
theorem sc_World_thing_of : FnScope ["self", "name", "thing"] ["self", "name"] (defScope s_World_thing_of) := ⟨rfl, rfl, rfl, by decide +kernel, rfl, by decide +kernel, by decide +kernel⟩
theorem ok_thing_of (t : T K mg) : C8.Met P w K mg base 1 (He.ga K "World") "thing_of" (spThingOf K) [] := by
  refine met t.f_World_thing_of t.c_World t.m_World_thing_of sc_World_thing_of (fun _ _ _ _ _ _ us hl => match us, hl with | [_, _], _ => rfl) (fun vs H Q E h => ?_) fun cdv A outer s H vs Q E hr h => ?_
  · obtain ⟨v, W, n, rfl, _⟩ := h
    rfl
  · obtain ⟨v, W, n, rfl, hW, k⟩ := h
    refine ⟨_, (pss_cons (ps_for PassesOwn.never (by rfl) (pi_list' (K := K) rfl (pe_fld' (K := K) rfl (L2.pv 0) rfl)) (pg_name (i := 2) sc_World_thing_of.nd rfl (Or.inl rfl)) (pss_one (ps_if (pt_cmpR op_eq (pe_fld' (K := K) rfl (L2.pv 2) rfl) (L2.pv 1) (nomark _)) (pss_one (ps_ret (L2.pv 2))) pss_nil)))
      (pss_one (ps_ret pe_non))), ?_⟩
    walk_at "go"
    refine wf_things t hW (Same.refl H) fun a ts ha hp => sqLK (SqL.of ha) ?_
    have hl := hp.length
    refine forL (fun i σ H2 => (∃ o, σ = [some v, some (.str n), o]) ∧ Same H H2 ∧ ∀ (j : Nat) h, j < i → W.things[j]? = some h → decide (h.name = n) = false) ⟨⟨none, rfl⟩, Same.refl H, fun j h hj => absurd hj (Nat.not_lt_zero _)⟩ (fun i σ H2 _ ⟨_, s, _⟩ => s.seq (.of ha)) ?_ ?_
    · rintro i x σ H2 hi ⟨⟨o, rfl⟩, s, hn⟩
      obtain ⟨th, h1, h2⟩ := paired_get' hp hi
      walk_at "go"
      refine thing_name t h2 s ?_
      walk_at "go"
      refine iteK (fun e => ?_) fun e => ?_
      · have e : th.name = n := by have := of_decide_eq_true e; injection this
        walk_at "go"
        refine k _ _ s ?_
        rw [show W.find n = some th from find_first hn h1 (decide_eq_true e)]
        exact thing_mono s h2
      · have e : ¬ th.name = n := fun z => of_decide_eq_false e (congrArg V.str z)
        refine x_next ⟨⟨_, rfl⟩, s, fun j h hj q => ?_⟩
        by_cases hji : j < i
        · exact hn j h hji q
        · have : j = i := by omega
          subst this
          rw [h1] at q
          cases q
          exact decide_eq_false e
    · rintro σ H2 ⟨⟨o, rfl⟩, s, hn⟩
      walk_at "go"
      refine k _ _ s ?_
      rw [show W.find n = none from find_none fun j h q => hn j h (by rw [hl]; exact get_lt q) q]
      exact rfl
def spYou (K : PySem.W.Frag) : Sp := fun vs H Q _ => ∃ v W y r, vs = [v] ∧ WorldAt K H v W ∧ W.kind "you" = y :: r ∧ ∀ H', Same H H' → Q (.str y) H'
theorem sc_World_you : FnScope ["self"] ["self"] (defScope s_World_you) := ⟨rfl, rfl, rfl, by decide +kernel, rfl, by decide +kernel, by decide +kernel⟩
theorem ok_you (t : T K mg) : C8.Met P w K mg base 2 (He.ga K "World") "you" (spYou K) [] := by
  have c_k := ok_of_kind (P := P) (w := w) (base := base) t
  refine met t.f_World_you t.c_World t.m_World_you sc_World_you (fun _ _ _ _ _ _ us hl => match us, hl with | [_], _ => rfl) (fun vs H Q E h => ?_) fun cdv A outer s H vs Q E hr h => ?_
  · obtain ⟨v, W, y, r, rfl, _⟩ := h
    rfl
  · obtain ⟨v, W, y, r, rfl, hW, hy, k⟩ := h
    refine ⟨_, (pss_one (ps_ret (pe_ix (ix_list' (K := K) rfl) (C8.pe_mt c_k hr (by decide) (L2.pv 0) (pa_cons pe_str pa_nil)) pe_int (fun _ _ => rfl)))), ?_⟩
    walk_at "go"
    refine world_mt hW (Same.refl H) (by simp [wmeths]) ?_
    walk_at "go"
    refine ⟨v, W, "you", rfl, hW, fun p H1 np s1 h1 => ?_⟩
    walk_at "go"
    rw [hy] at h1
    refine r_ixL (xs := (y :: r).map V.str) (i := 0) (v := .str y) (SqL.of h1) (by simp [atI, ixN]) ?_
    exact k _ s1
def optI : Option Int → V
  | some i => .int i
  | none => .non
def spMost (K : PySem.W.Frag) : Sp := fun vs H Q _ => ∃ v W n, vs = [v, .str n] ∧ WorldAt K H v W ∧ ∀ H', Same H H' → Q (optI (W.most n)) H'
theorem sc_World_most_of : FnScope ["self", "name", "mark", "thing"] ["self", "name"] (defScope s_World_most_of) := ⟨rfl, rfl, rfl, by decide +kernel, rfl, by decide +kernel, by decide +kernel⟩
theorem ok_most_of (t : T K mg) : C8.Met P w K mg base 2 (He.ga K "World") "most_of" (spMost K) [] := by
  have c_t := ok_thing_of (P := P) (w := w) (base := base) t
  have c_h := ok_has_mark (P := P) (w := w) (base := base) t
  refine met t.f_World_most_of t.c_World t.m_World_most_of sc_World_most_of (fun _ _ _ _ _ _ us hl => match us, hl with | [_, _], _ => rfl) (fun vs H Q E h => ?_) fun cdv A outer s H vs Q E hr h => ?_
  · obtain ⟨v, W, n, rfl, _⟩ := h
    rfl
  · obtain ⟨v, W, n, rfl, hW, k⟩ := h
    refine ⟨_, (pss_cons (ps_for PassesOwn.never (by rfl) (pi_list' (K := K) rfl (pe_fld' (K := K) rfl (L2.pv 0) rfl)) (pg_name (i := 2) sc_World_most_of.nd rfl (Or.inl rfl)) (pss_one (ps_if (pt_cmpR op_eq (pe_fld' (K := K) rfl (L2.pv 2) rfl) (L2.pv 1) (nomark _)) (pss_one (ps_ret (pe_fld' (K := K) rfl (L2.pv 2) rfl))) pss_nil)))
      (pss_cons (ps_set (i := 3) sc_World_most_of.nd rfl (Or.inl rfl) (C8.pe_mt c_t hr (by decide) (L2.pv 0) (pa_cons (L2.pv 1) pa_nil)))
      (pss_cons (ps_if (PW.pt (pw_and (pt_cmpR op_notN1 (L2.pv 3) pe_non (nomark _)) (pw_and1 (pt_val (C8.pe_mt0 c_h hr (by decide) (L2.pv 3)))))) (pss_one (ps_ret pe_int)) pss_nil)
      (pss_one (ps_ret pe_non))))), ?_⟩
    walk_at "go"
    refine wf_marks t hW (Same.refl H) fun a ts ha hp => sqLK (SqL.of ha) ?_
    have hl := hp.length
    refine forL (fun i σ H2 => (∃ o, σ = [some v, some (.str n), o, none]) ∧ Same H H2 ∧ ∀ (j : Nat) m, j < i → W.marks[j]? = some m → decide (m.name = n) = false) ⟨⟨none, rfl⟩, Same.refl H, fun j h hj => absurd hj (Nat.not_lt_zero _)⟩ (fun i σ H2 _ ⟨_, s, _⟩ => s.seq (.of ha)) ?_ ?_
    · rintro i x σ H2 hi ⟨⟨o, rfl⟩, s, hn⟩
      obtain ⟨m, h1, h2⟩ := paired_get' hp hi
      walk_at "go"
      refine mark_name t h2 s ?_
      walk_at "go"
      refine iteK (fun e => ?_) fun e => ?_
      · have e : m.name = n := by have := of_decide_eq_true e; injection this
        walk_at "go"
        refine mark_most t h2 s ?_
        have := k _ s
        rw [show W.most n = some m.most from by unfold Wd.most; rw [find_first hn h1 (decide_eq_true e)]] at this
        exact this
      · have e : ¬ m.name = n := fun z => of_decide_eq_false e (congrArg V.str z)
        refine x_next ⟨⟨_, rfl⟩, s, fun j h hj q => ?_⟩
        by_cases hji : j < i
        · exact hn j h hji q
        · have : j = i := by omega
          subst this
          rw [h1] at q
          cases q
          exact decide_eq_false e
    · rintro σ H2 ⟨⟨o, rfl⟩, s, hn⟩
      have hnm : W.marks.find? (fun m => decide (m.name = n)) = none := find_none fun j h q => hn j h (by rw [hl]; exact get_lt q) q
      walk_at "go"
      refine world_mt hW s (by simp [wmeths]) ?_
      walk_at "go"
      refine ⟨v, W, n, rfl, world_mono s hW, fun x H3 s3 g => ?_⟩
      walk_at "go"
      cases e : W.find n with
      | none =>
        rw [e] at g
        have g : x = .non := g
        subst g
        refine iteK_n rfl ?_
        walk_at "go"
        have := k _ (s.trans s3)
        rw [show W.most n = none from by unfold Wd.most; rw [hnm, e]] at this
        exact this
      | some th =>
        rw [e] at g
        have g : ThingAt K H3 x th := g
        have nx : ¬ x = .non := fun z => by
          obtain ⟨p, _, _, e2, _⟩ := g
          rw [z] at e2
          cases e2
        refine iteK_y (by simp [nx]) ?_
        walk_at "go"
        refine thing_mt "has_mark" g (Same.refl _) no_has_mark ?_
        walk_at "go"
        refine ⟨x, th, rfl, g, fun H4 s4 => ?_⟩
        walk_at "go"
        refine iteK (fun hm => ?_) fun hm => ?_
        · walk_at "go"
          have := k _ ((s.trans s3).trans s4)
          rw [show W.most n = some 1 from by unfold Wd.most; rw [hnm, e]; simp [hm]] at this
          exact this
        · walk_at "go"
          have := k _ ((s.trans s3).trans s4)
          rw [show W.most n = none from by unfold Wd.most; rw [hnm, e]; simp [hm]] at this
          exact this
def spAllVerbs (K : PySem.W.Frag) : Sp := fun vs H Q _ => ∃ v W, vs = [v] ∧ WorldAt K H v W ∧ ∀ p H' us, H p = none → Same H H' → H' p = some (.lst us) → Paired (VerbAt K H') us vbs → Q (.ref p) H'
theorem sc_World_all_verbs : FnScope ["self"] ["self"] (defScope s_World_all_verbs) := ⟨rfl, rfl, rfl, by decide +kernel, rfl, by decide +kernel, by decide +kernel⟩
theorem ok_all_verbs (t : T K mg) : C8.Met P w K mg base 1 (He.ga K "World") "all_verbs" (spAllVerbs K) [] := by
  refine met t.f_World_all_verbs t.c_World t.m_World_all_verbs sc_World_all_verbs (fun _ _ _ _ _ _ us hl => match us, hl with | [_], _ => rfl) (fun vs H Q E h => ?_) fun cdv A outer s H vs Q E hr h => ?_
  · obtain ⟨v, W, rfl, _⟩ := h
    rfl
  · obtain ⟨v, W, rfl, hW, k⟩ := h
    refine ⟨_, (pss_one (ps_ret (pe_callTy (cr_list (K := K) rfl) (by rfl) t.b_list (by decide +kernel) (pa_cons (pe_fld' (K := K) rfl (L2.pv 0) rfl) pa_nil)))), ?_⟩
    walk_at "go"
    refine wf_whole t hW (Same.refl H) fun a us ha hp => ?_
    walk_at "go"
    refine r_list (SqL.of ha) fun p H1 np s1 h1 => ?_
    exact k p H1 us np s1 h1 (Paired.mapP hp fun _ _ q => verb_mono s1 q)
def fVb (n : Str) : Option Vb := vbs.find? fun b => decide (n = b.name)
def spVerbOf (K : PySem.W.Frag) : Sp := fun vs H Q _ => ∃ v W n, vs = [v, .str n] ∧ WorldAt K H v W ∧ ∀ x H', Same H H' → Got (VerbAt K) H' x (fVb n) → Q x H'
theorem F_Verb_no (a b c d : V) : (F_Verb a b c d).lookup ("is_called" : Str) = none := by kernel_rfl
theorem sc_World_verb_of : FnScope ["self", "word", "verb"] ["self", "word"] (defScope s_World_verb_of) := ⟨rfl, rfl, rfl, by decide +kernel, rfl, by decide +kernel, by decide +kernel⟩
theorem ok_verb_of (t : T K mg) : C8.Met P w K mg base 2 (He.ga K "World") "verb_of" (spVerbOf K) [] := by
  have c_c := ok_is_called (P := P) (w := w) (base := base) t
  refine met t.f_World_verb_of t.c_World t.m_World_verb_of sc_World_verb_of (fun _ _ _ _ _ _ us hl => match us, hl with | [_, _], _ => rfl) (fun vs H Q E h => ?_) fun cdv A outer s H vs Q E hr h => ?_
  · obtain ⟨v, W, n, rfl, _⟩ := h
    rfl
  · obtain ⟨v, W, n, rfl, hW, k⟩ := h
    refine ⟨_, (pss_cons (ps_for PassesOwn.never (by rfl) (pi_list' (K := K) rfl (pe_fld' (K := K) rfl (L2.pv 0) rfl)) (pg_name (i := 2) sc_World_verb_of.nd rfl (Or.inl rfl)) (pss_one (ps_if (pt_val (C8.pe_mt c_c hr (by decide) (L2.pv 2) (pa_cons (L2.pv 1) pa_nil))) (pss_one (ps_ret (L2.pv 2))) pss_nil)))
      (pss_one (ps_ret pe_non))), ?_⟩
    walk_at "go"
    refine wf_whole t hW (Same.refl H) fun a us ha hp => sqLK (SqL.of ha) ?_
    have hl := hp.length
    refine forL (fun i σ H2 => (∃ o, σ = [some v, some (.str n), o]) ∧ Same H H2 ∧ ∀ (j : Nat) b, j < i → vbs[j]? = some b → decide (n = b.name) = false) ⟨⟨none, rfl⟩, Same.refl H, fun j h hj => absurd hj (Nat.not_lt_zero _)⟩ (fun i σ H2 _ ⟨_, s, _⟩ => s.seq (.of ha)) ?_ ?_
    · rintro i x σ H2 hi ⟨⟨o, rfl⟩, s, hn⟩
      obtain ⟨b, h1, h2⟩ := paired_get' hp hi
      walk_at "go"
      obtain ⟨p, dx, q, rfl, e1, e2⟩ := verb_mono s h2
      refine mtK e1 (F_Verb_no _ _ _ _) ?_
      walk_at "go"
      refine ⟨_, b, n, rfl, ⟨p, dx, q, rfl, e1, e2⟩, fun H3 s3 => ?_⟩
      walk_at "go"
      refine iteK (fun e => ?_) fun e => ?_
      · walk_at "go"
        refine k _ _ (s.trans s3) ?_
        rw [show fVb n = some b from find_first hn h1 e]
        exact verb_mono s3 ⟨p, dx, q, rfl, e1, e2⟩
      · refine x_next ⟨⟨_, rfl⟩, s.trans s3, fun j h hj q => ?_⟩
        by_cases hji : j < i
        · exact hn j h hji q
        · have : j = i := by omega
          subst this
          rw [h1] at q
          cases q
          exact e
    · rintro σ H2 ⟨⟨o, rfl⟩, s, hn⟩
      walk_at "go"
      refine k _ _ s ?_
      rw [show fVb n = none from find_none fun j h q => hn j h (by rw [hl]; exact get_lt q) q]
      exact rfl
/-- the ways' words: some of them, in some order -/
def spWayWords (K : PySem.W.Frag) : Sp := fun vs H Q _ => ∃ v W, vs = [v] ∧ WorldAt K H v W ∧ ∀ p H' (ys : List Str), H p = none → Same H H' → H' p = some (.lst (ys.map V.str)) → ys.length ≤ 10 → (∀ y ∈ ys, y ∈ W.ways.map Wy.word) → Q (.ref p) H'
theorem sc_World_way_words : FnScope ["self", "found", "way"] ["self"] (defScope s_World_way_words) := ⟨rfl, rfl, rfl, by decide +kernel, rfl, by decide +kernel, by decide +kernel⟩
theorem ok_way_words (t : T K mg) : C8.Met P w K mg base 1 (He.ga K "World") "way_words" (spWayWords K) [] := by
  refine met t.f_World_way_words t.c_World t.m_World_way_words sc_World_way_words (fun _ _ _ _ _ _ us hl => match us, hl with | [_], _ => rfl) (fun vs H Q E h => ?_) fun cdv A outer s H vs Q E hr h => ?_
  · obtain ⟨v, W, rfl, _⟩ := h
    rfl
  · obtain ⟨v, W, rfl, hW, k⟩ := h
    have hz := world_sizes hW
    refine ⟨_, (pss_cons (ps_set (i := 1) sc_World_way_words.nd rfl (Or.inl rfl) (pe_lst pa_nil))
      (pss_cons (ps_for PassesOwn.never (by rfl) (pi_list' (K := K) rfl (pe_fld' (K := K) rfl (L2.pv 0) rfl)) (pg_name (i := 2) sc_World_way_words.nd rfl (Or.inl rfl)) (pss_one (ps_if (pt_cmpR (op_notIn' (K := K) rfl) (pe_ix (ix_tup' (K := K) rfl) (L2.pv 2) pe_int (fun _ _ => rfl)) (L2.pv 1) (by rfl)) (pss_one (ps_expr (pe_bm PySem.F.plainAttrs_list PySem.F.slot_list_append PySem.F.type_list_append mt_append (L2.pv 1) (pa_cons (pe_ix (ix_tup' (K := K) rfl) (L2.pv 2) pe_int (fun _ _ => rfl)) pa_nil)))) pss_nil)))
      (pss_one (ps_ret (pe_callB (cr_sortS' (K := K) rfl) (by rfl) t.b_sorted (by decide +kernel) (pa_cons (L2.pv 1) pa_nil)))))), ?_⟩
    walk_at "go"
    refine lstK rfl fun f H1 nf s1 h1 => ?_
    walk_at "go"
    refine wf_ways t hW s1 fun a ws ha hp => sqLK (s1.seq (SqL.of ha)) ?_
    have hl := dpa_len hp
    rw [List.length_map] at hl
    refine forL (fun i σ H2 => (∃ o, σ = [some v, some (.ref f), o]) ∧ ∃ ys : List Str, Mk1 H f H2 (ys.map V.str) ∧ ys.length ≤ i ∧ ∀ y ∈ ys, y ∈ W.ways.map Wy.word) ⟨⟨none, rfl⟩, [], mk1_of nf s1 h1, Nat.le_refl _, fun y hy => by cases hy⟩ (fun i σ H2 _ ⟨_, _, m, _⟩ => m.same.seq (.of ha)) ?_ ?_
    · rintro i x σ H2 hi ⟨⟨o, rfl⟩, ys, m, hy, hw⟩
      obtain ⟨d, hd1, hd2⟩ := dpa_get hp hi
      obtain ⟨wy, hwy, rfl⟩ := map_get hd1
      obtain ⟨b, rfl, hb⟩ := way_dp (dp_mono m.same hd2)
      have hlt := get_lt hi
      walk_at "go"
      refine r_ixT (i := 1) (v := .str wy.word) hb (by simp [atI, ixN]) ?_
      walk_at "go"
      refine r_inL (.of m.at_) rfl (flat_strs ys) ?_
      walk_at "go"
      refine iteK (fun e => ?_) fun e => ?_
      · walk_at "go"
        refine tyK_l (.of m.at_) ?_
        walk_at "go"
        refine r_ixT (i := 1) (v := .str wy.word) hb (by simp [atI, ixN]) ?_
        walk_at "go"
        refine r_app m.at_ (by rw [List.length_map]; omega) ?_
        refine ⟨⟨_, rfl⟩, ys ++ [wy.word], ?_, by rw [List.length_append]; exact Nat.succ_le_succ hy, fun y hy => ?_⟩
        · rw [List.map_append]
          exact m.upd
        · rcases List.mem_append.mp hy with hy | hy
          · exact hw y hy
          · rw [List.mem_singleton.mp hy]
            exact List.mem_map_of_mem (List.mem_of_getElem? hwy)
      · exact x_next ⟨⟨_, rfl⟩, ys, m, by omega, hw⟩
    · rintro σ H2 ⟨⟨o, rfl⟩, ys, m, hy, hw⟩
      walk_at "go"
      refine ⟨f, ys, rfl, .of m.at_, by omega, fun zs p hz1 hz2 np => ?_⟩
      refine k p _ zs (m.same.free np) (m.same.trans (same_new np)) upd_same ?_ fun y hy => hw y (hz1.mem_iff.mp hy)
      rw [hz1.length_eq]
      omega
end
end Tw
set_option maxHeartbeats 4000000
/-! enumerate of a tuple. -/
namespace Tw
open PySem PySem.Spec L2
open Sem (wp)
open AutoSeq1 (wpAny_loadPart')
theorem meets_enum1 {z : Value} {b : Obj} {G : Heap → Prop} (B : Begins z b G) :
    Meets (Builtin.«enumerate.__new__» ⟨[.type "enumerate", z], []⟩) (fun _ R s => G s.heap ∧
      R (.ok (.ret (.ref (s.heap.push b).objs.size))) { s with heap := (s.heap.push b).push { cls := .type "enumerate", data := .fields #[.none, .bool false, .ref s.heap.objs.size, rawInt 0, .none, .none] } }) :=
  .of_wp fun prog w A R s g => by
    obtain ⟨hp, gg, dd, tk, os⟩ := s
    obtain ⟨g1, g⟩ := g
    have hsub := sub_enumerate
    have q1 : ∀ {A' : Around} {E : Value → Shared → Prop} {Q : Value → Shared → Prop}, Q (.ref hp.objs.size) ⟨hp.push b, gg, dd, tk, os⟩ → wpAny (model prog w) A' (pyIter z) Q E ⟨hp, gg, dd, tk, os⟩ :=
      fun q => B.iter prog w _ _ ⟨hp, gg, dd, tk, os⟩ _ g1 q
    wp_walk using q1
    refine wpAny_stack_any fun st => wpAny_pure ?_
    split
    · rename_i c _ _ _ _ _
      cases (c == Value.type "enumerate")
      · wp_walk using q1
        exact ⟨_, rfl, g⟩
      · wp_walk using q1
        exact ⟨_, rfl, g⟩
    · wp_walk using q1
      exact ⟨_, rfl, g⟩
theorem enum_begins1 {prog : Program} {w : World} {A : Around} {E : Value → Shared → Prop} {s : Shared} {z : Value} {b : Obj} {G : Heap → Prop} {Q : Value → Shared → Prop} (B : Begins z b G) (g1 : G s.heap)
    (k : ∀ h2, IsEnum h2 (s.heap.objs.size + 1) s.heap.objs.size 0 .none → h2.get? s.heap.objs.size = some b → h2.objs.size = s.heap.objs.size + 2 →
      (∀ c o, s.heap.get? c = some o → h2.get? c = some o) → Q (.ref (s.heap.objs.size + 1)) { s with heap := h2 }) : wpAny (model prog w) A (call (.type "enumerate") [z]) Q E s := by
  refine callType_new F.called_enumerate (by decide) (F.typeCall_enumerate_1 _) (F.newCall_enumerate_1 _) (fun obj => F.args_object_init_2 obj _) F.entry_enumerate_new (meets_enum1 B) ⟨g1, ?_⟩
  have hz : (s.heap.push b).objs.size = s.heap.objs.size + 1 := Heap.size_push ..
  show _ ∧ _
  rw [hz]
  have he : IsEnum ((s.heap.push b).push { cls := .type "enumerate", data := .fields #[.none, .bool false, .ref s.heap.objs.size, rawInt 0, .none, .none] }) (s.heap.objs.size + 1) s.heap.objs.size 0 .none := by
    have z2 := Heap.get?_push_size (s.heap.push b) (o := { cls := .type "enumerate", data := .fields #[.none, .bool false, .ref s.heap.objs.size, rawInt 0, .none, .none] }) rfl
    rw [hz] at z2
    exact z2
  refine ⟨⟨_, he, rfl⟩, k _ he (Heap.get?_push_of_some _ (Heap.get?_push_size _ B.free)) (by rw [Heap.size_push, hz]) fun c o x => Heap.get?_push_of_some _ (Heap.get?_push_of_some _ x)⟩
/-- the tuple at a, each item in a new pair behind its number -/
def IteT (K : PySem.W.Frag) (a : Addr) : It :=
  ⟨fun i H => ∃ (xs : List V) (x : V), SqT K H a xs ∧ xs[i]? = some x, fun i H v H' => ∃ t x, v = .ref t ∧ H t = none ∧ H' = upd H t (.tup [.int (i : Nat), x]) ∧ ∀ xs, SqT K H a xs → xs[i]? = some x, fun i H => ∃ xs : List V, SqT K H a xs ∧ xs.length ≤ i⟩
theorem turn_enumT {P : Program} {w : World} {K : PySem.W.Frag} {elts : List Expr} {kk : Nat} {tpos : Pos} (a e it : Addr) :
    Turn P w K (.Tuple elts kk tpos) (IteT K a) [e, it] e (fun i h => (∃ old, IsEnum h e it ((i : Nat) : Int) old) ∧ h.IsTupleIter it a i ∧ e ≠ it ∧ a ≠ it ∧ a ≠ e) where
  mem := by simp
  obj := fun i h st b hb => by
    obtain ⟨⟨old, he⟩, ⟨o, ho, hc, hd⟩, _⟩ := st
    rcases (by simpa using hb : b = e ∨ b = it) with z | z
    · subst z
      exact ⟨_, he, fun v q => nomatch q⟩
    · subst z
      exact ⟨o, ho, fun v q => by rw [hd] at q; cases q⟩
  keep := fun i h h2 st k => by
    obtain ⟨⟨old, he⟩, hi, hne⟩ := st
    exact ⟨⟨old, k e (by simp) _ he⟩, hi.at fun o q => k it (by simp) o q, hne⟩
  item := by
    intro X hP hw hK hc i pins s σ H E I hf st hg
    subst hP hw hK
    obtain ⟨⟨old, he⟩, hit, hne, hai, hae⟩ := st
    obtain ⟨xs, x, hq, hx⟩ := hg
    obtain ⟨its, rv, p, hz⟩ := I.tuple hq
    obtain ⟨u, hu, ru⟩ := rv.get hx
    have hel : e < s.heap.objs.size := Heap.lt_size he
    have hil : it < s.heap.objs.size := by
      obtain ⟨_, q, _⟩ := hit
      exact Heap.lt_size q
    have hlt : i < its.toArray.size := by
      rw [List.size_toArray, ← rv.length]
      exact get_lt hx
    refine wpAny_pyNext_enum_itemD (Draws.tuple (prog := X.prog) (w := X.w) (A := X.A.in1) (I.ok.hd hc) it a hai its.toArray) he ⟨hit, p⟩ hlt hne (by simp [hne, Ne.symm hae]) fun x' h' tk hx' ho hit' hT hsz hk => ?_
    have ex : x' = u := by
      have z : its[i]? = some x' := by simpa using hx'
      rw [hu] at z
      exact (Option.some.inj z).symm
    subst ex
    refine ⟨_, rfl, wpAny_letOwnedTupleGo_enum (s := { s with heap := h', toks := tk + 1 }) ho fun h2 he2 sb => ?_⟩
    have hT2 : h2.get? s.heap.objs.size = some { cls := .type "tuple", data := .seq #[.int i tk, x'] } := (sb.2 _ (Nat.ne_of_gt hel)).trans hT
    have I1 : Inv X pins σ (upd H s.heap.objs.size (.tup [.int (i : Nat), x])) { s with heap := h2, toks := tk + 1 } :=
      I.turnedNew (ch := [e, it]) (fun b ob hb q => (sb.2 b (fun z => hb (by simp [z]))).trans (hk b ob (fun z => hb (by simp [z])) (fun z => hb (by simp [z])) q)) hf (Nat.le_refl _)
        ⟨by show 2 ≤ sizeLine; decide, [.int i tk, x'], .cons ⟨_, rfl⟩ (.cons ru .nil), ⟨_, hT2, rfl, _, rfl⟩⟩
    refine ⟨.ref s.heap.objs.size, _, I1, rfl, ⟨_, x, rfl, I.hok.fresh (Nat.le_refl _), rfl, fun ys hy => by rw [I.tuple_inj hy hq]; exact hx⟩, ⟨⟨x', ?_⟩, hit'.1.at fun o q => (sb.2 it (Ne.symm hne)).trans q, hne, hai, hae⟩, fun b hb => ?_⟩
    · rw [show ((i + 1 : Nat) : Int) = (i : Int) + 1 from by omega]
      exact he2
    · have hb2 : b < s.heap.objs.size := by
        rcases (by simpa using hb : b = e ∨ b = it) with z | z
        · rw [z]; exact hel
        · rw [z]; exact hil
      rw [upd_ne (Nat.ne_of_lt hb2)]
      exact (hf b hb).1
  done := by
    intro X hP hw hK hc i pins s σ H E I hf st hg
    subst hP hw hK
    obtain ⟨⟨old, he⟩, hit, hne, hai, hae⟩ := st
    obtain ⟨xs, hq, hx⟩ := hg
    obtain ⟨its, rv, p, hz⟩ := I.tuple hq
    obtain ⟨f0, f1, f2, f3, f4, f5⟩ := hf it (by simp)
    have hl := rv.length
    refine wpAny_pyNext_enum_endD (fp := [it, a]) (n := i) (P := fun _ _ => True) (St := fun j h => j = i ∧ h.IsTupleIter it a i ∧ h.IsTuple a its.toArray) ⟨fun j h st => ?_, fun j h h2 st kp => ?_, fun j s2 Q2 E2 hj st _ => absurd st.1 (Nat.ne_of_lt hj), fun s2 Q2 E2 st kE => ?_⟩ he ⟨rfl, hit, p⟩ fun h' eb => ⟨rfl, I.turned (t' := s.toks) (fun b o hb q => eb b o hb q) f0 f1 f3 f4 f5⟩
    · obtain ⟨_, ⟨o, ho, _⟩, _⟩ := st
      exact ⟨o, ho⟩
    · exact ⟨st.1, st.2.1.at fun o q => kp it (by simp) o q, st.2.2.at fun o q => kp a (by simp) o q⟩
    · exact wpAny_nextOf_tuple_end (I.ok.hd hc) st.2.1 st.2.2 (by simp; omega) kE
  self := fun A i s Q E st h => by
    obtain ⟨⟨_, he⟩, _⟩ := st
    exact wpAny_pyIter_enum he h
def iEnumT (K : PySem.W.Frag) (ta : TA) : TI := fun σ H R => ta σ H fun vs H1 => ∃ a xs, vs = [.ref a] ∧ SqT K H1 a xs ∧ R (IteT K a) H1
theorem pi_enumT {X : Cx} {e : Expr} {ta : TA} {p pos tpos : Pos} {elts : List Expr} {kk : Nat} (hg : Gl X "enumerate") (hm : X.mg "enumerate" = none) (ha : PA X [e] ta) (hs : starEach [e] X.env = [(false, eval e X.env)] := by rfl) :
    PI X (.Tuple elts kk tpos) (.Call (.Name "enumerate" p) [e] [] pos) (iEnumT X.K ta) := by
  refine ⟨fun pins s σ H R I h => ?_⟩
  refine PyProof.Rows.Call_ (ld_blt I hg hm PyProof.Rows.boot_enumerate (PyProof.Rows.callWith_type1 (thn (ha.run pos pins s σ H _ I h) fun us s1 ⟨vs, H1, I1, r1, q1⟩ => ?_) hs rfl))
  obtain ⟨a, xs, ex, hq, q⟩ := q1
  subst ex
  cases r1 with
  | cons r rr =>
    cases rr
    cases r
    obtain ⟨its, rv, p', hz⟩ := I1.tuple hq
    have hal : a < s1.heap.objs.size := by
      obtain ⟨o, ho, _⟩ := id p'
      exact Heap.lt_size ho
    refine enum_begins1 (begins_tuple a its.toArray) p' fun h2 he hit hsz hk => wpAny_pyIter_enum he ?_
    have I2 : Inv X pins σ H1 { s1 with heap := h2 } := I1.kept (t' := s1.toks) hk
    refine ⟨s1.heap.objs.size + 1, [s1.heap.objs.size + 1, s1.heap.objs.size], _, _, H1, rfl, I2, turn_enumT a (s1.heap.objs.size + 1) s1.heap.objs.size, ⟨⟨.none, he⟩, ⟨_, hit, rfl, rfl⟩, Nat.succ_ne_self _, Nat.ne_of_lt hal, Nat.ne_of_lt (Nat.lt_succ_of_lt hal)⟩, fun b hb => ?_, q⟩
    have hle : s1.heap.objs.size ≤ b := by
      rcases (by simpa using hb : b = s1.heap.objs.size + 1 ∨ b = s1.heap.objs.size) with z | z
      · rw [z]; exact Nat.le_add_right _ _
      · rw [z]; exact Nat.le_refl _
    exact I1.fpOk hle (I1.hok.fresh hle)
/-- enumerate of a list or of a tuple -/
theorem pi_or {X : Cx} {tg e : Expr} {i1 i2 : TI} (h1 : PI X tg e i1) (h2 : PI X tg e i2) : PI X tg e (fun σ H R => i1 σ H R ∨ i2 σ H R) := ⟨fun pins s σ H R I h => h.elim (h1.run pins s σ H R I) (h2.run pins s σ H R I)⟩
theorem walk_enumT {K : PySem.W.Frag} {a : Addr} {xs : List V} : Walk (IteT K a) xs.length (fun H => SqT K H a xs) (YPair (fun i => some (.int (i : Nat))) (fun i => xs[i]?)) where
  goes := fun i H hi h => ⟨xs, xs[i], h, by simp [hi]⟩
  stops := fun H h => ⟨xs, h, Nat.le_refl _⟩
  yields := fun i H x H' hi h y => by
    obtain ⟨t, x', e, n, e2, k⟩ := y
    exact ⟨t, _, x', e, n, e2, rfl, k xs h⟩
end Tw
set_option maxHeartbeats 4000000
/-! Names and words are let by. -/
namespace Tw
open PySem PySem.Spec L2
section
variable {K : PySem.W.Frag} {σ : L2.St} {H : Hp} {Q : VK} {ta tb tc te : TE} {r r' : R2} {g : TG} {tt : TT} {a : Addr} {xs : List V} {J : It} {vs : List Nat} {D : Ends} {tb' : TS}
theorem x_chain (q : ta σ H fun x H1 => tb σ H1 fun y H2 => r x y H2 fun z H3 => BlK z fun k => IteK k (tc σ H3 fun w H4 => r' y w H4 Q) (Q (.bl false) H3)) : tChain r r' ta tb tc σ H Q := q
theorem iteK_nf {A B : Prop} (q : A) : IteK (!false) A B := q
theorem iteK_nt {A B : Prop} (q : B) : IteK (!true) A B := iteK_f q
def StrK (v : V) (H : Hp) (R : It → Hp → Prop) : Prop := ∃ x, v = .str x ∧ R (Its x) H
theorem strK {z : Str} {R : It → Hp → Prop} (q : R (Its z) H) : StrK (.str z) H R := ⟨z, rfl, q⟩
theorem x_istr {R : It → Hp → Prop} (q : te σ H fun v H1 => StrK v H1 R) : iStr te σ H R := q
theorem lcW {n : Nat} {G : Hp → Prop} {Y : Nat → Hp → V → Hp → Prop} (w : Walk J n G Y) (hG : ∀ H', Same H H' → G H') (F : List V → Nat → Hp → Prop) (h0 : F [] 0 H) (fm : ∀ H', Same H H' → F [] 0 H → F [] 0 H')
    (turn : ∀ D i x ys H2 H3, Mk1 H D H2 ys → F ys i (del D H2) → i < n → Y i H2 x H3 → g x (wipe σ vs) H3 fun σ2 H4 => LtK H F D i tt te vs σ σ2 H4)
    (hd : ∀ D H' ys, Mk1 H D H' ys → F ys n (del D H') → Q (.ref D) H') : LcK J g tt te vs σ Q H := fun D nD =>
  lc_it w (fun i H2 => ∃ ys, Mk1 H D H2 ys ∧ F ys i (del D H2)) ⟨[], mk1 nD, by rw [del_upd]; exact fm _ (del_none (Same.refl H) nD) h0⟩ (fun i H2 _ ⟨_, m, _⟩ => hG _ m.same)
    (fun i x H2 H3 hi ⟨ys, m, f⟩ y => turn D i x ys H2 H3 m f hi y) (fun H2 ⟨ys, m, f⟩ => hd D H2 ys m f)
theorem forW {n : Nat} {G : Hp → Prop} {Y : Nat → Hp → V → Hp → Prop} (w : Walk J n G Y) (Pv : Nat → L2.St → Hp → Prop) (h0 : Pv 0 σ H) (hG : ∀ i σ H, i ≤ n → Pv i σ H → G H)
    (hs : ∀ i x σ H H', i < n → Pv i σ H → Y i H x H' → g x σ H' fun σ2 H2 => tb' { D with nx := Pv (i + 1), ct := Pv (i + 1), bk := D.nx } σ2 H2) (hd : ∀ σ H, Pv n σ H → D.nx σ H) : ForK J g tb' D σ H := for_it w Pv h0 hG hs hd
theorem r_inS {c : Nat} {z : Str} (q : Q (.bl (decide (c ∈ z.cps.toList))) H) : rInS (.str ⟨#[c]⟩) (.str z) H Q := ⟨c, z, rfl, rfl, q⟩
theorem r_lenS {z : Str} (hl : z.length ≤ 1000) (q : Q (.int z.length) H) : rLenT [.str z] H Q := ⟨z, rfl, Nat.le_of_lt (small1000 hl), q⟩
theorem kit_ss : PySem.W.kitOne K (.type "str") (.type "str") = some true := kit_ty (by decide +kernel)
theorem kit_ii : PySem.W.kitOne K (.type "int") (.type "int") = some true := kit_ty (by decide +kernel)
theorem kit_ib : PySem.W.kitOne K (.type "int") (.type "bool") = some false := kit_ty (by decide +kernel)
theorem kit_tt : PySem.W.kitOne K (.type "tuple") (.type "tuple") = some true := kit_ty (by decide +kernel)
theorem r_isSS {x : Str} (q : Q (.bl true) H) : rIsi K [.str x, .ty "str"] H Q := ⟨_, _, _, _, _, rfl, .ty _, .base (.str x), kit_ss, q⟩
theorem r_isII {x : Int} (q : Q (.bl true) H) : rIsi K [.int x, .ty "int"] H Q := ⟨_, _, _, _, _, rfl, .ty _, .base (.int x), kit_ii, q⟩
theorem r_isIB {x : Int} (q : Q (.bl false) H) : rIsi K [.int x, .ty "bool"] H Q := ⟨_, _, _, _, _, rfl, .ty _, .base (.int x), kit_ib, q⟩
theorem r_isTT (h : SqT K H a xs) (q : Q (.bl true) H) : rIsi K [.ref a, .ty "tuple"] H Q := by
  rcases h with (h | ⟨o, h⟩) | ⟨o, its, n, h1, h2, _⟩
  · exact ⟨_, _, _, _, _, rfl, .ty _, .base (.tup h), kit_tt, q⟩
  · exact ⟨_, _, _, _, _, rfl, .ty _, .fTuple h, kit_tt, q⟩
  · exact ⟨_, _, _, _, _, rfl, .ty _, .kTuple h1 h2, kit_tt, q⟩
theorem all_rep (n : Nat) : (List.replicate n true).all id = true := by simp
theorem map_rep (n : Nat) : (List.replicate n true).map V.bl = List.replicate n (V.bl true) := by simp
theorem r_allT {n : Nat} (h : H a = some (.lst (List.replicate n (V.bl true)))) (q : Q (.bl true) H) : rAll K [.ref a] H Q := by
  refine r_all (bs := List.replicate n true) (by rw [map_rep]; exact .of h) ?_
  rw [all_rep]
  exact q
theorem rep_snoc (n : Nat) : List.replicate n (V.bl true) ++ [V.bl true] = List.replicate (n + 1) (V.bl true) := by
  rw [List.replicate_succ']
/-- cuts -/
theorem cut_to (xs : List V) (i : Nat) : cutV xs none (some (i : Int)) = xs.take i := by
  unfold cutV
  rw [HT.sIx_none, HT.sIx_nat, List.drop_zero, Nat.sub_zero]
  by_cases h : i ≤ xs.length
  · rw [Nat.min_eq_left h]
  · rw [Nat.min_eq_right (by omega), List.take_of_length_le (Nat.le_refl _), List.take_of_length_le (by omega)]
theorem cut_from (xs : List V) (i : Nat) : cutV xs (some (i : Int)) none = xs.drop i := by
  unfold cutV
  rw [HT.sIx_none, HT.sIx_nat]
  by_cases h : i ≤ xs.length
  · rw [Nat.min_eq_left h, List.take_of_length_le (by rw [List.length_drop]; exact Nat.le_refl _)]
  · rw [Nat.min_eq_right (by omega), List.drop_of_length_le (Nat.le_refl _), List.drop_of_length_le (by omega)]
    simp
theorem r_slL {lo hi : Option Int} (h : SqL K H a xs) (q : ∀ p H', H p = none → Same H H' → H' p = some (.lst (cutV xs lo hi)) → Q (.ref p) H') : rSlL K (.ref a) lo hi H Q := ⟨a, xs, rfl, h, fun p np => q p _ np (same_new np) upd_same⟩
theorem r_slT {lo hi : Option Int} (h : SqT K H a xs) (q : ∀ p H', Same H H' → SqT K H' p (cutV xs lo hi) → Q (.ref p) H') : rSlA K (.ref a) lo hi H Q := by
  refine ⟨a, xs, rfl, h, fun e => q a H (Same.refl H) ?_, fun _ p np => q p _ (same_new np) (.of upd_same)⟩
  have : cutV xs lo hi = xs := by
    unfold cutV
    rw [e.1, e.2, List.drop_zero, Nat.sub_zero, List.take_of_length_le (Nat.le_refl _)]
  rw [this]
  exact h
def PoK (x : V) (H : Hp) (R : Option Int → Hp → Prop) : Prop := ∃ i, x = .int i ∧ R (some i) H
theorem poK {i : Int} {R : Option Int → Hp → Prop} (q : R (some i) H) : PoK (.int i) H R := ⟨i, rfl, q⟩
theorem x_part {R : Option Int → Hp → Prop} (q : te σ H fun x H1 => PoK x H1 R) : tPart te σ H R := q
theorem x_noPart {R : Option Int → Hp → Prop} (q : R none H) : tNoPart σ H R := q
theorem x_sl {rs : V → Option Int → Option Int → Hp → VK → Prop} {tl th : TO} (q : te σ H fun x H1 => tl σ H1 fun l H2 => th σ H2 fun u H3 => rs x l u H3 Q) : tSl rs te tl th σ H Q := q
end
/-- what is checked and found good: True, and the heap may have grown -/
def spT (C : List V → Hp → Prop) : Sp := fun vs H Q _ => C vs H ∧ ∀ H', Same H H' → Q (.bl true) H'
local macro_rules | `(tactic| walk_at "rd1") => `(tactic| first
  | with_reducible refine x_seq ?_
  | ((with_reducible refine x_var (v := ?vv) ?hh ?_); case hh => exact rfl)
  | with_reducible refine x_c ?_
  | with_reducible refine x_op ?_
  | with_reducible refine x_fld ?_
  | with_reducible refine x_call ?_
  | with_reducible refine x_meth ?_
  | with_reducible refine x_make ?_
  | with_reducible refine x_cb ?_
  | with_reducible refine x_tup ?_
  | with_reducible refine x_lst ?_
  | with_reducible refine x_nil ?_
  | with_reducible refine x_cons ?_
  | with_reducible refine x_asg ?_
  | with_reducible refine x_name ?_
  | with_reducible refine x_ret ?_
  | with_reducible refine x_retN ?_
  | with_reducible refine x_drop ?_
  | with_reducible refine x_ifS ?_
  | with_reducible refine x_if ?_
  | with_reducible refine x_andV ?_
  | with_reducible refine x_orV ?_
  | with_reducible refine x_notV ?_
  | with_reducible refine x_test ?_
  | with_reducible refine x_tB ?_
  | with_reducible refine x_and ?_
  | with_reducible refine x_or ?_
  | with_reducible refine x_not ?_
  | with_reducible refine x_yes ?_
  | with_reducible refine x_next ?_
  | with_reducible refine x_sfld ?_
  | with_reducible refine blK ?_
  | with_reducible refine r_I0 ?_
  | with_reducible refine r_isN ?_
  | with_reducible refine r_notN ?_
  | ((with_reducible refine r_eq ?hh ?_); case hh => exact rfl)
  | ((with_reducible refine r_ne ?hh ?_); case hh => exact rfl)
  | with_reducible refine x_gnil ?_
  | with_reducible refine x_gcons ?_)
local macro_rules | `(tactic| walk_at "rd2") => `(tactic| first
  | walk_at "rd1"
  | with_reducible refine x_lc ?_
  | with_reducible refine x_for ?_
  | with_reducible refine x_itup ?_
  | with_reducible refine x_ilist ?_
  | with_reducible refine x_rng1 ?_
  | with_reducible refine x_bm ?_
  | with_reducible refine x_chain ?_
  | with_reducible refine x_istr ?_
  | with_reducible refine strK ?_
  | with_reducible refine x_sl ?_
  | with_reducible refine x_part ?_
  | with_reducible refine x_noPart ?_
  | with_reducible refine poK ?_
  | ((with_reducible refine ltK ?hh ?_); case hh => exact rfl)
  | ((with_reducible refine ltKx ?hh ?_); case hh => exact rfl)
  | with_reducible refine x_dput ?_
  | with_reducible refine x_dget ?_
  | with_reducible refine iteK_t ?_
  | with_reducible refine iteK_nf ?_
  | with_reducible refine iteK_nt ?_
  | with_reducible refine iteK_f ?_)
local macro_rules | `(tactic| walk_at "go") => `(tactic| repeat (walk_at "rd2"))
local macro_rules | `(tactic| walk_at "rd") => `(tactic| repeat (walk_at "rd1"))
local macro_rules | `(tactic| walk_at "at") => `(tactic| repeat (first | assumption | refine same_at' (by assumption) ?_))
local macro_rules | `(tactic| walk_at "sm") => `(tactic| repeat (first | exact Same.refl _ | assumption | refine Same.trans ?_ (by assumption)))
local macro_rules | `(tactic| walk_at "mk1") => `(tactic| first
  | with_reducible refine mk_new rfl fun _ _ _ _ _ _ => ?_
  | with_reducible refine lstK rfl fun _ _ _ _ _ => ?_
  | with_reducible refine tupK rfl fun _ _ _ _ _ => ?_
  | with_reducible refine mk_rule4 (SqL.of (by walk_at "at")) (SqL.of (by walk_at "at")) fun _ _ _ _ => ?_
  | with_reducible refine mk_rule (SqL.of (by walk_at "at")) (SqL.of (by walk_at "at")) fun _ _ _ _ => ?_
  | with_reducible refine c_refusal (SqL.of (by walk_at "at")) fun _ _ _ _ => ?_)
local macro_rules | `(tactic| walk_at "mk") => `(tactic| repeat (first | walk_at "rd2" | walk_at "mk1"))
local macro_rules | `(tactic| walk_at "ar1") => `(tactic| ((with_reducible refine r_I ?hh ?_); case hh => first | exact (show (0 : Int) < _ from by decide +kernel) | exact And.intro (by decide +kernel) (by decide +kernel) | exact Or.inr (And.intro (by decide +kernel) (by decide +kernel)) | exact Or.inl (And.intro (by decide +kernel) (by decide +kernel)) | exact And.intro (by decide +kernel) (And.intro (by decide +kernel) (by decide +kernel))))
local macro_rules | `(tactic| walk_at "ar") => `(tactic| repeat (first | walk_at "rd2" | walk_at "ar1"))

section
variable {P : Program} {w : World} {K : PySem.W.Frag} {mg : Str → Option Value} {base : Heap}
abbrev abc : Str := "abcdefghijklmnopqrstuvwxyz"
def Small (x : Str) (n : Nat) : Prop := 1 ≤ x.length ∧ x.length ≤ n ∧ ∀ c ∈ x.cps.toList, c ∈ abc.cps.toList
def barred : List Str := ["it", "other", "here", "the", "a", "undo", "restart"]
def NameOk (x : Str) : Prop := Small x 8 ∧ x ∉ barred
def leftOut : List Str := ["the", "a"]
def WordOk (x : Str) : Prop := Small x 12 ∧ x ∉ leftOut
theorem inV_no {x : Str} {xs : List Str} (h : x ∉ xs) : inV (.str x) (xs.map V.str) = false := by
  rw [inV_str]
  exact List.any_eq_false.mpr fun y hy => by
    rw [decide_eq_true_iff]
    intro z
    subst z
    exact h hy
theorem inV_yes {x : Str} {xs : List Str} (h : x ∈ xs) : inV (.str x) (xs.map V.str) = true := by
  rw [inV_str]
  exact List.any_eq_true.mpr ⟨x, h, decide_eq_true rfl⟩
theorem sc_is_small : FnScope ["thing", "most", "sign"] ["thing", "most"] (defScope s_is_small) := ⟨rfl, rfl, rfl, by decide +kernel, rfl, by decide +kernel, by decide +kernel⟩
theorem ok_is_small (t : T K mg) : C8.Cal P w K mg base 1 "is_small" (spT fun vs H => ∃ (x : Str) (n : Nat), vs = [.str x, .int n] ∧ Small x n ∧ n ≤ 100) [] := by
  refine cal t.f_is_small t.g_is_small sc_is_small (fun _ _ _ _ _ _ us hl => match us, hl with | [_, _], _ => rfl) (fun vs H Q E h => ?_) fun cdv A outer s H vs Q E hr h => ?_
  · obtain ⟨⟨x, n, rfl, _⟩, _⟩ := h
    rfl
  · obtain ⟨⟨x, n, rfl, ⟨hs1, hs2, hs3⟩, hn⟩, k⟩ := h
    refine ⟨_, (pss_one (ps_ret (pe_and (pe_callB (cr_isi (K := K) rfl) (by rfl) t.b_isinstance (by decide +kernel) (pa_cons (L2.pv 0) (pa_cons (pe_bltn (v := .ty "str") (u := .type "str") (by rfl) t.b_str (by decide +kernel) rfl) pa_nil))) (pe_and (pe_chain op_le op_le pe_int (pe_callB cr_lenS (by rfl) t.b_len (by decide +kernel) (pa_cons (L2.pv 0) pa_nil)) (L2.pv 1)) (pe_one (pe_callB (cr_all' (K := K) rfl (by rfl)) (by rfl) t.b_all (by decide +kernel) (pa_cons (pe_lc (own := [("sign", 2)]) (by rfl) sc_is_small.nd (pi_str (L2.pv 0)) (blkOk_by (own := [("sign", 2)]) (N := ["thing", "most", "sign"]) (sc := defScope s_is_small) (by decide +kernel)) (fun _ _ _ _ _ => (pg_name (i := 2) sc_is_small.nd rfl (Or.inl rfl))) (fun _ _ _ _ _ => pts_nil) (fun _ _ _ _ _ => (pe_cmpR op_inS (L2.pv 2) (C8.pe_gc (by rfl) t.z_LETTERS) (by rfl)))) pa_nil))))))), ?_⟩
    walk_at "go"
    refine r_isSS ?_
    walk_at "go"
    refine r_lenS (by omega) ?_
    walk_at "go"
    rw [decide_eq_true (show (1 : Int) ≤ (x.length : Int) by omega)]
    walk_at "go"
    rw [decide_eq_true (show (x.length : Int) ≤ (n : Int) by omega)]
    walk_at "go"
    refine lcW walk_str (fun _ _ => trivial) (fun ys i H' => ys = List.replicate i (.bl true)) rfl (fun _ _ _ => rfl) ?_ ?_
    · rintro D i v ys H2 H3 m f hi ⟨rfl, c, hc, rfl⟩
      have hz : x.cps.size = x.length := rfl
      walk_at "go"
      refine r_inS ?_
      rw [decide_eq_true (hs3 c (by rw [← Array.getElem?_toList] at hc; exact List.mem_of_getElem? hc))]
      exact apK m (by rw [f, List.length_replicate]; omega) (by rw [f]; exact rep_snoc i)
    · intro D H2 ys m f
      rw [f] at m
      exact r_allT m.at_ (k _ m.same)
theorem sc_is_name : FnScope ["thing"] ["thing"] (defScope s_is_name) := ⟨rfl, rfl, rfl, by decide +kernel, rfl, by decide +kernel, by decide +kernel⟩
theorem ok_is_name (t : T K mg) : C8.Cal P w K mg base 2 "is_name" (spT fun vs H => ∃ x : Str, vs = [.str x] ∧ NameOk x) [] := by
  have c_is_small := ok_is_small (P := P) (w := w) (base := base) t
  refine cal t.f_is_name t.g_is_name sc_is_name (fun _ _ _ _ _ _ us hl => match us, hl with | [_], _ => rfl) (fun vs H Q E h => ?_) fun cdv A outer s H vs Q E hr h => ?_
  · obtain ⟨⟨x, rfl, _⟩, _⟩ := h
    rfl
  · obtain ⟨⟨x, rfl, hs, hn⟩, k⟩ := h
    refine ⟨_, (pss_one (ps_ret (pe_and (C8.pe_c c_is_small hr (by decide) (by rfl) (pa_cons (L2.pv 0) (pa_cons (C8.pe_gc (by rfl) t.i_MOST_NAME) pa_nil))) (pe_one (pe_cmpR (op_notIn' (K := K) rfl) (L2.pv 0) (C8.pe_gc (by rfl) t.t_BARRED) (by rfl)))))), ?_⟩
    walk_at "go"
    refine ⟨⟨x, 8, rfl, hs, by decide⟩, fun H1 s1 => ?_⟩
    walk_at "go"
    refine r_inT (t.x_BARRED H1) rfl rfl ?_
    have := k H1 s1
    rw [show true = !inV (.str x) (barred.map V.str) from by rw [inV_no hn] <;> rfl] at this
    exact this
theorem sc_is_word : FnScope ["thing"] ["thing"] (defScope s_is_word) := ⟨rfl, rfl, rfl, by decide +kernel, rfl, by decide +kernel, by decide +kernel⟩
theorem ok_is_word (t : T K mg) : C8.Cal P w K mg base 2 "is_word" (spT fun vs H => ∃ x : Str, vs = [.str x] ∧ WordOk x) [] := by
  have c_is_small := ok_is_small (P := P) (w := w) (base := base) t
  refine cal t.f_is_word t.g_is_word sc_is_word (fun _ _ _ _ _ _ us hl => match us, hl with | [_], _ => rfl) (fun vs H Q E h => ?_) fun cdv A outer s H vs Q E hr h => ?_
  · obtain ⟨⟨x, rfl, _⟩, _⟩ := h
    rfl
  · obtain ⟨⟨x, rfl, hs, hn⟩, k⟩ := h
    refine ⟨_, (pss_one (ps_ret (pe_and (C8.pe_c c_is_small hr (by decide) (by rfl) (pa_cons (L2.pv 0) (pa_cons (C8.pe_gc (by rfl) t.i_MOST_WORD) pa_nil))) (pe_one (pe_cmpR (op_notIn' (K := K) rfl) (L2.pv 0) (C8.pe_gc (by rfl) t.t_LEFT_OUT) (by rfl)))))), ?_⟩
    walk_at "go"
    refine ⟨⟨x, 12, rfl, hs, by decide⟩, fun H1 s1 => ?_⟩
    walk_at "go"
    refine r_inT (t.x_LEFT_OUT H1) rfl rfl ?_
    have := k H1 s1
    rw [show true = !inV (.str x) (leftOut.map V.str) from by rw [inV_no hn] <;> rfl] at this
    exact this
theorem sc_is_from : FnScope ["thing", "low", "high"] ["thing", "low", "high"] (defScope s_is_from) := ⟨rfl, rfl, rfl, by decide +kernel, rfl, by decide +kernel, by decide +kernel⟩
theorem ok_is_from (t : T K mg) : C8.Cal P w K mg base 1 "is_from" (spT fun vs H => ∃ x a b : Int, vs = [.int x, .int a, .int b] ∧ a ≤ x ∧ x ≤ b) [] := by
  refine cal t.f_is_from t.g_is_from sc_is_from (fun _ _ _ _ _ _ us hl => match us, hl with | [_, _, _], _ => rfl) (fun vs H Q E h => ?_) fun cdv A outer s H vs Q E hr h => ?_
  · obtain ⟨⟨x, a, b, rfl, _⟩, _⟩ := h
    rfl
  · obtain ⟨⟨x, a, b, rfl, h1, h2⟩, k⟩ := h
    refine ⟨_, (pss_one (ps_ret (pe_and (pe_callB (cr_isi (K := K) rfl) (by rfl) t.b_isinstance (by decide +kernel) (pa_cons (L2.pv 0) (pa_cons (pe_bltn (v := .ty "int") (u := .type "int") (by rfl) t.b_int (by decide +kernel) rfl) pa_nil))) (pe_and (pe_not (pe_callB (cr_isi (K := K) rfl) (by rfl) t.b_isinstance (by decide +kernel) (pa_cons (L2.pv 0) (pa_cons (pe_bltn (v := .ty "bool") (u := .type "bool") (by rfl) t.b_bool (by decide +kernel) rfl) pa_nil)))) (pe_one (pe_chain op_le op_le (L2.pv 1) (L2.pv 0) (L2.pv 2))))))), ?_⟩
    walk_at "go"
    refine r_isII ?_
    walk_at "go"
    refine r_isIB ?_
    walk_at "go"
    rw [decide_eq_true h1]
    walk_at "go"
    rw [decide_eq_true h2]
    exact k H (Same.refl H)
/-- some things, no two alike -/
def Apart (K : PySem.W.Frag) (H : Hp) (a : Addr) : Prop := (∃ ds, Dp K H (.ref a) (.list ds) ∧ SeqAt.shaped (.list ds) = true ∧ ds.length ≤ 100 ∧ ∀ (i j : Nat) x y, j < i → ds[i]? = some x → ds[j]? = some y → PyData.eqv y x = false) ∨
  ∃ xs : List Str, SqT K H a (xs.map V.str) ∧ xs.Nodup ∧ xs.length ≤ 100
theorem lay_all {ds : List PyData} (h : PyData.canLayAll0 ds = true) : ∀ d ∈ ds, d.canLay0 = true := by
  induction ds with
  | nil => intro d hd; cases hd
  | cons x r ih =>
    intro d hd
    have h2 := Bool.and_eq_true_iff.mp (show (x.canLay0 && PyData.canLayAll0 r) = true from by simpa [PyData.canLayAll0] using h)
    rcases List.mem_cons.mp hd with e | e
    · rw [e]; exact h2.1
    · exact ih h2.2 d e
theorem all_lay {ds : List PyData} (h : ∀ d ∈ ds, d.canLay0 = true) : PyData.canLayAll0 ds = true := by
  induction ds with
  | nil => simp [PyData.canLayAll0]
  | cons x r ih =>
    have := ih fun d hd => h d (List.mem_cons_of_mem _ hd)
    have h1 := h x (List.mem_cons_self ..)
    simp [PyData.canLayAll0, this, h1]
theorem depth_le {ds : List PyData} {d : PyData} (h : d ∈ ds) : d.depth ≤ PyData.depthAll ds := by
  induction ds with
  | nil => cases h
  | cons x r ih =>
    have e : PyData.depthAll (x :: r) = max x.depth (PyData.depthAll r) := by simp [PyData.depthAll]
    rcases List.mem_cons.mp h with z | z
    · subst z; omega
    · have := ih z; omega
theorem depth_all {ds : List PyData} {n : Nat} (h : ∀ d ∈ ds, d.depth ≤ n) : PyData.depthAll ds ≤ n := by
  induction ds with
  | nil => simp [PyData.depthAll]
  | cons x r ih =>
    have e : PyData.depthAll (x :: r) = max x.depth (PyData.depthAll r) := by simp [PyData.depthAll]
    have h1 := h x (List.mem_cons_self ..)
    have := ih fun d hd => h d (List.mem_cons_of_mem _ hd)
    omega
theorem shaped_list {ds : List PyData} : SeqAt.shaped (.list ds) = true ↔ (∀ d ∈ ds, d.canLay0 = true) ∧ PyData.depthAll ds + 1 ≤ 64 := by
  unfold SeqAt.shaped
  rw [Bool.and_eq_true, show PyData.canLay0 (.list ds) = PyData.canLayAll0 ds from by simp [PyData.canLay0], show PyData.depth (.list ds) = PyData.depthAll ds + 1 from by simp [PyData.depth]]
  exact ⟨fun ⟨a, b⟩ => ⟨lay_all a, of_decide_eq_true b⟩, fun ⟨a, b⟩ => ⟨all_lay a, decide_eq_true b⟩⟩
theorem shaped_sub {ds es : List PyData} (h : SeqAt.shaped (.list ds) = true) (hs : ∀ d ∈ es, d ∈ ds) : SeqAt.shaped (.list es) = true := by
  obtain ⟨h1, h2⟩ := shaped_list.mp h
  exact shaped_list.mpr ⟨fun d hd => h1 d (hs d hd), by have := depth_all fun d hd => depth_le (hs d hd); omega⟩
theorem shaped_mem {ds : List PyData} {d : PyData} (h : SeqAt.shaped (.list ds) = true) (hs : d ∈ ds) : SeqAt.shaped d = true := by
  obtain ⟨h1, h2⟩ := shaped_list.mp h
  have := depth_le hs
  simp only [SeqAt.shaped, Bool.and_eq_true, decide_eq_true_iff]
  exact ⟨h1 d hs, by omega⟩
theorem dpa_take {H : Hp} : ∀ {vs : List V} {ds : List PyData} (n : Nat), DpAll K H vs ds → DpAll K H (vs.take n) (ds.take n)
  | _, _, 0, _ => .nil
  | _, _, _ + 1, .nil => .nil
  | _, _, n + 1, .cons h a => .cons h (dpa_take n a)
theorem any_no {ds : List PyData} {x : PyData} {i : Nat} (hx : ds[i]? = some x) (h : ∀ (i j : Nat) x y, j < i → ds[i]? = some x → ds[j]? = some y → PyData.eqv y x = false) : ((ds.take i).any fun z => PyData.eqv z x) = false := by
  refine List.any_eq_false.mpr fun y hy => ?_
  obtain ⟨j, hj, e⟩ := List.mem_iff_getElem.mp hy
  have hji : j < i := by
    rw [List.length_take] at hj
    omega
  rw [h i j x y hji hx (by rw [List.getElem_take] at e; rw [← e, List.getElem?_eq_getElem (by rw [List.length_take] at hj; omega)])]
  decide
theorem nodup_no {xs : List Str} {x : Str} {i : Nat} (hn : xs.Nodup) (hx : xs[i]? = some x) : x ∉ xs.take i := fun hm => by
  obtain ⟨j, hj, e⟩ := List.mem_iff_getElem.mp hm
  have hj2 : j < i ∧ j < xs.length := by
    rw [List.length_take] at hj
    omega
  rw [List.getElem_take] at e
  have := nodup_ix hn (i := i) (j := j) hx (by rw [← e, List.getElem?_eq_getElem hj2.2])
  omega
theorem sc_are_unlike : FnScope ["some", "at", "one"] ["some"] (defScope s_are_unlike) := ⟨rfl, rfl, rfl, by decide +kernel, rfl, by decide +kernel, by decide +kernel⟩
theorem ok_are_unlike (t : T K mg) : C8.Cal P w K mg base 1 "are_unlike" (spT fun vs H => ∃ a, vs = [.ref a] ∧ Apart K H a) [] := by
  refine cal t.f_are_unlike t.g_are_unlike sc_are_unlike (fun _ _ _ _ _ _ us hl => match us, hl with | [_], _ => rfl) (fun vs H Q E h => ?_) fun cdv A outer s H vs Q E hr h => ?_
  · obtain ⟨⟨a, rfl, _⟩, _⟩ := h
    rfl
  · obtain ⟨⟨a, rfl, ha⟩, k⟩ := h
    refine ⟨_, (pss_cons (ps_for PassesOwn.never (by rfl) (pi_or (pi_enum (by rfl) t.b_enumerate (pa_cons (L2.pv 0) pa_nil)) (pi_enumT (by rfl) t.b_enumerate (pa_cons (L2.pv 0) pa_nil))) (pg_tup' (K := K) (n := 2) rfl (by rfl) (pgs_cons (pg_name (i := 1) sc_are_unlike.nd rfl (Or.inl rfl)) (pgs_cons (pg_name (i := 2) sc_are_unlike.nd rfl (Or.inl rfl)) pgs_nil))) (pss_one (ps_if (pt_cmpR (OpR.or (op_inD' (K := K) rfl (u65 hr)) (op_in' (K := K) rfl)) (L2.pv 2) (pe_slice (SlR.or (sl_list' (K := K) rfl) (sl_tupA' (K := K) rfl)) (L2.pv 0) po_none (po_some (L2.pv 1))) (by rfl)) (pss_one (ps_ret pe_bl)) pss_nil)))
      (pss_one (ps_ret pe_bl))), ?_⟩
    walk_at "go"
    rcases ha with ⟨ds, hd, hsh, hl, hu⟩ | ⟨xs, hs, hn, hl⟩
    · obtain ⟨a', ws, e, hw, hdw⟩ := dp_list hd
      cases e
      refine .inl ⟨_, rfl, a, ws, rfl, hw, ?_⟩
      have hwl := dpa_len hdw
      refine forW walk_enum (fun i σ H2 => (∃ o1 o2, σ = [some (.ref a), o1, o2]) ∧ Same H H2) ⟨⟨none, none, rfl⟩, Same.refl H⟩ (fun i σ H2 _ ⟨_, s⟩ => s.seq hw) ?_ ?_
      · rintro i v σ H2 H3 hi ⟨⟨o1, o2, rfl⟩, s⟩ ⟨T, x, y, rfl, nT, rfl, e1, e2⟩
        cases e1
        obtain ⟨d, hd1, hd2⟩ := dpa_get hdw e2
        have s3 := s.trans (same_new (o := .tup [.int (i : Nat), y]) nT)
        refine x_gtup (.of upd_same) rfl ?_
        walk_at "go"
        refine .inl (r_slL (s3.seq hw) fun p H4 np s4 h4 => ?_)
        rw [cut_to] at h4
        refine .inl ⟨d, ds.take i, dp_mono (s3.trans s4) hd2, .lst (.of h4) (dpAll_mono (s3.trans s4) (dpa_take i hdw)), shaped_mem hsh (List.mem_of_getElem? hd1), shaped_sub hsh fun d hd => List.mem_of_mem_take hd, ?_⟩
        rw [any_no hd1 hu]
        walk_at "go"
        exact ⟨⟨_, _, rfl⟩, s3.trans s4⟩
      · rintro σ H2 ⟨⟨o1, o2, rfl⟩, s⟩
        walk_at "go"
        exact k H2 s
    · refine .inr ⟨_, rfl, a, _, rfl, hs, ?_⟩
      refine forW walk_enumT (fun i σ H2 => (∃ o1 o2, σ = [some (.ref a), o1, o2]) ∧ Same H H2) ⟨⟨none, none, rfl⟩, Same.refl H⟩ (fun i σ H2 _ ⟨_, s⟩ => same_sqt s hs) ?_ ?_
      · rintro i v σ H2 H3 hi ⟨⟨o1, o2, rfl⟩, s⟩ ⟨T, x, y, rfl, nT, rfl, e1, e2⟩
        cases e1
        obtain ⟨z, hz, rfl⟩ := map_get e2
        have s3 := s.trans (same_new (o := .tup [.int (i : Nat), .str z]) nT)
        refine x_gtup (.of upd_same) rfl ?_
        walk_at "go"
        refine .inr (r_slT (same_sqt s3 hs) fun p H4 s4 h4 => ?_)
        rw [cut_to, ← List.map_take] at h4
        refine .inr (r_inT h4 rfl (flat_strs _) ?_)
        rw [inV_no (nodup_no hn hz)]
        walk_at "go"
        exact ⟨⟨_, _, rfl⟩, s3.trans s4⟩
      · rintro σ H2 ⟨⟨o1, o2, rfl⟩, s⟩
        walk_at "go"
        exact k H2 s
theorem sc_are_words : FnScope ["thing", "word"] ["thing"] (defScope s_are_words) := ⟨rfl, rfl, rfl, by decide +kernel, rfl, by decide +kernel, by decide +kernel⟩
theorem ok_are_words (t : T K mg) : C8.Cal P w K mg base 3 "are_words" (spT fun vs H => ∃ (a : Addr) (xs : List Str), vs = [.ref a] ∧ SqT K H a (xs.map V.str) ∧ xs.Nodup ∧ 1 ≤ xs.length ∧ xs.length ≤ 4 ∧ ∀ x ∈ xs, WordOk x) [] := by
  have c_is_word := ok_is_word (P := P) (w := w) (base := base) t
  have c_are_unlike := ok_are_unlike (P := P) (w := w) (base := base) t
  refine cal t.f_are_words t.g_are_words sc_are_words (fun _ _ _ _ _ _ us hl => match us, hl with | [_], _ => rfl) (fun vs H Q E h => ?_) fun cdv A outer s H vs Q E hr h => ?_
  · obtain ⟨⟨a, xs, rfl, _⟩, _⟩ := h
    rfl
  · obtain ⟨⟨a, xs, rfl, ha, hn, h1, h4, hw⟩, k⟩ := h
    refine ⟨_, (pss_cons (ps_if (PW.pt (pw_or (pt_not (pt_val (pe_callB (cr_isi (K := K) rfl) (by rfl) t.b_isinstance (by decide +kernel) (pa_cons (L2.pv 0) (pa_cons (pe_bltn (v := .ty "tuple") (u := .type "tuple") (by rfl) t.b_tuple (by decide +kernel) rfl) pa_nil))))) (pw_or1 (pt_not (pt_chain op_le op_le pe_int (pe_callB (cr_len (K := K) rfl) (by rfl) t.b_len (by decide +kernel) (pa_cons (L2.pv 0) pa_nil)) (C8.pe_gc (by rfl) t.i_MOST_WORDS)))))) (pss_one (ps_ret pe_bl)) pss_nil)
      (pss_one (ps_ret (pe_and (pe_callB (cr_all' (K := K) rfl (by rfl)) (by rfl) t.b_all (by decide +kernel) (pa_cons (pe_lc (own := [("word", 1)]) (by rfl) sc_are_words.nd (pi_tup' (K := K) rfl (L2.pv 0)) (blkOk_by (own := [("word", 1)]) (N := ["thing", "word"]) (sc := defScope s_are_words) (by decide +kernel)) (fun _ _ _ _ _ => (pg_name (i := 1) sc_are_words.nd rfl (Or.inl rfl))) (fun _ _ _ _ _ => pts_nil) (fun _ _ _ _ _ => (C8.pe_c c_is_word hr (by decide) (by rfl) (pa_cons (L2.pv 1) pa_nil)))) pa_nil)) (pe_one (C8.pe_c c_are_unlike hr (by decide) (by rfl) (pa_cons (L2.pv 0) pa_nil))))))), ?_⟩
    walk_at "go"
    refine r_isTT ha ?_
    walk_at "go"
    refine r_lenT ha ?_
    walk_at "go"
    rw [List.length_map, decide_eq_true (show (1 : Int) ≤ (xs.length : Int) by omega)]
    walk_at "go"
    rw [decide_eq_true (show (xs.length : Int) ≤ (4 : Int) by omega)]
    walk_at "go"
    refine sqTK ha ?_
    refine lcT (fun ys i H' => ys = List.replicate i (.bl true)) ha rfl (fun _ _ _ => rfl) ?_ ?_
    · intro D i v ys H2 m f hi
      obtain ⟨x, hx, rfl⟩ := map_get hi
      have hlt := get_lt hx
      walk_at "go"
      refine ⟨⟨x, rfl, hw x (List.mem_of_getElem? hx)⟩, fun H3 s3 => ?_⟩
      refine apK (m.grow s3) (by rw [f, List.length_replicate]; omega) ?_
      rw [f]
      exact rep_snoc i
    · intro D H2 ys m f
      rw [f] at m
      walk_at "go"
      refine r_allT m.at_ ?_
      walk_at "go"
      exact ⟨⟨a, rfl, .inr ⟨xs, same_sqt m.same ha, hn, by omega⟩⟩, fun H3 s3 => k H3 (m.same.trans s3)⟩
end
end Tw
set_option maxHeartbeats 4000000
/-! A good world is well made. -/
namespace Tw
open PySem PySem.Spec L2
local macro_rules | `(tactic| walk_at "rd1") => `(tactic| first
  | with_reducible refine x_seq ?_
  | ((with_reducible refine x_var (v := ?vv) ?hh ?_); case hh => exact rfl)
  | with_reducible refine x_c ?_
  | with_reducible refine x_op ?_
  | with_reducible refine x_fld ?_
  | with_reducible refine x_call ?_
  | with_reducible refine x_meth ?_
  | with_reducible refine x_make ?_
  | with_reducible refine x_cb ?_
  | with_reducible refine x_tup ?_
  | with_reducible refine x_lst ?_
  | with_reducible refine x_nil ?_
  | with_reducible refine x_cons ?_
  | with_reducible refine x_asg ?_
  | with_reducible refine x_name ?_
  | with_reducible refine x_ret ?_
  | with_reducible refine x_retN ?_
  | with_reducible refine x_drop ?_
  | with_reducible refine x_ifS ?_
  | with_reducible refine x_if ?_
  | with_reducible refine x_andV ?_
  | with_reducible refine x_orV ?_
  | with_reducible refine x_notV ?_
  | with_reducible refine x_test ?_
  | with_reducible refine x_tB ?_
  | with_reducible refine x_and ?_
  | with_reducible refine x_or ?_
  | with_reducible refine x_not ?_
  | with_reducible refine x_yes ?_
  | with_reducible refine x_next ?_
  | with_reducible refine x_sfld ?_
  | with_reducible refine blK ?_
  | with_reducible refine r_I0 ?_
  | with_reducible refine r_isN ?_
  | with_reducible refine r_notN ?_
  | ((with_reducible refine r_eq ?hh ?_); case hh => exact rfl)
  | ((with_reducible refine r_ne ?hh ?_); case hh => exact rfl)
  | with_reducible refine x_gnil ?_
  | with_reducible refine x_gcons ?_)
local macro_rules | `(tactic| walk_at "rd2") => `(tactic| first
  | walk_at "rd1"
  | with_reducible refine x_lc ?_
  | with_reducible refine x_for ?_
  | with_reducible refine x_itup ?_
  | with_reducible refine x_ilist ?_
  | with_reducible refine x_rng1 ?_
  | with_reducible refine x_bm ?_
  | with_reducible refine x_chain ?_
  | with_reducible refine x_istr ?_
  | with_reducible refine strK ?_
  | with_reducible refine x_sl ?_
  | with_reducible refine x_part ?_
  | with_reducible refine x_noPart ?_
  | with_reducible refine poK ?_
  | ((with_reducible refine ltK ?hh ?_); case hh => exact rfl)
  | ((with_reducible refine ltKx ?hh ?_); case hh => exact rfl)
  | with_reducible refine x_dput ?_
  | with_reducible refine x_dget ?_
  | with_reducible refine iteK_t ?_
  | with_reducible refine iteK_nf ?_
  | with_reducible refine iteK_nt ?_
  | with_reducible refine iteK_f ?_)
local macro_rules | `(tactic| walk_at "go") => `(tactic| repeat (walk_at "rd2"))
local macro_rules | `(tactic| walk_at "rd") => `(tactic| repeat (walk_at "rd1"))
local macro_rules | `(tactic| walk_at "at") => `(tactic| repeat (first | assumption | refine same_at' (by assumption) ?_))
local macro_rules | `(tactic| walk_at "sm") => `(tactic| repeat (first | exact Same.refl _ | assumption | refine Same.trans ?_ (by assumption)))
local macro_rules | `(tactic| walk_at "mk1") => `(tactic| first
  | with_reducible refine mk_new rfl fun _ _ _ _ _ _ => ?_
  | with_reducible refine lstK rfl fun _ _ _ _ _ => ?_
  | with_reducible refine tupK rfl fun _ _ _ _ _ => ?_
  | with_reducible refine mk_rule4 (SqL.of (by walk_at "at")) (SqL.of (by walk_at "at")) fun _ _ _ _ => ?_
  | with_reducible refine mk_rule (SqL.of (by walk_at "at")) (SqL.of (by walk_at "at")) fun _ _ _ _ => ?_
  | with_reducible refine c_refusal (SqL.of (by walk_at "at")) fun _ _ _ _ => ?_)
local macro_rules | `(tactic| walk_at "mk") => `(tactic| repeat (first | walk_at "rd2" | walk_at "mk1"))
local macro_rules | `(tactic| walk_at "ar1") => `(tactic| ((with_reducible refine r_I ?hh ?_); case hh => first | exact (show (0 : Int) < _ from by decide +kernel) | exact And.intro (by decide +kernel) (by decide +kernel) | exact Or.inr (And.intro (by decide +kernel) (by decide +kernel)) | exact Or.inl (And.intro (by decide +kernel) (by decide +kernel)) | exact And.intro (by decide +kernel) (And.intro (by decide +kernel) (by decide +kernel))))
local macro_rules | `(tactic| walk_at "ar") => `(tactic| repeat (first | walk_at "rd2" | walk_at "ar1"))

section
variable {P : Program} {w : World} {K : PySem.W.Frag} {mg : Str → Option Value} {base : Heap}
theorem pe_nev {X : Cx} {e : Expr} : PE X e (fun _ _ _ => False) := ⟨fun _ _ _ _ _ _ h => h.elim⟩
def endsIn (W : Wd) : Nat → Th → Bool
  | 0, h => decide (h.kind = "room")
  | n + 1, h => decide (h.kind = "room") || (match h.start with
    | some s => (match W.find s with
      | some h2 => endsIn W n h2
      | none => false)
    | none => false)
def kinds : List Str := ["room", "plain", "fixed", "box", "lamp", "you"]
def called : List Str := vbs.map Vb.name
structure ThOk (h : Th) : Prop where
  nm : NameOk h.name
  kd : h.kind ∈ kinds
  wn : h.words.Nodup
  w1 : 1 ≤ h.words.length
  w4 : h.words.length ≤ 4
  ww : ∀ x ∈ h.words, WordOk x
def StartOk (W : Wd) (h : Th) : Prop := (h.kind = "room" ∧ h.start = none) ∨ (h.kind ≠ "room" ∧ ∃ s g, h.start = some s ∧ W.find s = some g ∧ g.holds = true ∧ (h.kind ≠ "you" ∨ g.kind = "room"))
structure GoodW (W : Wd) : Prop where
  r1 : 1 ≤ (W.kind "room").length
  r5 : (W.kind "room").length ≤ 5
  y1 : (W.kind "you").length = 1
  p7 : W.plains.length ≤ 7
  m4 : W.marks.length ≤ 4
  th : ∀ h ∈ W.things, ThOk h
  nd : (W.names ++ W.marks.map M3.name).Nodup
  st : ∀ h ∈ W.things, StartOk W h
  er : ∀ h ∈ W.things, endsIn W W.things.length h = true
  wd : ∀ h ∈ W.things, ∀ o ∈ W.things, h.plain = true → o.plain = true → o.name ≠ h.name → ∃ x ∈ h.words, x ∉ o.words
  mks : ∀ m ∈ W.marks, NameOk m.name ∧ 1 ≤ m.most ∧ m.most ≤ 3 ∧ 0 ≤ m.start ∧ m.start ≤ m.most
  dn : W.dark.Nodup
  dk : ∀ d ∈ W.dark, d ∈ W.kind "room"
  wy : ∀ y ∈ W.ways, y.room ∈ W.kind "room" ∧ y.goal ∈ W.kind "room" ∧ WordOk y.word ∧ y.word ∉ called ∧ y.word ∉ (["undo", "restart"] : List Str)
  wn : ∀ (i j : Nat) x y, j < i → W.ways[i]? = some x → W.ways[j]? = some y → ¬ (y.room = x.room ∧ y.word = x.word)
  tw : ∀ h ∈ W.things, h.plain = true → ∀ x ∈ h.words, x ∉ W.ways.map Wy.word ∧ x ≠ "in" ∧ x ∉ called
abbrev WOk (K : PySem.W.Frag) (vs : List V) (H : Hp) : Prop := ∃ v W, vs = [v] ∧ WorldAt K H v W ∧ GoodW W
theorem wok1 {sp : Prop} {vs : List V} {H : Hp} (h : WOk K vs H ∧ sp) : vs.length = ["world"].length := by
  obtain ⟨⟨v, W, rfl, _⟩, _⟩ := h
  rfl
theorem sc_sizes_well : FnScope ["world"] ["world"] (defScope s_sizes_well) := ⟨rfl, rfl, rfl, by decide +kernel, rfl, by decide +kernel, by decide +kernel⟩
theorem ok_sizes_well (t : T K mg) : C8.Cal P w K mg base 3 "sizes_well" (spT (WOk K)) [] := by
  have c_k := ok_of_kind (P := P) (w := w) (base := base) t
  have c_p := ok_plain_names (P := P) (w := w) (base := base) t
  refine cal t.f_sizes_well t.g_sizes_well sc_sizes_well (fun _ _ _ _ _ _ us hl => match us, hl with | [_], _ => rfl) (fun vs H Q E h => wok1 h) fun cdv A outer s H vs Q E hr h => ?_
  obtain ⟨⟨v, W, rfl, hW, G⟩, k⟩ := h
  have hz := world_sizes hW
  refine ⟨_, (pss_cons (ps_if (PW.pt (pw_or (pt_not (pt_chain op_le op_le pe_int (pe_callB (cr_len (K := K) rfl) (by rfl) t.b_len (by decide +kernel) (pa_cons (C8.pe_mt c_k hr (by decide) (L2.pv 0) (pa_cons pe_str pa_nil)) pa_nil)) (C8.pe_gc (by rfl) t.i_MOST_ROOMS))) (pw_or1 (pt_cmpR op_ne (pe_callB (cr_len (K := K) rfl) (by rfl) t.b_len (by decide +kernel) (pa_cons (C8.pe_mt c_k hr (by decide) (L2.pv 0) (pa_cons pe_str pa_nil)) pa_nil)) pe_int (nomark _))))) (pss_one (ps_ret pe_bl)) pss_nil)
      (pss_cons (ps_if (PW.pt (pw_or (pt_cmpR op_gt (pe_callB (cr_len (K := K) rfl) (by rfl) t.b_len (by decide +kernel) (pa_cons (C8.pe_mt0 c_p hr (by decide) (L2.pv 0)) pa_nil)) (C8.pe_gc (by rfl) t.i_MOST_THINGS) (nomark _)) (pw_or (pt_cmpR op_gt (pe_callB (cr_len (K := K) rfl) (by rfl) t.b_len (by decide +kernel) (pa_cons (pe_fld' (K := K) rfl (L2.pv 0) rfl) pa_nil)) (C8.pe_gc (by rfl) t.i_MOST_MARKS) (nomark _)) (pw_or1 (pt_cmpR op_gt (pe_callB (cr_len (K := K) rfl) (by rfl) t.b_len (by decide +kernel) (pa_cons (pe_fld' (K := K) rfl (L2.pv 0) rfl) pa_nil)) (C8.pe_gc (by rfl) t.i_MOST_WAYS) (nomark _)))))) (pss_one (ps_ret pe_bl)) pss_nil)
      (pss_one (ps_ret (pe_and (pe_cmpR op_le (pe_callB (cr_len (K := K) rfl) (by rfl) t.b_len (by decide +kernel) (pa_cons (pe_fld' (K := K) rfl (L2.pv 0) rfl) pa_nil)) (C8.pe_gc (by rfl) t.i_MOST_VERBS) (nomark _)) (pe_one (pe_cmpR op_le (pe_callB (cr_len (K := K) rfl) (by rfl) t.b_len (by decide +kernel) (pa_cons (pe_fld' (K := K) rfl (L2.pv 0) rfl) pa_nil)) (C8.pe_gc (by rfl) t.i_MOST_RULES) (nomark _)))))))), ?_⟩
  walk_at "go"
  refine world_mt hW (Same.refl H) (by simp [wmeths]) ?_
  walk_at "go"
  refine ⟨v, W, "room", rfl, hW, fun p1 H1 n1 s1 h1 => ?_⟩
  walk_at "go"
  refine r_len (.of h1) ?_
  walk_at "go"
  have g1 := G.r1
  have g2 := G.r5
  rw [List.length_map, decide_eq_true (show (1 : Int) ≤ ((W.kind "room").length : Int) by omega)]
  walk_at "go"
  rw [decide_eq_true (show ((W.kind "room").length : Int) ≤ 5 by omega)]
  walk_at "go"
  refine world_mt hW s1 (by simp [wmeths]) ?_
  walk_at "go"
  refine ⟨v, W, "you", rfl, world_mono s1 hW, fun p2 H2 n2 s2 h2 => ?_⟩
  walk_at "go"
  refine r_len (.of h2) ?_
  walk_at "go"
  rw [List.length_map, G.y1]
  refine iteK_n (by decide) ?_
  walk_at "go"
  refine world_mt hW (s1.trans s2) (by simp [wmeths]) ?_
  walk_at "go"
  refine ⟨v, W, rfl, world_mono (s1.trans s2) hW, fun p3 H3 n3 s3 h3 => ?_⟩
  walk_at "go"
  refine r_len (.of h3) ?_
  walk_at "go"
  have g3 := G.p7
  have s123 := (s1.trans s2).trans s3
  rw [List.length_map, decide_eq_false (show ¬ (7 : Int) < (W.plains.length : Int) by omega)]
  walk_at "go"
  refine wf_marks t hW s123 fun a ts ha hp => ?_
  walk_at "go"
  refine r_len (.of (s123 _ _ ha)) ?_
  walk_at "go"
  have g4 := G.m4
  have l4 := hp.length
  rw [decide_eq_false (show ¬ (4 : Int) < (ts.length : Int) by omega)]
  walk_at "go"
  refine wf_ways t hW s123 fun a ts ha hp => ?_
  walk_at "go"
  refine r_len (.of (s123 _ _ ha)) ?_
  walk_at "go"
  have l5 := dpa_len hp
  rw [List.length_map] at l5
  rw [decide_eq_false (show ¬ (10 : Int) < (ts.length : Int) by omega)]
  walk_at "go"
  refine wf_verbs t hW s123 fun a ha => ?_
  walk_at "go"
  refine r_len (.of (s123 _ _ ha)) ?_
  walk_at "go"
  rw [decide_eq_true (show (([] : List V).length : Int) ≤ 6 by simp)]
  walk_at "go"
  refine wf_laid t hW s123 fun a ha => ?_
  walk_at "go"
  refine r_len (.of (s123 _ _ ha)) ?_
  walk_at "go"
  rw [decide_eq_true (show (([] : List V).length : Int) ≤ 20 by simp)]
  exact k _ s123
theorem sc_start_well : FnScope ["world", "thing", "holder"] ["world", "thing"] (defScope s_start_well) := ⟨rfl, rfl, rfl, by decide +kernel, rfl, by decide +kernel, by decide +kernel⟩
theorem ok_start_well (t : T K mg) : C8.Cal P w K mg base 2 "start_well" (spT fun vs H => ∃ v x W h, vs = [v, x] ∧ WorldAt K H v W ∧ ThingAt K H x h ∧ StartOk W h) [] := by
  have c_t := ok_thing_of (P := P) (w := w) (base := base) t
  have c_h := ok_can_hold (P := P) (w := w) (base := base) t
  refine cal t.f_start_well t.g_start_well sc_start_well (fun _ _ _ _ _ _ us hl => match us, hl with | [_, _], _ => rfl) (fun vs H Q E h => ?_) fun cdv A outer s H vs Q E hr h => ?_
  · obtain ⟨⟨v, x, W, h, rfl, _⟩, _⟩ := h
    rfl
  obtain ⟨⟨v, x, W, h, rfl, hW, hx, hs⟩, k⟩ := h
  refine ⟨_, (pss_cons (ps_if (pt_cmpR op_eq (pe_fld' (K := K) rfl (L2.pv 1) rfl) pe_str (nomark _)) (pss_one (ps_ret (pe_cmpR op_isN1 (pe_fld' (K := K) rfl (L2.pv 1) rfl) pe_non (nomark _)))) pss_nil)
      (pss_cons (ps_set (i := 2) sc_start_well.nd rfl (Or.inl rfl) (C8.pe_mt c_t hr (by decide) (L2.pv 0) (pa_cons (pe_fld' (K := K) rfl (L2.pv 1) rfl) pa_nil)))
      (pss_cons (ps_if (PW.pt (pw_or (pt_cmpR op_isN1 (L2.pv 2) pe_non (nomark _)) (pw_or1 (pt_not (pt_val (C8.pe_mt0 c_h hr (by decide) (L2.pv 2))))))) (pss_one (ps_ret pe_bl)) pss_nil)
      (pss_one (ps_ret (pe_or (pe_cmpR op_ne (pe_fld' (K := K) rfl (L2.pv 1) rfl) pe_str (nomark _)) (pe_one (pe_cmpR op_eq (pe_fld' (K := K) rfl (L2.pv 2) rfl) pe_str (nomark _))))))))), ?_⟩
  walk_at "go"
  refine thing_kind t hx (Same.refl H) ?_
  walk_at "go"
  rcases hs with ⟨e1, e2⟩ | ⟨e1, s, g, e2, e3, e4, e5⟩
  · refine iteK_y (decide_eq_true (by rw [e1])) ?_
    walk_at "go"
    refine thing_start t hx (Same.refl H) ?_
    walk_at "go"
    rw [e2]
    exact k _ (Same.refl H)
  · refine iteK_n (decide_eq_false fun z => e1 (by injection z)) ?_
    walk_at "go"
    refine world_mt hW (Same.refl H) (by simp [wmeths]) ?_
    walk_at "go"
    refine thing_start t hx (Same.refl H) ?_
    rw [e2]
    walk_at "go"
    refine ⟨v, W, s, rfl, hW, fun y H1 s1 gy => ?_⟩
    rw [e3] at gy
    have gy : ThingAt K H1 y g := gy
    walk_at "go"
    have ny : ¬ y = .non := fun z => by
      obtain ⟨p, _, _, e, _⟩ := gy
      rw [z] at e
      cases e
    refine iteK_n (decide_eq_false ny) ?_
    walk_at "go"
    refine thing_mt "can_hold" gy (Same.refl _) no_can_hold ?_
    walk_at "go"
    refine ⟨y, g, rfl, gy, fun H2 s2 => ?_⟩
    rw [e4]
    walk_at "go"
    refine thing_kind t hx (s1.trans s2) ?_
    walk_at "go"
    refine iteK (fun _ => k _ (s1.trans s2)) fun e => ?_
    walk_at "go"
    refine thing_kind t gy s2 ?_
    walk_at "go"
    have ey : h.kind = "you" := by
      have := of_decide_eq_true (by simpa using e : decide (V.str h.kind = V.str "you") = true)
      injection this
    rcases e5 with e5 | e5
    · exact absurd ey e5
    · rw [e5]
      exact k _ (s1.trans s2)
theorem sc_ends_in_room : FnScope ["world", "thing", "step"] ["world", "thing"] (defScope s_ends_in_room) := ⟨rfl, rfl, rfl, by decide +kernel, rfl, by decide +kernel, by decide +kernel⟩
theorem ok_ends_in_room (t : T K mg) : C8.Cal P w K mg base 2 "ends_in_room" (spT fun vs H => ∃ v x W h, vs = [v, x] ∧ WorldAt K H v W ∧ ThingAt K H x h ∧ endsIn W W.things.length h = true) [] := by
  have c_t := ok_thing_of (P := P) (w := w) (base := base) t
  refine cal t.f_ends_in_room t.g_ends_in_room sc_ends_in_room (fun _ _ _ _ _ _ us hl => match us, hl with | [_, _], _ => rfl) (fun vs H Q E h => ?_) fun cdv A outer s H vs Q E hr h => ?_
  · obtain ⟨⟨v, x, W, h, rfl, _⟩, _⟩ := h
    rfl
  obtain ⟨⟨v, x, W, h, rfl, hW, hx, he⟩, k⟩ := h
  refine ⟨_, (pss_cons (ps_for PassesOwn.never (by rfl) (pi_list' (K := K) rfl (pe_fld' (K := K) rfl (L2.pv 0) rfl)) (pg_name (i := 2) sc_ends_in_room.nd rfl (Or.inl rfl)) (pss_cons (ps_if (pt_cmpR op_eq (pe_fld' (K := K) rfl (L2.pv 1) rfl) pe_str (nomark _)) (pss_one (ps_ret pe_bl)) pss_nil)
      (pss_one (ps_set (i := 1) sc_ends_in_room.nd rfl (Or.inl rfl) (C8.pe_mt c_t hr (by decide) (L2.pv 0) (pa_cons (pe_fld' (K := K) rfl (L2.pv 1) rfl) pa_nil))))))
      (pss_one (ps_ret (pe_cmpR op_eq (pe_fld' (K := K) rfl (L2.pv 1) rfl) pe_str (nomark _))))), ?_⟩
  walk_at "go"
  refine wf_things t hW (Same.refl H) fun a ts ha hp => sqLK (SqL.of ha) ?_
  have hl := hp.length
  refine forL (fun i σ H2 => (∃ o y g, σ = [some v, some y, o] ∧ ThingAt K H2 y g ∧ endsIn W (W.things.length - i) g = true) ∧ Same H H2) ⟨⟨none, x, h, rfl, hx, he⟩, Same.refl H⟩ (fun i σ H2 _ ⟨_, s⟩ => s.seq (.of ha)) ?_ ?_
  · rintro i z σ H2 hi ⟨⟨o, y, g, rfl, gy, eg⟩, s⟩
    have hlt := get_lt hi
    obtain ⟨n, hn⟩ : ∃ n, W.things.length - i = n + 1 := ⟨W.things.length - i - 1, by omega⟩
    rw [hn] at eg
    walk_at "go"
    refine thing_kind t gy (Same.refl _) ?_
    walk_at "go"
    refine iteK (fun e => ?_) fun e => ?_
    · walk_at "go"
      exact k _ s
    · have e1 : ¬ g.kind = "room" := fun z => by
        have := of_decide_eq_false e
        exact this (congrArg V.str z)
      unfold endsIn at eg
      rw [decide_eq_false e1, Bool.false_or] at eg
      cases hs : g.start with
      | none => rw [hs] at eg; cases eg
      | some s0 =>
        rw [hs] at eg
        have eg : (match W.find s0 with | some h2 => endsIn W n h2 | none => false) = true := eg
        cases hf : W.find s0 with
        | none => rw [hf] at eg; cases eg
        | some g2 =>
          rw [hf] at eg
          walk_at "go"
          refine world_mt hW s (by simp [wmeths]) ?_
          walk_at "go"
          refine thing_start t gy (Same.refl _) ?_
          rw [hs]
          walk_at "go"
          refine ⟨v, W, s0, rfl, world_mono s hW, fun y2 H3 s3 gy2 => ?_⟩
          rw [hf] at gy2
          exact ⟨⟨_, y2, g2, rfl, gy2, by rw [show W.things.length - (i + 1) = n by omega]; exact eg⟩, s.trans s3⟩
  · rintro σ H2 ⟨⟨o, y, g, rfl, gy, eg⟩, s⟩
    rw [hl, Nat.sub_self] at eg
    walk_at "go"
    refine thing_kind t gy (Same.refl _) ?_
    walk_at "go"
    have eg : decide (g.kind = "room") = true := eg
    rw [of_decide_eq_true eg]
    exact k _ s
end
end Tw
set_option maxHeartbeats 4000000
/-! A good world is well made, further. -/
namespace Tw
open PySem PySem.Spec L2
local macro_rules | `(tactic| walk_at "rd1") => `(tactic| first
  | with_reducible refine x_seq ?_
  | ((with_reducible refine x_var (v := ?vv) ?hh ?_); case hh => exact rfl)
  | with_reducible refine x_c ?_
  | with_reducible refine x_op ?_
  | with_reducible refine x_fld ?_
  | with_reducible refine x_call ?_
  | with_reducible refine x_meth ?_
  | with_reducible refine x_make ?_
  | with_reducible refine x_cb ?_
  | with_reducible refine x_tup ?_
  | with_reducible refine x_lst ?_
  | with_reducible refine x_nil ?_
  | with_reducible refine x_cons ?_
  | with_reducible refine x_asg ?_
  | with_reducible refine x_name ?_
  | with_reducible refine x_ret ?_
  | with_reducible refine x_retN ?_
  | with_reducible refine x_drop ?_
  | with_reducible refine x_ifS ?_
  | with_reducible refine x_if ?_
  | with_reducible refine x_andV ?_
  | with_reducible refine x_orV ?_
  | with_reducible refine x_notV ?_
  | with_reducible refine x_test ?_
  | with_reducible refine x_tB ?_
  | with_reducible refine x_and ?_
  | with_reducible refine x_or ?_
  | with_reducible refine x_not ?_
  | with_reducible refine x_yes ?_
  | with_reducible refine x_next ?_
  | with_reducible refine x_sfld ?_
  | with_reducible refine blK ?_
  | with_reducible refine r_I0 ?_
  | with_reducible refine r_isN ?_
  | with_reducible refine r_notN ?_
  | ((with_reducible refine r_eq ?hh ?_); case hh => exact rfl)
  | ((with_reducible refine r_ne ?hh ?_); case hh => exact rfl)
  | with_reducible refine x_gnil ?_
  | with_reducible refine x_gcons ?_)
local macro_rules | `(tactic| walk_at "rd2") => `(tactic| first
  | walk_at "rd1"
  | with_reducible refine x_lc ?_
  | with_reducible refine x_for ?_
  | with_reducible refine x_itup ?_
  | with_reducible refine x_ilist ?_
  | with_reducible refine x_rng1 ?_
  | with_reducible refine x_bm ?_
  | with_reducible refine x_chain ?_
  | with_reducible refine x_istr ?_
  | with_reducible refine strK ?_
  | with_reducible refine x_sl ?_
  | with_reducible refine x_part ?_
  | with_reducible refine x_noPart ?_
  | with_reducible refine poK ?_
  | ((with_reducible refine ltK ?hh ?_); case hh => exact rfl)
  | ((with_reducible refine ltKx ?hh ?_); case hh => exact rfl)
  | with_reducible refine x_dput ?_
  | with_reducible refine x_dget ?_
  | with_reducible refine iteK_t ?_
  | with_reducible refine iteK_nf ?_
  | with_reducible refine iteK_nt ?_
  | with_reducible refine iteK_f ?_)
local macro_rules | `(tactic| walk_at "go") => `(tactic| repeat (walk_at "rd2"))
local macro_rules | `(tactic| walk_at "rd") => `(tactic| repeat (walk_at "rd1"))
local macro_rules | `(tactic| walk_at "at") => `(tactic| repeat (first | assumption | refine same_at' (by assumption) ?_))
local macro_rules | `(tactic| walk_at "sm") => `(tactic| repeat (first | exact Same.refl _ | assumption | refine Same.trans ?_ (by assumption)))
local macro_rules | `(tactic| walk_at "mk1") => `(tactic| first
  | with_reducible refine mk_new rfl fun _ _ _ _ _ _ => ?_
  | with_reducible refine lstK rfl fun _ _ _ _ _ => ?_
  | with_reducible refine tupK rfl fun _ _ _ _ _ => ?_
  | with_reducible refine mk_rule4 (SqL.of (by walk_at "at")) (SqL.of (by walk_at "at")) fun _ _ _ _ => ?_
  | with_reducible refine mk_rule (SqL.of (by walk_at "at")) (SqL.of (by walk_at "at")) fun _ _ _ _ => ?_
  | with_reducible refine c_refusal (SqL.of (by walk_at "at")) fun _ _ _ _ => ?_)
local macro_rules | `(tactic| walk_at "mk") => `(tactic| repeat (first | walk_at "rd2" | walk_at "mk1"))
local macro_rules | `(tactic| walk_at "ar1") => `(tactic| ((with_reducible refine r_I ?hh ?_); case hh => first | exact (show (0 : Int) < _ from by decide +kernel) | exact And.intro (by decide +kernel) (by decide +kernel) | exact Or.inr (And.intro (by decide +kernel) (by decide +kernel)) | exact Or.inl (And.intro (by decide +kernel) (by decide +kernel)) | exact And.intro (by decide +kernel) (And.intro (by decide +kernel) (by decide +kernel))))
local macro_rules | `(tactic| walk_at "ar") => `(tactic| repeat (first | walk_at "rd2" | walk_at "ar1"))

section
variable {P : Program} {w : World} {K : PySem.W.Frag} {mg : Str → Option Value} {base : Heap}
theorem r_niT {H : Hp} {Q : VK} {x : V} {p : Addr} {xs : List V} (h : SqT K H p xs) (hx : flatV x = true) (ha : xs.all flatV = true) (q : Q (.bl (!inV x xs)) H) : rIn K true x (.ref p) H Q := r_inT h hx ha q
theorem r_niL {H : Hp} {Q : VK} {x : V} {p : Addr} {xs : List V} (h : SqL K H p xs) (hx : flatV x = true) (ha : xs.all flatV = true) (q : Q (.bl (!inV x xs)) H) : rIn K true x (.ref p) H Q := r_inL h hx ha q
theorem r_isT {H : Hp} {Q : VK} {x : V} {p : Addr} {xs : List V} (h : SqT K H p xs) (hx : flatV x = true) (ha : xs.all flatV = true) (q : Q (.bl (inV x xs)) H) : rIn K false x (.ref p) H Q := r_inT h hx ha q
theorem r_isL {H : Hp} {Q : VK} {x : V} {p : Addr} {xs : List V} (h : SqL K H p xs) (hx : flatV x = true) (ha : xs.all flatV = true) (q : Q (.bl (inV x xs)) H) : rIn K false x (.ref p) H Q := r_inL h hx ha q
theorem dpa_strs {H : Hp} (xs : List Str) : DpAll K H (xs.map V.str) (xs.map PyData.str) := by
  induction xs with
  | nil => exact .nil
  | cons x r ih => exact .cons (.str x) ih
theorem eqv_str (x y : Str) : PyData.eqv (.str x) (.str y) = decide (x = y) := by
  by_cases e : x = y <;> simp [PyData.eqv, e]
theorem name_ok {x : Str} {n : Nat} (h : Small x n) : OkS x := by
  unfold OkS PyData.strOk
  rw [← Array.all_toList]
  refine List.all_eq_true.mpr fun c hc => ?_
  have h1 := h.2.2 c hc
  have h2 : ∀ c ∈ abc.cps.toList, (decide (c < 0x110000)) = true := by decide +kernel
  exact h2 c h1
theorem shaped_strs {xs : List Str} (h : ∀ x ∈ xs, OkS x) : SeqAt.shaped (.list (xs.map PyData.str)) = true := by
  refine shaped_list.mpr ⟨fun d hd => ?_, ?_⟩
  · obtain ⟨x, hx, rfl⟩ := List.mem_map.mp hd
    have := h x hx
    simpa [PyData.canLay0] using this
  · have := depth_all (ds := xs.map PyData.str) (n := 0) fun d hd => by
      obtain ⟨x, hx, rfl⟩ := List.mem_map.mp hd
      simp [PyData.depth]
    omega
theorem apart_strs {H : Hp} {a : Addr} {xs : List Str} (h : SqL K H a (xs.map V.str)) (hn : xs.Nodup) (hl : xs.length ≤ 100) (ho : ∀ x ∈ xs, OkS x) : Apart K H a := by
  refine .inl ⟨xs.map PyData.str, .lst h (dpa_strs xs), shaped_strs ho, by rw [List.length_map]; exact hl, fun i j x y hji hi hj => ?_⟩
  obtain ⟨x', hx, rfl⟩ := map_get hi
  obtain ⟨y', hy, rfl⟩ := map_get hj
  rw [eqv_str]
  refine decide_eq_false fun e => ?_
  subst e
  have := nodup_ix hn hx hy
  omega
theorem all_F (n : Nat) {H : Hp} {D : Addr} {H2 : Hp} {ys : List V} (m : Mk1 H D H2 ys) (f : ys = List.replicate n (.bl true)) : H2 D = some (.lst (List.replicate n (.bl true))) := by
  rw [← f]
  exact m.at_
theorem sc_things_well : FnScope ["world", "thing", "mark"] ["world"] (defScope s_things_well) := ⟨rfl, rfl, rfl, by decide +kernel, rfl, by decide +kernel, by decide +kernel⟩
theorem ok_things_well (t : T K mg) : C8.Cal P w K mg base 4 "things_well" (spT (WOk K)) [] := by
  have c_is_name := ok_is_name (P := P) (w := w) (base := base) t
  have c_are_words := ok_are_words (P := P) (w := w) (base := base) t
  have c_are_unlike := ok_are_unlike (P := P) (w := w) (base := base) t
  have c_start_well := ok_start_well (P := P) (w := w) (base := base) t
  have c_ends_in_room := ok_ends_in_room (P := P) (w := w) (base := base) t
  have c_n := ok_names (P := P) (w := w) (base := base) t
  refine cal t.f_things_well t.g_things_well sc_things_well (fun _ _ _ _ _ _ us hl => match us, hl with | [_], _ => rfl) (fun vs H Q E h => wok1 h) fun cdv A outer s H vs Q E hr h => ?_
  obtain ⟨⟨v, W, rfl, hW, G⟩, k⟩ := h
  have hz := world_sizes hW
  refine ⟨_, (pss_cons (ps_for PassesOwn.never (by rfl) (pi_list' (K := K) rfl (pe_fld' (K := K) rfl (L2.pv 0) rfl)) (pg_name (i := 1) sc_things_well.nd rfl (Or.inl rfl)) (pss_one (ps_if (PW.pt (pw_or (pt_not (pt_val (C8.pe_c c_is_name hr (by decide) (by rfl) (pa_cons (pe_fld' (K := K) rfl (L2.pv 1) rfl) pa_nil)))) (pw_or (pt_cmpR (op_notIn' (K := K) rfl) (pe_fld' (K := K) rfl (L2.pv 1) rfl) (C8.pe_gc (by rfl) t.t_KINDS) (by rfl)) (pw_or1 (pt_not (pt_val (C8.pe_c c_are_words hr (by decide) (by rfl) (pa_cons (pe_fld' (K := K) rfl (L2.pv 1) rfl) pa_nil)))))))) (pss_one (ps_ret pe_bl)) pss_nil)))
      (pss_cons (ps_if (pt_not (pt_val (C8.pe_c c_are_unlike hr (by decide) (by rfl) (pa_cons (pe_op op_cat (C8.pe_mt0 c_n hr (by decide) (L2.pv 0)) (pe_lc (own := [("mark", 2)]) (by rfl) sc_things_well.nd (pi_list' (K := K) rfl (pe_fld' (K := K) rfl (L2.pv 0) rfl)) (blkOk_by (own := [("mark", 2)]) (N := ["world", "thing", "mark"]) (sc := defScope s_things_well) (by decide +kernel)) (fun _ _ _ _ _ => (pg_name (i := 2) sc_things_well.nd rfl (Or.inl rfl))) (fun _ _ _ _ _ => pts_nil) (fun _ _ _ _ _ => (pe_fld' (K := K) rfl (L2.pv 2) rfl)))) pa_nil)))) (pss_one (ps_ret pe_bl)) pss_nil)
      (pss_cons (ps_if (pt_not (pt_val (pe_callB (cr_all' (K := K) rfl (by rfl)) (by rfl) t.b_all (by decide +kernel) (pa_cons (pe_lc (own := [("thing", 1)]) (by rfl) sc_things_well.nd (pi_list' (K := K) rfl (pe_fld' (K := K) rfl (L2.pv 0) rfl)) (blkOk_by (own := [("thing", 1)]) (N := ["world", "thing", "mark"]) (sc := defScope s_things_well) (by decide +kernel)) (fun _ _ _ _ _ => (pg_name (i := 1) sc_things_well.nd rfl (Or.inl rfl))) (fun _ _ _ _ _ => pts_nil) (fun _ _ _ _ _ => (C8.pe_c c_start_well hr (by decide) (by rfl) (pa_cons (L2.pv 0) (pa_cons (L2.pv 1) pa_nil))))) pa_nil)))) (pss_one (ps_ret pe_bl)) pss_nil)
      (pss_one (ps_ret (pe_callB (cr_all' (K := K) rfl (by rfl)) (by rfl) t.b_all (by decide +kernel) (pa_cons (pe_lc (own := [("thing", 1)]) (by rfl) sc_things_well.nd (pi_list' (K := K) rfl (pe_fld' (K := K) rfl (L2.pv 0) rfl)) (blkOk_by (own := [("thing", 1)]) (N := ["world", "thing", "mark"]) (sc := defScope s_things_well) (by decide +kernel)) (fun _ _ _ _ _ => (pg_name (i := 1) sc_things_well.nd rfl (Or.inl rfl))) (fun _ _ _ _ _ => pts_nil) (fun _ _ _ _ _ => (C8.pe_c c_ends_in_room hr (by decide) (by rfl) (pa_cons (L2.pv 0) (pa_cons (L2.pv 1) pa_nil))))) pa_nil))))))), ?_⟩
  walk_at "go"
  refine wf_things t hW (Same.refl H) fun a ts ha hp => sqLK (SqL.of ha) ?_
  have hl := hp.length
  refine forL (fun i σ H2 => (∃ o, σ = [some v, o, none]) ∧ Same H H2) ⟨⟨none, rfl⟩, Same.refl H⟩ (fun i σ H2 _ ⟨_, s⟩ => s.seq (.of ha)) ?_ ?_
  · rintro i z σ H2 hi ⟨⟨o, rfl⟩, s⟩
    obtain ⟨h, h1, h2⟩ := paired_get' hp hi
    have ok := G.th h (List.mem_of_getElem? h1)
    walk_at "go"
    refine thing_name t h2 s ?_
    walk_at "go"
    refine ⟨⟨h.name, rfl, ok.nm⟩, fun H3 s3 => ?_⟩
    walk_at "go"
    refine thing_kind t h2 (s.trans s3) ?_
    walk_at "go"
    refine r_niT (t.x_KINDS H3) rfl rfl ?_
    walk_at "go"
    rw [show inV (.str h.kind) [V.str "room", V.str "plain", V.str "fixed", V.str "box", V.str "lamp", V.str "you"] = true from inV_yes ok.kd]
    walk_at "go"
    refine thing_words t h2 (s.trans s3) fun q hq => ?_
    walk_at "go"
    refine ⟨⟨q, h.words, rfl, hq, ok.wn, ok.w1, ok.w4, ok.ww⟩, fun H4 s4 => ?_⟩
    walk_at "go"
    exact ⟨⟨_, rfl⟩, (s.trans s3).trans s4⟩
  · rintro σ H2 ⟨⟨o, rfl⟩, s⟩
    walk_at "go"
    refine world_mt hW s (by simp [wmeths]) ?_
    walk_at "go"
    refine ⟨v, W, rfl, world_mono s hW, fun p3 H3 n3 s3 h3 => ?_⟩
    walk_at "go"
    have s03 := s.trans s3
    refine wf_marks t hW s03 fun am ms ham hpm => sqLK (s03.seq (SqL.of ham)) ?_
    have hlm := hpm.length
    refine lcL (fun ys i H' => ys = ((W.marks.take i).map M3.name).map V.str) (s03.seq (SqL.of ham)) rfl (fun _ _ _ => rfl) ?_ ?_
    · intro D i x ys H4 m f hi
      obtain ⟨m3, h1, h2⟩ := paired_get' hpm hi
      have hlt := get_lt hi
      walk_at "go"
      refine mark_name t h2 (s03.trans m.same) ?_
      refine apK m (by rw [f]; simp; omega) ?_
      rw [f, take_succ' h1]
      simp
    · intro D H4 ys m f
      rw [List.take_of_length_le (by omega)] at f
      subst f
      refine r_cat (m.same _ _ h3) m.at_ (by simp [Wd.names]; omega) fun p5 H5 n5 s5 h5 => ?_
      rw [← List.map_append] at h5
      have s05 := s03.trans (m.same.trans s5)
      walk_at "go"
      refine ⟨⟨p5, rfl, apart_strs (.of h5) G.nd (by simp [Wd.names]; omega) fun x hx => ?_⟩, fun H6 s6 => ?_⟩
      · rcases List.mem_append.mp hx with hx | hx
        · obtain ⟨h, hh, rfl⟩ := List.mem_map.mp hx
          exact name_ok (G.th h hh).nm.1
        · obtain ⟨h, hh, rfl⟩ := List.mem_map.mp hx
          exact name_ok (G.mks h hh).1.1
      have s06 := s05.trans s6
      walk_at "go"
      refine wf_things t hW s06 fun a ts ha hp => sqLK (s06.seq (SqL.of ha)) ?_
      refine lcL (fun ys i H' => ys = List.replicate i (.bl true)) (s06.seq (SqL.of ha)) rfl (fun _ _ _ => rfl) ?_ ?_
      · intro D i x ys H7 m f hi
        obtain ⟨h, h1, h2⟩ := paired_get' hp hi
        have hlt := get_lt h1
        have s07 := s06.trans m.same
        walk_at "go"
        refine ⟨⟨v, x, W, h, rfl, world_mono s07 hW, thing_mono s07 h2, G.st h (List.mem_of_getElem? h1)⟩, fun H8 s8 => ?_⟩
        refine apK (m.grow s8) (by rw [f, List.length_replicate]; omega) ?_
        rw [f]
        exact rep_snoc i
      · intro D H7 ys m f
        have s07 := s06.trans m.same
        walk_at "go"
        refine r_allT (all_F _ m f) ?_
        walk_at "go"
        refine wf_things t hW s07 fun a ts ha hp => sqLK (s07.seq (SqL.of ha)) ?_
        refine lcL (fun ys i H' => ys = List.replicate i (.bl true)) (s07.seq (SqL.of ha)) rfl (fun _ _ _ => rfl) ?_ ?_
        · intro D i x ys H8 m f hi
          obtain ⟨h, h1, h2⟩ := paired_get' hp hi
          have hlt := get_lt h1
          have s08 := s07.trans m.same
          walk_at "go"
          refine ⟨⟨v, x, W, h, rfl, world_mono s08 hW, thing_mono s08 h2, G.er h (List.mem_of_getElem? h1)⟩, fun H9 s9 => ?_⟩
          refine apK (m.grow s9) (by rw [f, List.length_replicate]; omega) ?_
          rw [f]
          exact rep_snoc i
        · intro D H8 ys m f
          walk_at "go"
          exact r_allT (all_F _ m f) (k _ (s07.trans m.same))
theorem sc_has_all : FnScope ["words", "other", "word"] ["words", "other"] (defScope s_has_all) := ⟨rfl, rfl, rfl, by decide +kernel, rfl, by decide +kernel, by decide +kernel⟩
theorem ok_has_all (t : T K mg) : C8.Cal P w K mg base 1 "has_all" (fun vs H Q _ => ∃ (a b : Addr) (xs ys : List Str), vs = [V.ref a, V.ref b] ∧ SqT K H a (xs.map V.str) ∧ SqT K H b (ys.map V.str) ∧ xs.length ≤ 100 ∧ (∃ x ∈ xs, x ∉ ys) ∧ ∀ H', Same H H' → Q (.bl false) H') [] := by
  refine cal t.f_has_all t.g_has_all sc_has_all (fun _ _ _ _ _ _ us hl => match us, hl with | [_, _], _ => rfl) (fun vs H Q E h => ?_) fun cdv A outer s H vs Q E hr h => ?_
  · obtain ⟨a, b, xs, ys, rfl, _⟩ := h
    rfl
  obtain ⟨a, b, xs, ys, rfl, ha, hb, hl, ⟨x, hx, hxy⟩, k⟩ := h
  refine ⟨_, (pss_one (ps_ret (pe_callB (cr_all' (K := K) rfl (by rfl)) (by rfl) t.b_all (by decide +kernel) (pa_cons (pe_lc (own := [("word", 2)]) (by rfl) sc_has_all.nd (pi_tup' (K := K) rfl (L2.pv 0)) (blkOk_by (own := [("word", 2)]) (N := ["words", "other", "word"]) (sc := defScope s_has_all) (by decide +kernel)) (fun _ _ _ _ _ => (pg_name (i := 2) sc_has_all.nd rfl (Or.inl rfl))) (fun _ _ _ _ _ => pts_nil) (fun _ _ _ _ _ => (pe_cmpR (op_in' (K := K) rfl) (L2.pv 2) (L2.pv 1) (by rfl)))) pa_nil)))), ?_⟩
  walk_at "go"
  refine sqTK ha ?_
  refine lcT (fun zs i H' => zs = (((xs.take i).map fun x => inV (.str x) (ys.map V.str)).map V.bl)) ha rfl (fun _ _ _ => rfl) ?_ ?_
  · intro D i v zs H2 m f hi
    obtain ⟨z, hz, rfl⟩ := map_get hi
    have hlt := get_lt hz
    walk_at "go"
    refine r_inT (same_sqt m.same hb) rfl (flat_strs ys) ?_
    refine apK m (by rw [f]; simp; omega) ?_
    rw [f, take_succ' hz]
    simp
  · intro D H2 zs m f
    rw [List.length_map, List.take_of_length_le (Nat.le_refl _)] at f
    rw [f] at m
    walk_at "go"
    refine r_all (.of m.at_) ?_
    rw [show (xs.map fun x => inV (.str x) (ys.map V.str)).all id = false from by
      rw [List.all_map]
      refine List.all_eq_false.mpr ⟨x, hx, ?_⟩
      show ¬ inV (.str x) (ys.map V.str) = true
      rw [inV_no hxy]
      decide]
    exact k _ m.same
theorem sc_words_well : FnScope ["world", "thing", "plain", "other"] ["world"] (defScope s_words_well) := ⟨rfl, rfl, rfl, by decide +kernel, rfl, by decide +kernel, by decide +kernel⟩
theorem ok_words_well (t : T K mg) : C8.Cal P w K mg base 2 "words_well" (spT (WOk K)) [] := by
  have c_has_all := ok_has_all (P := P) (w := w) (base := base) t
  have c_pl := ok_is_plainly (P := P) (w := w) (base := base) t
  refine cal t.f_words_well t.g_words_well sc_words_well (fun _ _ _ _ _ _ us hl => match us, hl with | [_], _ => rfl) (fun vs H Q E h => wok1 h) fun cdv A outer s H vs Q E hr h => ?_
  obtain ⟨⟨v, W, rfl, hW, G⟩, k⟩ := h
  have hz := world_sizes hW
  refine ⟨_, (pss_cons (ps_setLc (i := 2) (own := [("thing", 1)]) (by rfl) sc_words_well.nd rfl rfl (sw_true rfl rfl rfl (by decide +kernel)) (pi_list' (K := K) rfl (pe_fld' (K := K) rfl (L2.pv 0) rfl)) (blkOk_by (own := [("thing", 1)]) (N := ["world", "thing", "plain", "other"]) (sc := defScope s_words_well) (by decide +kernel)) (fun _ _ _ _ _ => (pg_name (i := 1) sc_words_well.nd rfl (Or.inl rfl))) (fun _ _ _ _ _ => (pts_one (pt_val (C8.pe_mt0 c_pl hr (by decide) (L2.pv 1))))) (fun _ _ _ _ _ => (L2.pv 1)))
      (pss_cons (ps_for PassesOwn.never (by rfl) (pi_list' (K := K) rfl (L2.pv 2)) (pg_name (i := 1) sc_words_well.nd rfl (Or.inl rfl)) (pss_one (ps_for PassesOwn.never (by rfl) (pi_list' (K := K) rfl (L2.pv 2)) (pg_name (i := 3) sc_words_well.nd rfl (Or.inl rfl)) (pss_one (ps_if (PW.pt (pw_and (pt_cmpR op_ne (pe_fld' (K := K) rfl (L2.pv 3) rfl) (pe_fld' (K := K) rfl (L2.pv 1) rfl) (nomark _)) (pw_and1 (pt_val (C8.pe_c c_has_all hr (by decide) (by rfl) (pa_cons (pe_fld' (K := K) rfl (L2.pv 1) rfl) (pa_cons (pe_fld' (K := K) rfl (L2.pv 3) rfl) pa_nil))))))) (pss_one (ps_ret pe_bl)) pss_nil)))))
      (pss_one (ps_ret pe_bl)))), ?_⟩
  walk_at "go"
  refine wf_things t hW (Same.refl H) fun a ts ha hp => sqLK (SqL.of ha) ?_
  have hl := hp.length
  refine lcL (fun ys i H' => ys.length ≤ i ∧ ∀ y ∈ ys, ∃ h ∈ W.things, h.plain = true ∧ ThingAt K H' y h) (SqL.of ha) ⟨Nat.le_refl 0, fun y hy => by cases hy⟩ (fun _ _ _ => ⟨Nat.le_refl 0, fun y hy => by cases hy⟩) ?_ ?_
  · intro D i x ys H2 m f hi
    obtain ⟨h, h1, h2⟩ := paired_get' hp hi
    have hlt := get_lt hi
    walk_at "go"
    refine thing_mt "is_plainly" h2 m.same no_is_plainly ?_
    walk_at "go"
    refine ⟨x, h, rfl, thing_mono m.same h2, fun H3 s3 => ?_⟩
    walk_at "go"
    refine iteK (fun e => ?_) fun e => ?_
    · walk_at "go"
      refine apK (m.grow s3) (by omega) ⟨by rw [List.length_append]; exact Nat.succ_le_succ f.1, fun y hy => ?_⟩
      rcases List.mem_append.mp hy with hy | hy
      · obtain ⟨g, g1, g2, g3⟩ := f.2 y hy
        exact ⟨g, g1, g2, thing_mono (del_mono s3) g3⟩
      · rw [List.mem_singleton.mp hy]
        exact ⟨h, List.mem_of_getElem? h1, e, thing_mono (m.grow s3).sm h2⟩
    · exact skK (m.grow s3) ⟨by omega, fun y hy => by
        obtain ⟨g, g1, g2, g3⟩ := f.2 y hy
        exact ⟨g, g1, g2, thing_mono (del_mono s3) g3⟩⟩
  · intro D H2 ys m f
    walk_at "go"
    refine sqLK (SqL.of m.at_) ?_
    have hy : ∀ y ∈ ys, ∃ h ∈ W.things, h.plain = true ∧ ThingAt K H2 y h := fun y hy => by
      obtain ⟨g, g1, g2, g3⟩ := f.2 y hy
      exact ⟨g, g1, g2, thing_mono del_le g3⟩
    refine forL (fun i σ H3 => (∃ o1 o2, σ = [some v, o1, some (.ref D), o2]) ∧ Same H2 H3) ⟨⟨none, none, rfl⟩, Same.refl H2⟩ (fun i σ H2 _ ⟨_, s⟩ => s.seq (.of m.at_)) ?_ ?_
    · rintro i x σ H3 hi ⟨⟨o1, o2, rfl⟩, s3⟩
      obtain ⟨h, h1, h2, h3⟩ := hy x (List.mem_of_getElem? hi)
      walk_at "go"
      refine sqLK (s3.seq (SqL.of m.at_)) ?_
      refine forL (fun i σ H4 => (∃ o2, σ = [some v, some x, some (.ref D), o2]) ∧ Same H2 H4) ⟨⟨_, rfl⟩, s3⟩ (fun i σ H2 _ ⟨_, s⟩ => s.seq (.of m.at_)) ?_ ?_
      · rintro j y σ H4 hj ⟨⟨o2, rfl⟩, s4⟩
        obtain ⟨g, g1, g2, g3⟩ := hy y (List.mem_of_getElem? hj)
        walk_at "go"
        refine thing_name t g3 s4 ?_
        walk_at "go"
        refine thing_name t h3 s4 ?_
        walk_at "go"
        refine iteK (fun e => ?_) fun e => ?_
        · have ne : g.name ≠ h.name := fun z => by
            rw [z] at e
            simp at e
          obtain ⟨xw, xw1, xw2⟩ := G.wd h h1 g g1 h2 g2 ne
          walk_at "go"
          refine thing_words t h3 s4 fun q1 hq1 => ?_
          walk_at "go"
          refine thing_words t g3 s4 fun q2 hq2 => ?_
          walk_at "go"
          refine ⟨q1, q2, h.words, g.words, rfl, hq1, hq2, by have := (G.th h h1).w4; omega, ⟨xw, xw1, xw2⟩, fun H5 s5 => ?_⟩
          walk_at "go"
          exact ⟨⟨_, rfl⟩, s4.trans s5⟩
        · walk_at "go"
          exact ⟨⟨_, rfl⟩, s4⟩
      · rintro σ H4 ⟨⟨o2, rfl⟩, s4⟩
        exact ⟨⟨_, _, rfl⟩, s4⟩
    · rintro σ H3 ⟨⟨o1, o2, rfl⟩, s3⟩
      walk_at "go"
      exact k _ (m.same.trans s3)
theorem sc_marks_well : FnScope ["world", "mark"] ["world"] (defScope s_marks_well) := ⟨rfl, rfl, rfl, by decide +kernel, rfl, by decide +kernel, by decide +kernel⟩
theorem ok_marks_well (t : T K mg) : C8.Cal P w K mg base 3 "marks_well" (spT (WOk K)) [] := by
  have c_is_name := ok_is_name (P := P) (w := w) (base := base) t
  have c_is_from := ok_is_from (P := P) (w := w) (base := base) t
  refine cal t.f_marks_well t.g_marks_well sc_marks_well (fun _ _ _ _ _ _ us hl => match us, hl with | [_], _ => rfl) (fun vs H Q E h => wok1 h) fun cdv A outer s H vs Q E hr h => ?_
  obtain ⟨⟨v, W, rfl, hW, G⟩, k⟩ := h
  refine ⟨_, (pss_cons (ps_for PassesOwn.never (by rfl) (pi_list' (K := K) rfl (pe_fld' (K := K) rfl (L2.pv 0) rfl)) (pg_name (i := 1) sc_marks_well.nd rfl (Or.inl rfl)) (pss_one (ps_if (PW.pt (pw_or (pt_not (pt_val (C8.pe_c c_is_name hr (by decide) (by rfl) (pa_cons (pe_fld' (K := K) rfl (L2.pv 1) rfl) pa_nil)))) (pw_or (pt_not (pt_val (C8.pe_c c_is_from hr (by decide) (by rfl) (pa_cons (pe_fld' (K := K) rfl (L2.pv 1) rfl) (pa_cons pe_int (pa_cons (C8.pe_gc (by rfl) t.i_MOST_NUMBER) pa_nil)))))) (pw_or1 (pt_not (pt_val (C8.pe_c c_is_from hr (by decide) (by rfl) (pa_cons (pe_fld' (K := K) rfl (L2.pv 1) rfl) (pa_cons pe_int (pa_cons (pe_fld' (K := K) rfl (L2.pv 1) rfl) pa_nil)))))))))) (pss_one (ps_ret pe_bl)) pss_nil)))
      (pss_one (ps_ret pe_bl))), ?_⟩
  walk_at "go"
  refine wf_marks t hW (Same.refl H) fun a ts ha hp => sqLK (SqL.of ha) ?_
  refine forL (fun i σ H2 => (∃ o, σ = [some v, o]) ∧ Same H H2) ⟨⟨none, rfl⟩, Same.refl H⟩ (fun i σ H2 _ ⟨_, s⟩ => s.seq (.of ha)) ?_ ?_
  · rintro i z σ H2 hi ⟨⟨o, rfl⟩, s⟩
    obtain ⟨m, h1, h2⟩ := paired_get' hp hi
    obtain ⟨k1, k2, k3, k4, k5⟩ := G.mks m (List.mem_of_getElem? h1)
    walk_at "go"
    refine mark_name t h2 s ?_
    walk_at "go"
    refine ⟨⟨m.name, rfl, k1⟩, fun H3 s3 => ?_⟩
    walk_at "go"
    refine mark_most t h2 (s.trans s3) ?_
    walk_at "go"
    refine ⟨⟨m.most, 1, 3, rfl, k2, k3⟩, fun H4 s4 => ?_⟩
    walk_at "go"
    refine mark_start t h2 ((s.trans s3).trans s4) ?_
    walk_at "go"
    refine mark_most t h2 ((s.trans s3).trans s4) ?_
    walk_at "go"
    refine ⟨⟨m.start, 0, m.most, rfl, k4, k5⟩, fun H5 s5 => ?_⟩
    walk_at "go"
    exact ⟨⟨_, rfl⟩, ((s.trans s3).trans s4).trans s5⟩
  · rintro σ H2 ⟨⟨o, rfl⟩, s⟩
    walk_at "go"
    exact k _ s
end
end Tw
set_option maxHeartbeats 4000000
/-! list.extend by a tuple. -/
namespace Tw
open PySem PySem.Spec L2
open Sem (wp)
open AutoSeq1
theorem ext_tup (l : Addr) (xs : Array Value) (n : Nat) (b : Addr) (ys : Array Value) (m : Nat) (dct : Option Addr) (sl : Array (Option Value)) (h0 : ¬(!xs.isEmpty && Builtin.List.listTooLong (xs.size + ys.size)) = true) (h1 : xs.size ≤ sizeLine) (h2 : xs.size + ys.size ≤ sizeLine + 1) :
    Meets (Builtin.«list.extend» ⟨[.ref l, .ref b], []⟩) (fun _ R s => s.heap.get? l = some { cls := .type "list", dict := none, data := .seq xs n, slots := #[] } ∧ s.heap.get? b = some { cls := .type "tuple", dict := dct, data := .seq ys m, slots := sl } ∧
      R (.ok (.ret Value.none)) { s with heap := s.heap.update l (Obj.mapSeq fun x => x ++ ys), toks := s.toks }) :=
  .of_wp fun prog w A R s q => by
    obtain ⟨hp, g, d, tk, os⟩ := s
    obtain ⟨hl, hb, q⟩ := q
    have f1 := idx_int
    have f2 := sub_tuple_tuple
    have f3 := sub_list_list
    have f4 := sub_tuple_list
    have f5 := sub_list_tuple
    have hz' : (xs ++ ys).size ≤ sizeLine + 1 := by rw [Array.size_append]; exact h2
    wp_walk using (wpAny_updateSeq hl rfl (hz := h1) (_hz' := hz')), wpAny_loadPart' hl, wpAny_loadPart' hb
    exact ⟨_, rfl, q⟩
def rExtT (K : PySem.W.Frag) : V → List V → Hp → VK → Prop := fun x vs H Q => ∃ l b xs zs, x = .ref l ∧ vs = [.ref b] ∧ H l = some (.lst xs) ∧ SqT K H b zs ∧ xs.length + zs.length ≤ 1000 ∧ Q .non (upd H l (.lst (xs ++ zs)))
theorem mt_extT {X : Cx} {K : PySem.W.Frag} (hK : X.K = K) : MtR X "list.extend" (rExtT K) := by
  subst hK
  intro pins s σ H x vs v us Q I rx rv h
  obtain ⟨l, b, xs, zs, rfl, rfl, hH, hB, hz, q⟩ := h
  cases rx
  obtain ⟨u, rfl, ru⟩ := rv.one
  cases ru
  obtain ⟨z, its, n, r, hl, e⟩ := I.lstM hH
  obtain ⟨its2, r2, ⟨⟨oc, od, dt, sl⟩, ho, hc, n2, hd⟩, hz2⟩ := I.tuple hB
  have hc : oc = .type "tuple" := hc
  have hd : dt = .seq its2.toArray n2 := hd
  subst hc hd
  have hl2 := r2.length
  have s1 := small1000 hz
  have hlong : ¬ (!its.toArray.isEmpty && Builtin.List.listTooLong (its.toArray.size + its2.toArray.size)) = true := by
    rw [notLongL (by rw [List.size_toArray, List.size_toArray]; omega), Bool.and_false]
    exact Bool.false_ne_true
  refine call_meets F.slot_list_extend ⟨_, e, rfl⟩ F.entry_list_extend (F.args_list_extend_2 _ _)
    (ext_tup l its.toArray n b its2.toArray n2 od sl hlong (by rw [List.size_toArray]; omega) (by rw [List.size_toArray, List.size_toArray]; omega)) ⟨e, ho, ?_⟩
  refine ⟨.non, _, I.lset (its' := its ++ its2) hH e (by simp) (r.append r2) ?_, rfl, q⟩
  rw [List.length_append]
  omega
end Tw
set_option maxHeartbeats 4000000
/-! A good world is well made: ways, verbs; the whole. -/
namespace Tw
open PySem PySem.Spec L2
local macro_rules | `(tactic| walk_at "rd1") => `(tactic| first
  | with_reducible refine x_seq ?_
  | ((with_reducible refine x_var (v := ?vv) ?hh ?_); case hh => exact rfl)
  | with_reducible refine x_c ?_
  | with_reducible refine x_op ?_
  | with_reducible refine x_fld ?_
  | with_reducible refine x_call ?_
  | with_reducible refine x_meth ?_
  | with_reducible refine x_make ?_
  | with_reducible refine x_cb ?_
  | with_reducible refine x_tup ?_
  | with_reducible refine x_lst ?_
  | with_reducible refine x_nil ?_
  | with_reducible refine x_cons ?_
  | with_reducible refine x_asg ?_
  | with_reducible refine x_name ?_
  | with_reducible refine x_ret ?_
  | with_reducible refine x_retN ?_
  | with_reducible refine x_drop ?_
  | with_reducible refine x_ifS ?_
  | with_reducible refine x_if ?_
  | with_reducible refine x_andV ?_
  | with_reducible refine x_orV ?_
  | with_reducible refine x_notV ?_
  | with_reducible refine x_test ?_
  | with_reducible refine x_tB ?_
  | with_reducible refine x_and ?_
  | with_reducible refine x_or ?_
  | with_reducible refine x_not ?_
  | with_reducible refine x_yes ?_
  | with_reducible refine x_next ?_
  | with_reducible refine x_sfld ?_
  | with_reducible refine blK ?_
  | with_reducible refine r_I0 ?_
  | with_reducible refine r_isN ?_
  | with_reducible refine r_notN ?_
  | ((with_reducible refine r_eq ?hh ?_); case hh => exact rfl)
  | ((with_reducible refine r_ne ?hh ?_); case hh => exact rfl)
  | with_reducible refine x_gnil ?_
  | with_reducible refine x_gcons ?_)
local macro_rules | `(tactic| walk_at "rd2") => `(tactic| first
  | walk_at "rd1"
  | with_reducible refine x_lc ?_
  | with_reducible refine x_for ?_
  | with_reducible refine x_itup ?_
  | with_reducible refine x_ilist ?_
  | with_reducible refine x_rng1 ?_
  | with_reducible refine x_bm ?_
  | with_reducible refine x_chain ?_
  | with_reducible refine x_istr ?_
  | with_reducible refine strK ?_
  | with_reducible refine x_sl ?_
  | with_reducible refine x_part ?_
  | with_reducible refine x_noPart ?_
  | with_reducible refine poK ?_
  | ((with_reducible refine ltK ?hh ?_); case hh => exact rfl)
  | ((with_reducible refine ltKx ?hh ?_); case hh => exact rfl)
  | with_reducible refine x_dput ?_
  | with_reducible refine x_dget ?_
  | with_reducible refine iteK_t ?_
  | with_reducible refine iteK_nf ?_
  | with_reducible refine iteK_nt ?_
  | with_reducible refine iteK_f ?_)
local macro_rules | `(tactic| walk_at "go") => `(tactic| repeat (walk_at "rd2"))
local macro_rules | `(tactic| walk_at "rd") => `(tactic| repeat (walk_at "rd1"))
local macro_rules | `(tactic| walk_at "at") => `(tactic| repeat (first | assumption | refine same_at' (by assumption) ?_))
local macro_rules | `(tactic| walk_at "sm") => `(tactic| repeat (first | exact Same.refl _ | assumption | refine Same.trans ?_ (by assumption)))
local macro_rules | `(tactic| walk_at "mk1") => `(tactic| first
  | with_reducible refine mk_new rfl fun _ _ _ _ _ _ => ?_
  | with_reducible refine lstK rfl fun _ _ _ _ _ => ?_
  | with_reducible refine tupK rfl fun _ _ _ _ _ => ?_
  | with_reducible refine mk_rule4 (SqL.of (by walk_at "at")) (SqL.of (by walk_at "at")) fun _ _ _ _ => ?_
  | with_reducible refine mk_rule (SqL.of (by walk_at "at")) (SqL.of (by walk_at "at")) fun _ _ _ _ => ?_
  | with_reducible refine c_refusal (SqL.of (by walk_at "at")) fun _ _ _ _ => ?_)
local macro_rules | `(tactic| walk_at "mk") => `(tactic| repeat (first | walk_at "rd2" | walk_at "mk1"))
local macro_rules | `(tactic| walk_at "ar1") => `(tactic| ((with_reducible refine r_I ?hh ?_); case hh => first | exact (show (0 : Int) < _ from by decide +kernel) | exact And.intro (by decide +kernel) (by decide +kernel) | exact Or.inr (And.intro (by decide +kernel) (by decide +kernel)) | exact Or.inl (And.intro (by decide +kernel) (by decide +kernel)) | exact And.intro (by decide +kernel) (And.intro (by decide +kernel) (by decide +kernel))))
local macro_rules | `(tactic| walk_at "ar") => `(tactic| repeat (first | walk_at "rd2" | walk_at "ar1"))

section
variable {P : Program} {w : World} {K : PySem.W.Frag} {mg : Str → Option Value} {base : Heap}
theorem r_extT {H : Hp} {Q : VK} {l b : Addr} {xs zs : List V} (hl : H l = some (.lst xs)) (hb : SqT K H b zs) (hz : xs.length + zs.length ≤ 1000) (q : Q .non (upd H l (.lst (xs ++ zs)))) : rExtT K (.ref l) [.ref b] H Q := ⟨l, b, xs, zs, rfl, rfl, hl, hb, hz, q⟩
theorem sc_way_well : FnScope ["world", "way", "room", "word", "goal", "mark"] ["world", "way"] (defScope s_way_well) := ⟨rfl, rfl, rfl, by decide +kernel, rfl, by decide +kernel, by decide +kernel⟩
theorem ok_way_well (t : T K mg) : C8.Cal P w K mg base 3 "way_well" (spT fun vs H => ∃ v x W y, vs = [v, x] ∧ WorldAt K H v W ∧ Dp K H x (wyD y) ∧ y.room ∈ W.kind "room" ∧ y.goal ∈ W.kind "room" ∧ WordOk y.word) [] := by
  have c_is_word := ok_is_word (P := P) (w := w) (base := base) t
  have c_k := ok_of_kind (P := P) (w := w) (base := base) t
  have c_m := ok_most_of (P := P) (w := w) (base := base) t
  refine cal t.f_way_well t.g_way_well sc_way_well (fun _ _ _ _ _ _ us hl => match us, hl with | [_, _], _ => rfl) (fun vs H Q E h => ?_) fun cdv A outer s H vs Q E hr h => ?_
  · obtain ⟨⟨v, x, W, y, rfl, _⟩, _⟩ := h
    rfl
  obtain ⟨⟨v, x, W, y, rfl, hW, hx, h1, h2, h3⟩, k⟩ := h
  obtain ⟨a, rfl, ha⟩ := way_dp hx
  refine ⟨_, (pss_cons (ps_if (PW.pt (pw_or (pt_not (pt_val (pe_callB (cr_isi (K := K) rfl) (by rfl) t.b_isinstance (by decide +kernel) (pa_cons (L2.pv 1) (pa_cons (pe_bltn (v := .ty "tuple") (u := .type "tuple") (by rfl) t.b_tuple (by decide +kernel) rfl) pa_nil))))) (pw_or1 (pt_cmpR op_ne (pe_callB (cr_len (K := K) rfl) (by rfl) t.b_len (by decide +kernel) (pa_cons (L2.pv 1) pa_nil)) pe_int (nomark _))))) (pss_one (ps_ret pe_bl)) pss_nil)
      (pss_cons (ps_asg (L2.pv 1) (pg_tup' (K := K) (n := 4) rfl (by rfl) (pgs_cons (pg_name (i := 2) sc_way_well.nd rfl (Or.inl rfl)) (pgs_cons (pg_name (i := 3) sc_way_well.nd rfl (Or.inl rfl)) (pgs_cons (pg_name (i := 4) sc_way_well.nd rfl (Or.inl rfl)) (pgs_cons (pg_name (i := 5) sc_way_well.nd rfl (Or.inl rfl)) pgs_nil))))))
      (pss_cons (ps_if (PW.pt (pw_or (pt_cmpR (op_notIn' (K := K) rfl) (L2.pv 2) (C8.pe_mt c_k hr (by decide) (L2.pv 0) (pa_cons pe_str pa_nil)) (by rfl)) (pw_or (pt_cmpR (op_notIn' (K := K) rfl) (L2.pv 4) (C8.pe_mt c_k hr (by decide) (L2.pv 0) (pa_cons pe_str pa_nil)) (by rfl)) (pw_or1 (pt_not (pt_val (C8.pe_c c_is_word hr (by decide) (by rfl) (pa_cons (L2.pv 3) pa_nil)))))))) (pss_one (ps_ret pe_bl)) pss_nil)
      (pss_one (ps_ret (pe_or (pe_cmpR op_isN1 (L2.pv 5) pe_non (nomark _)) (pe_one (pe_cmpR op_notN1 (C8.pe_mt c_m hr (by decide) (L2.pv 0) (pa_cons (L2.pv 5) pa_nil)) pe_non (nomark _))))))))), ?_⟩
  walk_at "go"
  refine r_isTT ha ?_
  walk_at "go"
  refine r_lenT ha ?_
  walk_at "go"
  refine iteK_n (show (!decide (V.int 4 = V.int 4)) = false from by decide) ?_
  walk_at "go"
  refine x_gtup ha rfl ?_
  walk_at "go"
  refine world_mt hW (Same.refl H) (by simp [wmeths]) ?_
  walk_at "go"
  refine ⟨v, W, "room", rfl, hW, fun p1 H1 n1 s1 e1 => ?_⟩
  refine r_niL (.of e1) rfl (flat_strs _) ?_
  rw [inV_yes h1]
  walk_at "go"
  refine world_mt hW s1 (by simp [wmeths]) ?_
  walk_at "go"
  refine ⟨v, W, "room", rfl, world_mono s1 hW, fun p2 H2 n2 s2 e2 => ?_⟩
  refine r_niL (.of e2) rfl (flat_strs _) ?_
  rw [inV_yes h2]
  walk_at "go"
  refine ⟨⟨y.word, rfl, h3⟩, fun H3 s3 => ?_⟩
  walk_at "go"
  refine iteK_y (by decide) ?_
  exact k _ ((s1.trans s2).trans s3)
theorem sc_ways_well : FnScope ["world", "name", "way"] ["world"] (defScope s_ways_well) := ⟨rfl, rfl, rfl, by decide +kernel, rfl, by decide +kernel, by decide +kernel⟩
theorem ok_ways_well (t : T K mg) : C8.Cal P w K mg base 4 "ways_well" (spT (WOk K)) [] := by
  have c_are_unlike := ok_are_unlike (P := P) (w := w) (base := base) t
  have c_way_well := ok_way_well (P := P) (w := w) (base := base) t
  have c_k := ok_of_kind (P := P) (w := w) (base := base) t
  refine cal t.f_ways_well t.g_ways_well sc_ways_well (fun _ _ _ _ _ _ us hl => match us, hl with | [_], _ => rfl) (fun vs H Q E h => wok1 h) fun cdv A outer s H vs Q E hr h => ?_
  obtain ⟨⟨v, W, rfl, hW, G⟩, k⟩ := h
  have hz := world_sizes hW
  have okR : ∀ x ∈ W.kind "room", OkS x := fun x hx => by
    obtain ⟨h, hh, rfl⟩ := List.mem_map.mp hx
    exact name_ok (G.th h (List.mem_filter.mp hh).1).nm.1
  refine ⟨_, (pss_cons (ps_if (PW.pt (pw_or (pt_not (pt_val (pe_callB (cr_all' (K := K) rfl (by rfl)) (by rfl) t.b_all (by decide +kernel) (pa_cons (pe_lc (own := [("name", 1)]) (by rfl) sc_ways_well.nd (pi_list' (K := K) rfl (pe_fld' (K := K) rfl (L2.pv 0) rfl)) (blkOk_by (own := [("name", 1)]) (N := ["world", "name", "way"]) (sc := defScope s_ways_well) (by decide +kernel)) (fun _ _ _ _ _ => (pg_name (i := 1) sc_ways_well.nd rfl (Or.inl rfl))) (fun _ _ _ _ _ => pts_nil) (fun _ _ _ _ _ => (pe_cmpR (op_in' (K := K) rfl) (L2.pv 1) (C8.pe_mt c_k hr (by decide) (L2.pv 0) (pa_cons pe_str pa_nil)) (by rfl)))) pa_nil)))) (pw_or1 (pt_not (pt_val (C8.pe_c c_are_unlike hr (by decide) (by rfl) (pa_cons (pe_fld' (K := K) rfl (L2.pv 0) rfl) pa_nil))))))) (pss_one (ps_ret pe_bl)) pss_nil)
      (pss_one (ps_ret (pe_and (pe_callB (cr_all' (K := K) rfl (by rfl)) (by rfl) t.b_all (by decide +kernel) (pa_cons (pe_lc (own := [("way", 2)]) (by rfl) sc_ways_well.nd (pi_list' (K := K) rfl (pe_fld' (K := K) rfl (L2.pv 0) rfl)) (blkOk_by (own := [("way", 2)]) (N := ["world", "name", "way"]) (sc := defScope s_ways_well) (by decide +kernel)) (fun _ _ _ _ _ => (pg_name (i := 2) sc_ways_well.nd rfl (Or.inl rfl))) (fun _ _ _ _ _ => pts_nil) (fun _ _ _ _ _ => (C8.pe_c c_way_well hr (by decide) (by rfl) (pa_cons (L2.pv 0) (pa_cons (L2.pv 2) pa_nil))))) pa_nil)) (pe_one (C8.pe_c c_are_unlike hr (by decide) (by rfl) (pa_cons (pe_lc (own := [("way", 2)]) (by rfl) sc_ways_well.nd (pi_list' (K := K) rfl (pe_fld' (K := K) rfl (L2.pv 0) rfl)) (blkOk_by (own := [("way", 2)]) (N := ["world", "name", "way"]) (sc := defScope s_ways_well) (by decide +kernel)) (fun _ _ _ _ _ => (pg_name (i := 2) sc_ways_well.nd rfl (Or.inl rfl))) (fun _ _ _ _ _ => pts_nil) (fun _ _ _ _ _ => (pe_slice (sl_tupA' (K := K) rfl) (L2.pv 2) po_none (po_some pe_int)))) pa_nil))))))), ?_⟩
  walk_at "go"
  refine wf_dark t hW (Same.refl H) fun a ha => sqLK (SqL.of ha) ?_
  refine lcL (fun ys i H' => ys = List.replicate i (.bl true)) (SqL.of ha) rfl (fun _ _ _ => rfl) ?_ ?_
  · intro D i x ys H2 m f hi
    obtain ⟨d, hd, rfl⟩ := map_get hi
    have hlt := get_lt hd
    walk_at "go"
    refine world_mt hW m.same (by simp [wmeths]) ?_
    walk_at "go"
    refine ⟨v, W, "room", rfl, world_mono m.same hW, fun p1 H3 n1 s3 e1 => ?_⟩
    refine r_isL (.of e1) rfl (flat_strs _) ?_
    rw [inV_yes (G.dk d (List.mem_of_getElem? hd))]
    refine apK (m.grow s3) (by rw [f, List.length_replicate]; omega) ?_
    rw [f]
    exact rep_snoc i
  · intro D H2 ys m f
    walk_at "go"
    refine r_allT (all_F _ m f) ?_
    walk_at "go"
    refine wf_dark t hW m.same fun a ha => ?_
    walk_at "go"
    refine ⟨⟨a, rfl, apart_strs (m.same.seq (.of ha)) G.dn (by omega) fun x hx => okR x (G.dk x hx)⟩, fun H3 s3 => ?_⟩
    have s03 := m.same.trans s3
    walk_at "go"
    refine wf_ways t hW s03 fun a ws ha hp => sqLK (s03.seq (SqL.of ha)) ?_
    have hl := dpa_len hp
    rw [List.length_map] at hl
    refine lcL (fun ys i H' => ys = List.replicate i (.bl true)) (s03.seq (SqL.of ha)) rfl (fun _ _ _ => rfl) ?_ ?_
    · intro D i x ys H4 m f hi
      have hlt := get_lt hi
      obtain ⟨d, hd1, hd2⟩ := dpa_get hp hi
      obtain ⟨y, hy, rfl⟩ := map_get hd1
      obtain ⟨g1, g2, g3, _⟩ := G.wy y (List.mem_of_getElem? hy)
      have s04 := s03.trans m.same
      walk_at "go"
      refine ⟨⟨v, x, W, y, rfl, world_mono s04 hW, dp_mono s04 hd2, g1, g2, g3⟩, fun H5 s5 => ?_⟩
      refine apK (m.grow s5) (by rw [f, List.length_replicate]; omega) ?_
      rw [f]
      exact rep_snoc i
    · intro D H4 ys m f
      have s04 := s03.trans m.same
      walk_at "go"
      refine r_allT (all_F _ m f) ?_
      walk_at "go"
      refine wf_ways t hW s04 fun a ws ha hp => sqLK (s04.seq (SqL.of ha)) ?_
      refine lcL (fun ys i H' => DpAll K H' ys ((W.ways.take i).map fun y => partD (y.room, y.word))) (s04.seq (SqL.of ha)) .nil (fun _ _ _ => .nil) ?_ ?_
      · intro D i x ys H5 m f hi
        have hlt := get_lt hi
        obtain ⟨d, hd1, hd2⟩ := dpa_get hp hi
        obtain ⟨y, hy, rfl⟩ := map_get hd1
        obtain ⟨b, rfl, hb⟩ := way_dp (dp_mono (s04.trans m.same) hd2)
        have hfl := dpa_len f
        rw [List.length_map, List.length_take] at hfl
        walk_at "go"
        refine r_slT hb fun p H6 s6 e6 => ?_
        refine apK (m.grow s6) (by omega) ?_
        rw [take_succ' hy, List.map_append]
        refine dpa_snoc (dpAll_mono (del_mono s6) f) (.tup (del_sqt (m.grow s6).at_ e6) ?_)
        exact .cons (.str _) (.cons (.str _) .nil)
      · intro D H5 ys m f
        have s05 := s04.trans m.same
        have hl2 := dpa_len hp
        rw [List.length_map] at hl2
        rw [List.take_of_length_le (by omega)] at f
        walk_at "go"
        refine ⟨⟨D, rfl, .inl ⟨_, .lst (.of m.at_) (dpAll_mono del_le f), ?_, by rw [List.length_map]; omega, ?_⟩⟩, fun H6 s6 => k _ (s05.trans s6)⟩
        · refine shaped_list.mpr ⟨fun d hd => ?_, ?_⟩
          · obtain ⟨y, hy, rfl⟩ := List.mem_map.mp hd
            obtain ⟨g1, g2, g3, _⟩ := G.wy y hy
            have o1 : PyData.strOk y.room = true := okR _ g1
            have o2 : PyData.strOk y.word = true := name_ok g3.1
            simp [partD, PyData.canLay0, PyData.canLayAll0, o1, o2]
          · have := depth_all (ds := W.ways.map fun y => partD (y.room, y.word)) (n := 1) fun d hd => by
              obtain ⟨y, hy, rfl⟩ := List.mem_map.mp hd
              simp [partD, PyData.depth, PyData.depthAll]
            omega
        · intro i j x y hji hi hj
          obtain ⟨x', hx, rfl⟩ := map_get hi
          obtain ⟨y', hy, rfl⟩ := map_get hj
          rw [eqv_part]
          refine decide_eq_false fun e => G.wn i j x' y' hji hx hy ?_
          simp only [Prod.mk.injEq] at e
          exact ⟨e.1, e.2⟩
def spCalls (K : PySem.W.Frag) : Sp := fun vs H Q _ => ∃ v W, vs = [v] ∧ WorldAt K H v W ∧ ∀ p H', H p = none → Same H H' → H' p = some (.lst (called.map V.str)) → Q (.ref p) H'
theorem sc_called : FnScope ["world", "found", "verb"] ["world"] (defScope s_called) := ⟨rfl, rfl, rfl, by decide +kernel, rfl, by decide +kernel, by decide +kernel⟩
theorem ok_called (t : T K mg) : C8.Cal P w K mg base 2 "called" (spCalls K) [] := by
  have c_a := ok_all_verbs (P := P) (w := w) (base := base) t
  refine cal t.f_called t.g_called sc_called (fun _ _ _ _ _ _ us hl => match us, hl with | [_], _ => rfl) (fun vs H Q E h => ?_) fun cdv A outer s H vs Q E hr h => ?_
  · obtain ⟨v, W, rfl, _⟩ := h
    rfl
  obtain ⟨v, W, rfl, hW, k⟩ := h
  refine ⟨_, (pss_cons (ps_set (i := 1) sc_called.nd rfl (Or.inl rfl) (pe_lst pa_nil))
      (pss_cons (ps_for PassesOwn.never (by rfl) (pi_list' (K := K) rfl (C8.pe_mt0 c_a hr (by decide) (L2.pv 0))) (pg_name (i := 2) sc_called.nd rfl (Or.inl rfl)) (pss_cons (ps_expr (pe_bm PySem.F.plainAttrs_list PySem.F.slot_list_append PySem.F.type_list_append mt_append (L2.pv 1) (pa_cons (pe_fld' (K := K) rfl (L2.pv 2) rfl) pa_nil)))
      (pss_one (ps_expr (pe_bm PySem.F.plainAttrs_list PySem.F.slot_list_extend PySem.F.type_list_extend (mt_extT (K := K) rfl) (L2.pv 1) (pa_cons (pe_fld' (K := K) rfl (L2.pv 2) rfl) pa_nil))))))
      (pss_one (ps_ret (L2.pv 1))))), ?_⟩
  walk_at "go"
  refine lstK rfl fun f H1 nf s1 h1 => ?_
  walk_at "go"
  refine world_mt hW s1 (by simp [wmeths]) ?_
  walk_at "go"
  refine ⟨v, W, rfl, world_mono s1 hW, fun p H2 us n2 s2 h2 hp => sqLK (SqL.of h2) ?_⟩
  have hl := hp.length
  have hv : vbs.length = 9 := rfl
  have fp : f ≠ p := ne_of_none h1 n2
  have m0 : Mk1 H f H2 [] := ⟨nf, del_none (s1.trans s2) nf, s2 _ _ h1⟩
  have hu : del f H2 p = some (.lst us) := del_at h2 (Ne.symm fp)
  refine forL (fun i σ H3 => (∃ o, σ = [some v, some (.ref f), o]) ∧ Mk1 H f H3 (((vbs.take i).map Vb.name).map V.str) ∧ Same (del f H2) (del f H3)) ⟨⟨none, rfl⟩, m0, Same.refl _⟩ (fun i σ H3 _ ⟨_, _, s⟩ => .of (del_le _ _ (s _ _ hu))) ?_ ?_
  · rintro i x σ H3 hi ⟨⟨o, rfl⟩, m, s⟩
    obtain ⟨b, h1b, h2b⟩ := paired_get' hp hi
    have hlt := get_lt hi
    obtain ⟨q, dx, qo, rfl, e1, e2⟩ := verb_mono s (del_verb (s2 _ _ h1) h2b)
    have e1' := del_le _ _ e1
    walk_at "go"
    refine tyK_l (.of m.at_) ?_
    walk_at "go"
    refine fldK e1' t.c_Verb t.n_Verb_name (l_Verb_name _ _ _ _) ?_
    walk_at "go"
    refine r_app m.at_ (by simp; omega) ?_
    walk_at "go"
    have m2 : Mk1 H f _ _ := m.upd (zs := ((vbs.take i).map Vb.name).map V.str ++ [.str b.name])
    refine tyK_l (.of m2.at_) ?_
    walk_at "go"
    refine fldK (by rw [upd_ne (of_del e1).2]; exact e1') t.c_Verb t.n_Verb_others (l_Verb_others _ _ _ _) ?_
    walk_at "go"
    have e3 := same_sqt (H' := upd H3 f (.lst (((vbs.take i).map Vb.name).map V.str ++ [.str b.name]))) (by rw [← del_upd]; exact del_le) e2
    refine r_extT m2.at_ e3 (by simp; omega) ?_
    refine ⟨⟨_, rfl⟩, ?_, ?_⟩
    · rw [List.append_nil, take_succ' h1b, List.map_append, List.map_append, upd_upd]
      exact m.upd
    · rw [del_upd, del_upd]
      exact s
  · rintro σ H3 ⟨⟨o, rfl⟩, m, s⟩
    walk_at "go"
    refine k f H3 nf m.same ?_
    rw [m.at_, List.take_of_length_le (by omega)]
    rfl
end
end Tw
set_option maxHeartbeats 4000000
/-! A good world is made. -/
namespace Tw
open PySem PySem.Spec L2
local macro_rules | `(tactic| walk_at "rd1") => `(tactic| first
  | with_reducible refine x_seq ?_
  | ((with_reducible refine x_var (v := ?vv) ?hh ?_); case hh => exact rfl)
  | with_reducible refine x_c ?_
  | with_reducible refine x_op ?_
  | with_reducible refine x_fld ?_
  | with_reducible refine x_call ?_
  | with_reducible refine x_meth ?_
  | with_reducible refine x_make ?_
  | with_reducible refine x_cb ?_
  | with_reducible refine x_tup ?_
  | with_reducible refine x_lst ?_
  | with_reducible refine x_nil ?_
  | with_reducible refine x_cons ?_
  | with_reducible refine x_asg ?_
  | with_reducible refine x_name ?_
  | with_reducible refine x_ret ?_
  | with_reducible refine x_retN ?_
  | with_reducible refine x_drop ?_
  | with_reducible refine x_ifS ?_
  | with_reducible refine x_if ?_
  | with_reducible refine x_andV ?_
  | with_reducible refine x_orV ?_
  | with_reducible refine x_notV ?_
  | with_reducible refine x_test ?_
  | with_reducible refine x_tB ?_
  | with_reducible refine x_and ?_
  | with_reducible refine x_or ?_
  | with_reducible refine x_not ?_
  | with_reducible refine x_yes ?_
  | with_reducible refine x_next ?_
  | with_reducible refine x_sfld ?_
  | with_reducible refine blK ?_
  | with_reducible refine r_I0 ?_
  | with_reducible refine r_isN ?_
  | with_reducible refine r_notN ?_
  | ((with_reducible refine r_eq ?hh ?_); case hh => exact rfl)
  | ((with_reducible refine r_ne ?hh ?_); case hh => exact rfl)
  | with_reducible refine x_gnil ?_
  | with_reducible refine x_gcons ?_)
local macro_rules | `(tactic| walk_at "rd2") => `(tactic| first
  | walk_at "rd1"
  | with_reducible refine x_lc ?_
  | with_reducible refine x_for ?_
  | with_reducible refine x_itup ?_
  | with_reducible refine x_ilist ?_
  | with_reducible refine x_rng1 ?_
  | with_reducible refine x_bm ?_
  | with_reducible refine x_chain ?_
  | with_reducible refine x_istr ?_
  | with_reducible refine strK ?_
  | with_reducible refine x_sl ?_
  | with_reducible refine x_part ?_
  | with_reducible refine x_noPart ?_
  | with_reducible refine poK ?_
  | ((with_reducible refine ltK ?hh ?_); case hh => exact rfl)
  | ((with_reducible refine ltKx ?hh ?_); case hh => exact rfl)
  | with_reducible refine x_dput ?_
  | with_reducible refine x_dget ?_
  | with_reducible refine iteK_t ?_
  | with_reducible refine iteK_nf ?_
  | with_reducible refine iteK_nt ?_
  | with_reducible refine iteK_f ?_)
local macro_rules | `(tactic| walk_at "go") => `(tactic| repeat (walk_at "rd2"))
local macro_rules | `(tactic| walk_at "rd") => `(tactic| repeat (walk_at "rd1"))
local macro_rules | `(tactic| walk_at "at") => `(tactic| repeat (first | assumption | refine same_at' (by assumption) ?_))
local macro_rules | `(tactic| walk_at "sm") => `(tactic| repeat (first | exact Same.refl _ | assumption | refine Same.trans ?_ (by assumption)))
local macro_rules | `(tactic| walk_at "mk1") => `(tactic| first
  | with_reducible refine mk_new rfl fun _ _ _ _ _ _ => ?_
  | with_reducible refine lstK rfl fun _ _ _ _ _ => ?_
  | with_reducible refine tupK rfl fun _ _ _ _ _ => ?_
  | with_reducible refine mk_rule4 (SqL.of (by walk_at "at")) (SqL.of (by walk_at "at")) fun _ _ _ _ => ?_
  | with_reducible refine mk_rule (SqL.of (by walk_at "at")) (SqL.of (by walk_at "at")) fun _ _ _ _ => ?_
  | with_reducible refine c_refusal (SqL.of (by walk_at "at")) fun _ _ _ _ => ?_)
local macro_rules | `(tactic| walk_at "mk") => `(tactic| repeat (first | walk_at "rd2" | walk_at "mk1"))
local macro_rules | `(tactic| walk_at "ar1") => `(tactic| ((with_reducible refine r_I ?hh ?_); case hh => first | exact (show (0 : Int) < _ from by decide +kernel) | exact And.intro (by decide +kernel) (by decide +kernel) | exact Or.inr (And.intro (by decide +kernel) (by decide +kernel)) | exact Or.inl (And.intro (by decide +kernel) (by decide +kernel)) | exact And.intro (by decide +kernel) (And.intro (by decide +kernel) (by decide +kernel))))
local macro_rules | `(tactic| walk_at "ar") => `(tactic| repeat (first | walk_at "rd2" | walk_at "ar1"))

section
variable {P : Program} {w : World} {K : PySem.W.Frag} {mg : Str → Option Value} {base : Heap}
theorem r_neNil {H : Hp} {Q : VK} {a b : Addr} (h1 : H a = some (.lst [])) (h2 : H b = some (.lst [])) (q : Q (.bl false) H) : rNeD K (.ref a) (.ref b) H Q :=
  r_neD (d := .list []) (e := .list []) (.lst (.of h1) .nil) (.lst (.of h2) .nil) (by decide +kernel) (by decide +kernel) (by
    rw [show PyData.eqv (.list []) (.list []) = true from by simp [PyData.eqv, PyData.eqvAll]]
    exact q)
def joins (l : List Vb) : List Str := l.flatMap fun b => b.joining.toList
theorem joins_app (l m : List Vb) : joins (l ++ m) = joins l ++ joins m := List.flatMap_append ..
theorem joins_len (l : List Vb) : (joins l).length ≤ l.length := by
  induction l with
  | nil => exact Nat.le_refl _
  | cons b r ih =>
    unfold joins at ih ⊢
    have e : b.joining.toList.length ≤ 1 := by cases b.joining <;> simp
    rw [List.flatMap_cons, List.length_append, List.length_cons]
    omega
theorem sc_verbs_well : FnScope ["world", "small", "thing", "verb", "word"] ["world"] (defScope s_verbs_well) := ⟨rfl, rfl, rfl, by decide +kernel, rfl, by decide +kernel, by decide +kernel⟩
theorem ok_verbs_well (t : T K mg) : C8.Cal P w K mg base 3 "verbs_well" (spT (WOk K)) [] := by
  have c_are_unlike := ok_are_unlike (P := P) (w := w) (base := base) t
  have c_called := ok_called (P := P) (w := w) (base := base) t
  have c_w := ok_way_words (P := P) (w := w) (base := base) t
  have c_a := ok_all_verbs (P := P) (w := w) (base := base) t
  have c_p := ok_is_plainly (P := P) (w := w) (base := base) t
  refine cal t.f_verbs_well t.g_verbs_well sc_verbs_well (fun _ _ _ _ _ _ us hl => match us, hl with | [_], _ => rfl) (fun vs H Q E h => wok1 h) fun cdv A outer s H vs Q E hr h => ?_
  obtain ⟨⟨v, W, rfl, hW, G⟩, k⟩ := h
  have hz := world_sizes hW
  refine ⟨_, (pss_cons (ps_if (PW.pt (pw_or (pt_not (pt_val (pe_callB (cr_all' (K := K) rfl (by rfl)) (by rfl) t.b_all (by decide +kernel) (pa_cons (pe_lc (own := [("verb", 3)]) (by rfl) sc_verbs_well.nd (pi_list' (K := K) rfl (pe_fld' (K := K) rfl (L2.pv 0) rfl)) (blkOk_by (own := [("verb", 3)]) (N := ["world", "small", "thing", "verb", "word"]) (sc := defScope s_verbs_well) (by decide +kernel)) (fun _ _ _ _ _ => (pg_name (i := 3) sc_verbs_well.nd rfl (Or.inl rfl))) (fun _ _ _ _ _ => pts_nil) (fun _ _ _ _ _ => pe_nev)) pa_nil)))) (pw_or1 (pt_not (pt_val (C8.pe_c c_are_unlike hr (by decide) (by rfl) (pa_cons (C8.pe_c c_called hr (by decide) (by rfl) (pa_cons (L2.pv 0) pa_nil)) pa_nil))))))) (pss_one (ps_ret pe_bl)) pss_nil)
      (pss_cons (ps_set (i := 1) sc_verbs_well.nd rfl (Or.inr rfl) (pe_op op_cat (C8.pe_mt0 c_w hr (by decide) (L2.pv 0)) (pe_lc (own := [("verb", 3)]) (by rfl) sc_verbs_well.nd (pi_list' (K := K) rfl (C8.pe_mt0 c_a hr (by decide) (L2.pv 0))) (blkOk_by (own := [("verb", 3)]) (N := ["world", "small", "thing", "verb", "word"]) (sc := defScope s_verbs_well) (by decide +kernel)) (fun _ _ _ _ _ => (pg_name (i := 3) sc_verbs_well.nd rfl (Or.inl rfl))) (fun _ _ _ _ _ => (pts_one (pt_cmpR op_notN1 (pe_fld' (K := K) rfl (L2.pv 3) rfl) pe_non (nomark _)))) (fun _ _ _ _ _ => (pe_fld' (K := K) rfl (L2.pv 3) rfl)))))
      (pss_cons (ps_if (pt_cmpR (op_neD' (K := K) rfl hr.units) (pe_lc (own := [("word", 4)]) (by rfl) sc_verbs_well.nd (pi_list' (K := K) rfl (L2.pv 1)) (blkOk_by (own := [("word", 4)]) (N := ["world", "small", "thing", "verb", "word"]) (sc := defScope s_verbs_well) (by decide +kernel)) (fun _ _ _ _ _ => (pg_name (i := 4) sc_verbs_well.nd rfl (Or.inl rfl))) (fun _ _ _ _ _ => (pts_one (PW.pt (pw_or (pt_cmpR (op_in' (K := K) rfl) (L2.pv 4) (C8.pe_c c_called hr (by decide) (by rfl) (pa_cons (L2.pv 0) pa_nil)) (by rfl)) (pw_or1 (pt_cmpR (op_in' (K := K) rfl) (L2.pv 4) (C8.pe_gc (by rfl) t.t_TAKEN) (by rfl))))))) (fun _ _ _ _ _ => (L2.pv 4))) (pe_lst pa_nil) (nomark _)) (pss_one (ps_ret pe_bl)) pss_nil)
      (pss_cons (ps_for PassesOwn.never (by rfl) (pi_list' (K := K) rfl (pe_fld' (K := K) rfl (L2.pv 0) rfl)) (pg_name (i := 2) sc_verbs_well.nd rfl (Or.inl rfl)) (pss_one (ps_if (PW.pt (pw_and (pt_val (C8.pe_mt0 c_p hr (by decide) (L2.pv 2))) (pw_and1 (pt_cmpR (op_neD' (K := K) rfl hr.units) (pe_lc (own := [("word", 4)]) (by rfl) sc_verbs_well.nd (pi_tup' (K := K) rfl (pe_fld' (K := K) rfl (L2.pv 2) rfl)) (blkOk_by (own := [("word", 4)]) (N := ["world", "small", "thing", "verb", "word"]) (sc := defScope s_verbs_well) (by decide +kernel)) (fun _ _ _ _ _ => (pg_name (i := 4) sc_verbs_well.nd rfl (Or.inl rfl))) (fun _ _ _ _ _ => (pts_one (PW.pt (pw_or (pt_cmpR (op_in' (K := K) rfl) (L2.pv 4) (L2.pv 1) (by rfl)) (pw_or1 (pt_cmpR (op_in' (K := K) rfl) (L2.pv 4) (C8.pe_c c_called hr (by decide) (by rfl) (pa_cons (L2.pv 0) pa_nil)) (by rfl))))))) (fun _ _ _ _ _ => (L2.pv 4))) (pe_lst pa_nil) (nomark _))))) (pss_one (ps_ret pe_bl)) pss_nil)))
      (pss_one (ps_ret pe_bl)))))), ?_⟩
  clear c_are_unlike c_called c_w c_a c_p
  walk_at "go"
  refine wf_verbs t hW (Same.refl H) fun a ha => sqLK (SqL.of ha) ?_
  refine lcL (xs := []) (fun ys i H' => ys = List.replicate i (.bl true)) (SqL.of ha) rfl (fun _ _ _ => rfl) ?_ ?_
  · intro D i x ys H2 m f hi
    simp at hi
  intro D H2 ys m f
  have s2 := m.same
  walk_at "go"
  refine r_allT (all_F _ m f) ?_
  walk_at "go"
  refine ⟨v, W, rfl, world_mono s2 hW, fun p3 H3 n3 s3 h3 => ?_⟩
  walk_at "go"
  refine ⟨⟨p3, rfl, apart_strs (.of h3) (by decide +kernel) (by decide +kernel) (by decide +kernel)⟩, fun H4 s4 => ?_⟩
  have s04 := (s2.trans s3).trans s4
  walk_at "go"
  refine world_mt hW s04 (by simp [wmeths]) ?_
  walk_at "go"
  refine ⟨v, W, rfl, world_mono s04 hW, fun p5 H5 ws n5 s5 h5 l5 hw5 => ?_⟩
  have s05 := s04.trans s5
  walk_at "go"
  refine world_mt hW s05 (by simp [wmeths]) ?_
  walk_at "go"
  refine ⟨v, W, rfl, world_mono s05 hW, fun p6 H6 us n6 s6 h6 hp6 => sqLK (SqL.of h6) ?_⟩
  have s06 := s05.trans s6
  have hl6 := hp6.length
  have hv : vbs.length = 9 := rfl
  refine lcL (fun ys i H' => ys = (joins (vbs.take i)).map V.str) (SqL.of h6) rfl (fun _ _ _ => rfl) ?_ ?_
  · intro D i x ys H7 m f hi
    obtain ⟨b, h1b, h2b⟩ := paired_get' hp6 hi
    have hlt := get_lt hi
    obtain ⟨q, dx, qo, rfl, e1, e2⟩ := verb_mono m.same h2b
    walk_at "go"
    refine fldK e1 t.c_Verb t.n_Verb_joining (l_Verb_joining _ _ _ _) ?_
    walk_at "go"
    cases hj : b.joining with
    | none =>
      refine iteK_n (by decide) ?_
      refine skK m ?_
      rw [f, take_succ' h1b, joins_app]
      simp [joins, hj]
    | some y =>
      refine iteK_y (by simp [oS]) ?_
      walk_at "go"
      refine fldK e1 t.c_Verb t.n_Verb_joining (l_Verb_joining _ _ _ _) ?_
      have := joins_len (vbs.take i)
      rw [List.length_take] at this
      refine apK m (by rw [f, List.length_map]; omega) ?_
      rw [f, take_succ' h1b, joins_app]
      simp [joins, hj, oS]
  intro D7 H7 ys7 m7 f7
  rw [List.take_of_length_le (by omega)] at f7
  subst f7
  have s07 := s06.trans m7.same
  refine r_cat (m7.same _ _ (s6 _ _ h5)) m7.at_ (by rw [List.length_map]; simp [joins, vbs]; omega) fun p8 H8 n8 s8 h8 => ?_
  have s08 := s07.trans s8
  walk_at "go"
  rw [show (joins vbs).map V.str = (["in"] : List Str).map V.str from rfl, ← List.map_append] at h8
  refine sqLK (SqL.of h8) ?_
  refine lcL (fun ys i H' => ys = []) (SqL.of h8) rfl (fun _ _ _ => rfl) ?_ ?_
  · intro D i x ys H9 m f hi
    obtain ⟨y, hy, rfl⟩ := map_get hi
    have s09 := s08.trans m.same
    have hy2 : y ∉ called ∧ y ∉ (["undo", "restart"] : List Str) := by
      rcases List.mem_append.mp (List.mem_of_getElem? hy) with hm | hm
      · obtain ⟨wy, hwy, rfl⟩ := List.mem_map.mp (hw5 y hm)
        exact (G.wy wy hwy).2.2.2
      · rw [List.mem_singleton.mp hm]
        decide +kernel
    walk_at "go"
    refine ⟨v, W, rfl, world_mono s09 hW, fun p10 H10 n10 s10 h10 => ?_⟩
    refine r_isL (.of h10) rfl (flat_strs _) ?_
    rw [inV_no hy2.1]
    walk_at "go"
    refine r_isT (t.x_TAKEN H10) rfl rfl ?_
    rw [show inV (V.str y) [V.str "undo", V.str "restart"] = false from inV_no hy2.2]
    walk_at "go"
    exact skK (m.grow s10) f
  intro D9 H9 ys9 m9 f9
  subst f9
  have s09 := s08.trans m9.same
  walk_at "go"
  refine lstK rfl fun l10 H10 n10 s10 h10 => ?_
  refine r_neNil (s10 _ _ m9.at_) h10 ?_
  walk_at "go"
  have s010 := s09.trans s10
  refine wf_things t hW s010 fun a ts ha hp => sqLK (s010.seq (SqL.of ha)) ?_
  have h810 := s10 _ _ (m9.same _ _ h8)
  refine forL (fun i σ H2 => (∃ o1 o2 o3, σ = [some v, some (.ref p8), o1, o2, o3]) ∧ Same H10 H2) ⟨⟨_, _, _, rfl⟩, Same.refl H10⟩ (fun i σ H2 _ ⟨_, s⟩ => (s010.trans s).seq (.of ha)) ?_ ?_
  · rintro i z σ H11 hi ⟨⟨o1, o2, o3, rfl⟩, s11⟩
    obtain ⟨h, h1, h2⟩ := paired_get' hp hi
    have s011 := s010.trans s11
    walk_at "go"
    refine thing_mt "is_plainly" h2 s011 no_is_plainly ?_
    walk_at "go"
    refine ⟨z, h, rfl, thing_mono s011 h2, fun H12 s12 => ?_⟩
    walk_at "go"
    refine iteK (fun e => ?_) fun e => ?_
    · have s012 := s011.trans s12
      walk_at "go"
      refine thing_words t h2 s012 fun q hq => sqTK hq ?_
      refine lcT (fun ys i H' => ys = []) hq rfl (fun _ _ _ => rfl) ?_ ?_
      · intro D i x ys H13 m f hi
        obtain ⟨y, hy, rfl⟩ := map_get hi
        obtain ⟨g1, g2, g3⟩ := G.tw h (List.mem_of_getElem? h1) e y (List.mem_of_getElem? hy)
        have s013 := s012.trans m.same
        walk_at "go"
        refine r_isL (.of (m.same _ _ (s12 _ _ (s11 _ _ h810)))) rfl (flat_strs _) ?_
        rw [inV_no (fun hm => by
          rcases List.mem_append.mp hm with hm | hm
          · exact g1 (hw5 y hm)
          · exact g2 (List.mem_singleton.mp hm))]
        walk_at "go"
        refine ⟨v, W, rfl, world_mono s013 hW, fun p14 H14 n14 s14 h14 => ?_⟩
        refine r_isL (.of h14) rfl (flat_strs _) ?_
        rw [inV_no g3]
        walk_at "go"
        exact skK (m.grow s14) f
      · intro D H13 ys m f
        subst f
        walk_at "go"
        refine lstK rfl fun l14 H14 n14 s14 h14 => ?_
        refine r_neNil (s14 _ _ m.at_) h14 ?_
        walk_at "go"
        exact ⟨⟨_, _, _, rfl⟩, ((s11.trans s12).trans m.same).trans s14⟩
    · walk_at "go"
      exact ⟨⟨_, _, _, rfl⟩, s11.trans s12⟩
  · rintro σ H11 ⟨⟨o1, o2, o3, rfl⟩, s11⟩
    walk_at "go"
    exact k _ (s010.trans s11)
theorem sc_is_well_made : FnScope ["world"] ["world"] (defScope s_is_well_made) := ⟨rfl, rfl, rfl, by decide +kernel, rfl, by decide +kernel, by decide +kernel⟩
theorem ok_is_well_made (t : T K mg) : C8.Cal P w K mg base 5 "is_well_made" (spT (WOk K)) [] := by
  have c_sizes_well := ok_sizes_well (P := P) (w := w) (base := base) t
  have c_things_well := ok_things_well (P := P) (w := w) (base := base) t
  have c_words_well := ok_words_well (P := P) (w := w) (base := base) t
  have c_marks_well := ok_marks_well (P := P) (w := w) (base := base) t
  have c_ways_well := ok_ways_well (P := P) (w := w) (base := base) t
  have c_verbs_well := ok_verbs_well (P := P) (w := w) (base := base) t
  refine cal t.f_is_well_made t.g_is_well_made sc_is_well_made (fun _ _ _ _ _ _ us hl => match us, hl with | [_], _ => rfl) (fun vs H Q E h => wok1 h) fun cdv A outer s H vs Q E hr h => ?_
  obtain ⟨⟨v, W, rfl, hW, G⟩, k⟩ := h
  refine ⟨_, (pss_cons (ps_if (PW.pt (pw_or (pt_not (pt_val (C8.pe_c c_sizes_well hr (by decide) (by rfl) (pa_cons (L2.pv 0) pa_nil)))) (pw_or (pt_not (pt_val (C8.pe_c c_things_well hr (by decide) (by rfl) (pa_cons (L2.pv 0) pa_nil)))) (pw_or (pt_not (pt_val (C8.pe_c c_words_well hr (by decide) (by rfl) (pa_cons (L2.pv 0) pa_nil)))) (pw_or1 (pt_not (pt_val (C8.pe_c c_marks_well hr (by decide) (by rfl) (pa_cons (L2.pv 0) pa_nil))))))))) (pss_one (ps_ret pe_bl)) pss_nil)
      (pss_one (ps_ret (pe_and (C8.pe_c c_ways_well hr (by decide) (by rfl) (pa_cons (L2.pv 0) pa_nil)) (pe_one (C8.pe_c c_verbs_well hr (by decide) (by rfl) (pa_cons (L2.pv 0) pa_nil))))))), ?_⟩
  walk_at "go"
  refine ⟨⟨v, W, rfl, hW, G⟩, fun H1 s1 => ?_⟩
  walk_at "go"
  refine ⟨⟨v, W, rfl, world_mono s1 hW, G⟩, fun H2 s2 => ?_⟩
  have s02 := s1.trans s2
  walk_at "go"
  refine ⟨⟨v, W, rfl, world_mono s02 hW, G⟩, fun H3 s3 => ?_⟩
  have s03 := s02.trans s3
  walk_at "go"
  refine ⟨⟨v, W, rfl, world_mono s03 hW, G⟩, fun H4 s4 => ?_⟩
  have s04 := s03.trans s4
  walk_at "go"
  refine ⟨⟨v, W, rfl, world_mono s04 hW, G⟩, fun H5 s5 => ?_⟩
  have s05 := s04.trans s5
  walk_at "go"
  exact ⟨⟨v, W, rfl, world_mono s05 hW, G⟩, fun H6 s6 => k _ (s05.trans s6)⟩
theorem sc_rules_fit : FnScope ["world", "rule"] ["world"] (defScope s_rules_fit) := ⟨rfl, rfl, rfl, by decide +kernel, rfl, by decide +kernel, by decide +kernel⟩
theorem ok_rules_fit (t : T K mg) : C8.Cal P w K mg base 1 "rules_fit" (spT (WOk K)) [] := by
  refine cal t.f_rules_fit t.g_rules_fit sc_rules_fit (fun _ _ _ _ _ _ us hl => match us, hl with | [_], _ => rfl) (fun vs H Q E h => wok1 h) fun cdv A outer s H vs Q E hr h => ?_
  obtain ⟨⟨v, W, rfl, hW, G⟩, k⟩ := h
  refine ⟨_, (pss_one (ps_ret (pe_callB (cr_all' (K := K) rfl (by rfl)) (by rfl) t.b_all (by decide +kernel) (pa_cons (pe_lc (own := [("rule", 1)]) (by rfl) sc_rules_fit.nd (pi_list' (K := K) rfl (pe_fld' (K := K) rfl (L2.pv 0) rfl)) (blkOk_by (own := [("rule", 1)]) (N := ["world", "rule"]) (sc := defScope s_rules_fit) (by decide +kernel)) (fun _ _ _ _ _ => (pg_name (i := 1) sc_rules_fit.nd rfl (Or.inl rfl))) (fun _ _ _ _ _ => pts_nil) (fun _ _ _ _ _ => pe_nev)) pa_nil)))), ?_⟩
  walk_at "go"
  refine wf_laid t hW (Same.refl H) fun a ha => sqLK (SqL.of ha) ?_
  refine lcL (xs := []) (fun ys i H' => ys = List.replicate i (.bl true)) (SqL.of ha) rfl (fun _ _ _ => rfl) ?_ ?_
  · intro D i x ys H2 m f hi
    simp at hi
  intro D H2 ys m f
  walk_at "go"
  exact r_allT (all_F _ m f) (k _ m.same)
end
end Tw
set_option maxHeartbeats 4000000
/-! World(..). -/
namespace Tw
open PySem PySem.Spec L2
local macro_rules | `(tactic| walk_at "rd1") => `(tactic| first
  | with_reducible refine x_seq ?_
  | ((with_reducible refine x_var (v := ?vv) ?hh ?_); case hh => exact rfl)
  | with_reducible refine x_c ?_
  | with_reducible refine x_op ?_
  | with_reducible refine x_fld ?_
  | with_reducible refine x_call ?_
  | with_reducible refine x_meth ?_
  | with_reducible refine x_make ?_
  | with_reducible refine x_cb ?_
  | with_reducible refine x_tup ?_
  | with_reducible refine x_lst ?_
  | with_reducible refine x_nil ?_
  | with_reducible refine x_cons ?_
  | with_reducible refine x_asg ?_
  | with_reducible refine x_name ?_
  | with_reducible refine x_ret ?_
  | with_reducible refine x_retN ?_
  | with_reducible refine x_drop ?_
  | with_reducible refine x_ifS ?_
  | with_reducible refine x_if ?_
  | with_reducible refine x_andV ?_
  | with_reducible refine x_orV ?_
  | with_reducible refine x_notV ?_
  | with_reducible refine x_test ?_
  | with_reducible refine x_tB ?_
  | with_reducible refine x_and ?_
  | with_reducible refine x_or ?_
  | with_reducible refine x_not ?_
  | with_reducible refine x_yes ?_
  | with_reducible refine x_next ?_
  | with_reducible refine x_sfld ?_
  | with_reducible refine blK ?_
  | with_reducible refine r_I0 ?_
  | with_reducible refine r_isN ?_
  | with_reducible refine r_notN ?_
  | ((with_reducible refine r_eq ?hh ?_); case hh => exact rfl)
  | ((with_reducible refine r_ne ?hh ?_); case hh => exact rfl)
  | with_reducible refine x_gnil ?_
  | with_reducible refine x_gcons ?_)
local macro_rules | `(tactic| walk_at "rd2") => `(tactic| first
  | walk_at "rd1"
  | with_reducible refine x_lc ?_
  | with_reducible refine x_for ?_
  | with_reducible refine x_itup ?_
  | with_reducible refine x_ilist ?_
  | with_reducible refine x_rng1 ?_
  | with_reducible refine x_bm ?_
  | with_reducible refine x_chain ?_
  | with_reducible refine x_istr ?_
  | with_reducible refine strK ?_
  | with_reducible refine x_sl ?_
  | with_reducible refine x_part ?_
  | with_reducible refine x_noPart ?_
  | with_reducible refine poK ?_
  | ((with_reducible refine ltK ?hh ?_); case hh => exact rfl)
  | ((with_reducible refine ltKx ?hh ?_); case hh => exact rfl)
  | with_reducible refine x_dput ?_
  | with_reducible refine x_dget ?_
  | with_reducible refine iteK_t ?_
  | with_reducible refine iteK_nf ?_
  | with_reducible refine iteK_nt ?_
  | with_reducible refine iteK_f ?_)
local macro_rules | `(tactic| walk_at "go") => `(tactic| repeat (walk_at "rd2"))
local macro_rules | `(tactic| walk_at "rd") => `(tactic| repeat (walk_at "rd1"))
local macro_rules | `(tactic| walk_at "at") => `(tactic| repeat (first | assumption | refine same_at' (by assumption) ?_))
local macro_rules | `(tactic| walk_at "sm") => `(tactic| repeat (first | exact Same.refl _ | assumption | refine Same.trans ?_ (by assumption)))
local macro_rules | `(tactic| walk_at "mk1") => `(tactic| first
  | with_reducible refine mk_new rfl fun _ _ _ _ _ _ => ?_
  | with_reducible refine lstK rfl fun _ _ _ _ _ => ?_
  | with_reducible refine tupK rfl fun _ _ _ _ _ => ?_
  | with_reducible refine mk_rule4 (SqL.of (by walk_at "at")) (SqL.of (by walk_at "at")) fun _ _ _ _ => ?_
  | with_reducible refine mk_rule (SqL.of (by walk_at "at")) (SqL.of (by walk_at "at")) fun _ _ _ _ => ?_
  | with_reducible refine c_refusal (SqL.of (by walk_at "at")) fun _ _ _ _ => ?_)
local macro_rules | `(tactic| walk_at "mk") => `(tactic| repeat (first | walk_at "rd2" | walk_at "mk1"))
local macro_rules | `(tactic| walk_at "ar1") => `(tactic| ((with_reducible refine r_I ?hh ?_); case hh => first | exact (show (0 : Int) < _ from by decide +kernel) | exact And.intro (by decide +kernel) (by decide +kernel) | exact Or.inr (And.intro (by decide +kernel) (by decide +kernel)) | exact Or.inl (And.intro (by decide +kernel) (by decide +kernel)) | exact And.intro (by decide +kernel) (And.intro (by decide +kernel) (by decide +kernel))))
local macro_rules | `(tactic| walk_at "ar") => `(tactic| repeat (first | walk_at "rd2" | walk_at "ar1"))

section
variable {P : Program} {w : World} {K : PySem.W.Frag} {mg : Str → Option Value} {base : Heap}
/-- what is handed in to a world -/
structure Hand (K : PySem.W.Frag) (H : Hp) (a b c d e f : Addr) (ts ms ws : List V) (W : Wd) : Prop where
  th : SqL K H a ts
  thA : Paired (ThingAt K H) ts W.things
  mq : SqL K H b ms
  mkA : Paired (MarkAt K H) ms W.marks
  dk : SqL K H c (W.dark.map V.str)
  wy : SqL K H d ws
  wyA : DpAll K H ws (W.ways.map wyD)
  vb : SqL K H e []
  rl : SqL K H f []
  z1 : W.things.length ≤ 20
  z2 : W.marks.length ≤ 10
  z3 : W.dark.length ≤ 10
  z4 : W.ways.length ≤ 10
theorem hand_mono {H H' : Hp} {a b c d e f : Addr} {ts ms ws : List V} {W : Wd} (s : Same H H') (h : Hand K H a b c d e f ts ms ws W) : Hand K H' a b c d e f ts ms ws W :=
  ⟨s.seq h.th, Paired.mapP h.thA fun _ _ q => thing_mono s q, s.seq h.mq, Paired.mapP h.mkA fun _ _ q => mark_mono s q, s.seq h.dk, s.seq h.wy, dpAll_mono s h.wyA, s.seq h.vb, s.seq h.rl, h.z1, h.z2, h.z3, h.z4⟩
def spWorld (K : PySem.W.Frag) : Sp := fun vs H Q _ => ∃ p dx a b c d e f ts ms ws W, vs = [.ref p, .ref a, .ref b, .ref c, .ref d, .ref e, .ref f] ∧ H p = some (.ins (He.ga K "World") dx []) ∧ Hand K (del p H) a b c d e f ts ms ws W ∧ GoodW W ∧
  ∀ H', WorldAt K H' (.ref p) W → (∀ b o, H b = some o → b ≠ p → H' b = some o) → Q .non H'
theorem mk_world {E : XK} {H : Hp} {Q : VK} {a b c d e f : Addr} {ts ms ws : List V} {W : Wd} (h : Hand K H a b c d e f ts ms ws W) (G : GoodW W)
    (q : ∀ p H', H p = none → Same H H' → WorldAt K H' (.ref p) W → Q (.ref p) H') : MakeK (He.ga K "World") (spWorld K) [.ref a, .ref b, .ref c, .ref d, .ref e, .ref f] H Q E := fun x dx nx nd ne =>
  ⟨x, dx, a, b, c, d, e, f, ts, ms, ws, W, rfl, upd_same, hand_mono (by rw [del_upd]; exact del_none (same_new nd) nx) h, G, fun H' hw k => ⟨rfl, q x H' nx (Same.made nx nd k) hw⟩⟩
theorem lk_things (a b c d : V) : (F_Verb a b c d).lookup ("things" : Str) = none := by kernel_rfl
theorem verb_but {H : Hp} {p C dx : Addr} {fs : List (Str × V)} {v x : V} {b : Vb} (hp : H p = some (.ins C dx fs)) (hl : fs.lookup ("things" : Str) = some x) (h : VerbAt K H v b) : VerbAt K (del p H) v b := by
  obtain ⟨q, dx2, qo, rfl, h1, h2⟩ := h
  have n1 : q ≠ p := fun z => by
    rw [z, hp] at h1
    injection h1 with h1
    injection h1 with _ _ h1
    rw [h1, lk_things] at hl
    cases hl
  refine ⟨q, dx2, qo, rfl, del_at h1 n1, ?_⟩
  rcases h2 with (h2 | ⟨ob, h2⟩) | h2
  · exact .inl (.inl (del_at h2 (ne_of h2 hp fun e => by cases e)))
  · exact .inl (.inr ⟨ob, del_at h2 (ne_of h2 hp fun e => by cases e)⟩)
  · exact .inr h2
theorem fr_new {H Hk : Hp} {p l : Addr} {o o' : HO} (hp : Hk p = some o) (nl : Hk l = none) : l ≠ p := fun z => by rw [z, hp] at nl; cases nl
theorem sc_World_new : FnScope ["self", "things", "marks", "dark", "ways", "verbs", "rules"] ["self", "things", "marks", "dark", "ways", "verbs", "rules"] (defScope s_World_new) := ⟨rfl, rfl, rfl, by decide +kernel, rfl, by decide +kernel, by decide +kernel⟩
theorem ok_World (t : T K mg) : C8.Mak P w K mg base 6 "World" (He.ga K "World") (spWorld K) [] := by
  have c_common_verbs := ok_common_verbs (P := P) (w := w) (base := base) t
  have c_is_well_made := ok_is_well_made (P := P) (w := w) (base := base) t
  have c_rules_fit := ok_rules_fit (P := P) (w := w) (base := base) t
  have c_common_rules := ok_common_rules (P := P) (w := w) (base := base) t
  have c_y := ok_you (P := P) (w := w) (base := base) t
  refine mak t.f_World_new t.k_World t.g_World sc_World_new (fun _ _ _ _ _ _ us hl => match us, hl with | [_, _, _, _, _, _, _], _ => rfl) (fun vs H Q E h => ?_) fun cdv A outer s H vs Q E hr h => ?_
  · obtain ⟨p, dx, a, b, c, d, e, f, ts, ms, ws, W, rfl, _⟩ := h
    rfl
  obtain ⟨p, dx, a, b, c, d, e, f, ts, ms, ws, W, rfl, hp, hd, G, k⟩ := h
  refine ⟨_, (pss_cons (ps_fld (L2.pv 0) (pe_callTy (cr_list (K := K) rfl) (by rfl) t.b_list (by decide +kernel) (pa_cons (L2.pv 1) pa_nil)) rfl)
      (pss_cons (ps_fld (L2.pv 0) (pe_callTy (cr_list (K := K) rfl) (by rfl) t.b_list (by decide +kernel) (pa_cons (L2.pv 2) pa_nil)) rfl)
      (pss_cons (ps_fld (L2.pv 0) (pe_callTy (cr_list (K := K) rfl) (by rfl) t.b_list (by decide +kernel) (pa_cons (L2.pv 3) pa_nil)) rfl)
      (pss_cons (ps_fld (L2.pv 0) (pe_callTy (cr_list (K := K) rfl) (by rfl) t.b_list (by decide +kernel) (pa_cons (L2.pv 4) pa_nil)) rfl)
      (pss_cons (ps_fld (L2.pv 0) (pe_callTy (cr_list (K := K) rfl) (by rfl) t.b_list (by decide +kernel) (pa_cons (L2.pv 5) pa_nil)) rfl)
      (pss_cons (ps_fld (L2.pv 0) (pe_callTy (cr_list (K := K) rfl) (by rfl) t.b_list (by decide +kernel) (pa_cons (L2.pv 6) pa_nil)) rfl)
      (pss_cons (ps_fld (L2.pv 0) (pe_op op_cat (pe_fld' (K := K) rfl (L2.pv 0) rfl) (pe_c0 c_common_verbs hr (by decide) (by rfl))) rfl)
      (pss_cons (ps_if (PW.pt (pw_or (pt_not (pt_val (C8.pe_c c_is_well_made hr (by decide) (by rfl) (pa_cons (L2.pv 0) pa_nil)))) (pw_or1 (pt_not (pt_val (C8.pe_c c_rules_fit hr (by decide) (by rfl) (pa_cons (L2.pv 0) pa_nil))))))) (pss_one ps_never) pss_nil)
      (pss_one (ps_fld (L2.pv 0) (pe_op op_cat (pe_fld' (K := K) rfl (L2.pv 0) rfl) (C8.pe_c c_common_rules hr (by decide) (by rfl) (pa_cons (C8.pe_mt0 c_y hr (by decide) (L2.pv 0)) (pa_cons (pe_fld' (K := K) rfl (L2.pv 0) rfl) pa_nil)))) rfl)))))))))), ?_⟩
  clear c_common_verbs c_is_well_made c_rules_fit c_common_rules c_y
  have q0 : (0 : Nat) ≤ 0 := Nat.le_refl 0
  have z0 : ([] : List (Str × V)).length ≤ 0 := Nat.le_refl 0
  -- things
  walk_at "go"
  refine r_list (del_le.seq hd.th) fun l1 H1 n1 s1 h1 => ?_
  walk_at "go"
  refine sfK1 (s1 _ _ hp) t.c_World t.n_World_things (Nat.le_trans z0 (by decide)) ?_
  have m1 : l1 ≠ p := fr_new (H := H) (o' := .own p) hp n1
  have d1 : Same (del p H) (del p (upd H1 p (.ins (He.ga K "World") dx (putF "things" (.ref l1) [])))) := by rw [del_upd]; exact del_mono s1
  generalize hG1 : upd H1 p (.ins (He.ga K "World") dx (putF "things" (.ref l1) [])) = G1 at d1 ⊢
  have p1 : G1 p = some (.ins (He.ga K "World") dx (putF "things" (.ref l1) [])) := by rw [← hG1]; exact upd_same
  have e1 : del p G1 l1 = some (.lst ts) := by rw [← hG1, del_upd]; exact del_at h1 m1
  -- marks
  walk_at "go"
  refine r_list ((d1.trans del_le).seq hd.mq) fun l2 H2 n2 s2 h2 => ?_
  walk_at "go"
  refine sfK1 (s2 _ _ p1) t.c_World t.n_World_marks (Nat.le_trans (putF_small z0) (by decide)) ?_
  have m2 : l2 ≠ p := fr_new (H := H) (o' := .own p) p1 n2
  have d2 : Same (del p G1) (del p (upd H2 p (.ins (He.ga K "World") dx (putF "marks" (.ref l2) (putF "things" (.ref l1) []))))) := by rw [del_upd]; exact del_mono s2
  generalize hG2 : upd H2 p (.ins (He.ga K "World") dx (putF "marks" (.ref l2) (putF "things" (.ref l1) []))) = G2 at d2 ⊢
  have p2 : G2 p = some (.ins (He.ga K "World") dx (putF "marks" (.ref l2) (putF "things" (.ref l1) []))) := by rw [← hG2]; exact upd_same
  have e2 : del p G2 l2 = some (.lst ms) := by rw [← hG2, del_upd]; exact del_at h2 m2
  -- dark
  walk_at "go"
  refine r_list (((d1.trans d2).trans del_le).seq hd.dk) fun l3 H3 n3 s3 h3 => ?_
  walk_at "go"
  refine sfK1 (s3 _ _ p2) t.c_World t.n_World_dark (Nat.le_trans (putF_small (putF_small z0)) (by decide)) ?_
  have m3 : l3 ≠ p := fr_new (H := H) (o' := .own p) p2 n3
  have d3 : Same (del p G2) (del p (upd H3 p (.ins (He.ga K "World") dx (putF "dark" (.ref l3) (putF "marks" (.ref l2) (putF "things" (.ref l1) [])))))) := by rw [del_upd]; exact del_mono s3
  generalize hG3 : upd H3 p (.ins (He.ga K "World") dx (putF "dark" (.ref l3) (putF "marks" (.ref l2) (putF "things" (.ref l1) [])))) = G3 at d3 ⊢
  have p3 : G3 p = some (.ins (He.ga K "World") dx (putF "dark" (.ref l3) (putF "marks" (.ref l2) (putF "things" (.ref l1) [])))) := by rw [← hG3]; exact upd_same
  have e3 : del p G3 l3 = some (.lst (W.dark.map V.str)) := by rw [← hG3, del_upd]; exact del_at h3 m3
  -- ways
  walk_at "go"
  refine r_list ((((d1.trans d2).trans d3).trans del_le).seq hd.wy) fun l4 H4 n4 s4 h4 => ?_
  walk_at "go"
  refine sfK1 (s4 _ _ p3) t.c_World t.n_World_ways (Nat.le_trans (putF_small (putF_small (putF_small z0))) (by decide)) ?_
  have m4 : l4 ≠ p := fr_new (H := H) (o' := .own p) p3 n4
  have d4 : Same (del p G3) (del p (upd H4 p (.ins (He.ga K "World") dx (putF "ways" (.ref l4) (putF "dark" (.ref l3) (putF "marks" (.ref l2) (putF "things" (.ref l1) []))))))) := by rw [del_upd]; exact del_mono s4
  generalize hG4 : upd H4 p (.ins (He.ga K "World") dx (putF "ways" (.ref l4) (putF "dark" (.ref l3) (putF "marks" (.ref l2) (putF "things" (.ref l1) []))))) = G4 at d4 ⊢
  have p4 : G4 p = some (.ins (He.ga K "World") dx (putF "ways" (.ref l4) (putF "dark" (.ref l3) (putF "marks" (.ref l2) (putF "things" (.ref l1) []))))) := by rw [← hG4]; exact upd_same
  have e4 : del p G4 l4 = some (.lst ws) := by rw [← hG4, del_upd]; exact del_at h4 m4
  -- verbs
  walk_at "go"
  refine r_list (((((d1.trans d2).trans d3).trans d4).trans del_le).seq hd.vb) fun l5 H5 n5 s5 h5 => ?_
  walk_at "go"
  refine sfK1 (s5 _ _ p4) t.c_World t.n_World_verbs (Nat.le_trans (putF_small (putF_small (putF_small (putF_small z0)))) (by decide)) ?_
  have m5 : l5 ≠ p := fr_new (H := H) (o' := .own p) p4 n5
  have d5 : Same (del p G4) (del p (upd H5 p (.ins (He.ga K "World") dx (putF "verbs" (.ref l5) (putF "ways" (.ref l4) (putF "dark" (.ref l3) (putF "marks" (.ref l2) (putF "things" (.ref l1) [])))))))) := by rw [del_upd]; exact del_mono s5
  generalize hG5 : upd H5 p (.ins (He.ga K "World") dx (putF "verbs" (.ref l5) (putF "ways" (.ref l4) (putF "dark" (.ref l3) (putF "marks" (.ref l2) (putF "things" (.ref l1) [])))))) = G5 at d5 ⊢
  have p5 : G5 p = some (.ins (He.ga K "World") dx (putF "verbs" (.ref l5) (putF "ways" (.ref l4) (putF "dark" (.ref l3) (putF "marks" (.ref l2) (putF "things" (.ref l1) [])))))) := by rw [← hG5]; exact upd_same
  have e5 : del p G5 l5 = some (.lst []) := by rw [← hG5, del_upd]; exact del_at h5 m5
  -- laid_rules
  walk_at "go"
  refine r_list ((((((d1.trans d2).trans d3).trans d4).trans d5).trans del_le).seq hd.rl) fun l6 H6 n6 s6 h6 => ?_
  walk_at "go"
  refine sfK1 (s6 _ _ p5) t.c_World t.n_World_laid_rules (Nat.le_trans (putF_small (putF_small (putF_small (putF_small (putF_small z0))))) (by decide)) ?_
  have m6 : l6 ≠ p := fr_new (H := H) (o' := .own p) p5 n6
  have d6 : Same (del p G5) (del p (upd H6 p (.ins (He.ga K "World") dx (putF "laid_rules" (.ref l6) (putF "verbs" (.ref l5) (putF "ways" (.ref l4) (putF "dark" (.ref l3) (putF "marks" (.ref l2) (putF "things" (.ref l1) []))))))))) := by rw [del_upd]; exact del_mono s6
  generalize hG6 : upd H6 p (.ins (He.ga K "World") dx (putF "laid_rules" (.ref l6) (putF "verbs" (.ref l5) (putF "ways" (.ref l4) (putF "dark" (.ref l3) (putF "marks" (.ref l2) (putF "things" (.ref l1) []))))))) = G6 at d6 ⊢
  have p6 : G6 p = some (.ins (He.ga K "World") dx (putF "laid_rules" (.ref l6) (putF "verbs" (.ref l5) (putF "ways" (.ref l4) (putF "dark" (.ref l3) (putF "marks" (.ref l2) (putF "things" (.ref l1) []))))))) := by rw [← hG6]; exact upd_same
  have e6 : del p G6 l6 = some (.lst []) := by rw [← hG6, del_upd]; exact del_at h6 m6
  -- whole_verbs
  walk_at "go"
  refine fldK (v := .ref l5) p6 t.c_World t.n_World_verbs (by kernel_rfl) ?_
  walk_at "go"
  refine ⟨rfl, fun l7 H7 us s7 n7 h7 hus => ?_⟩
  refine r_cat (s7 _ _ (del_le _ _ (d6 _ _ e5))) h7 (by rw [hus.length]; decide) fun l8 H8 n8 s8 h8 => ?_
  rw [List.nil_append] at h8
  walk_at "go"
  have p8 := s8 _ _ (s7 _ _ p6)
  refine sfK1 p8 t.c_World t.n_World_whole_verbs (Nat.le_trans (putF_small (putF_small (putF_small (putF_small (putF_small (putF_small z0)))))) (by decide)) ?_
  have m8 : l8 ≠ p := fr_new (H := H) (o' := .own p) (s7 _ _ p6) n8
  have us8 : Paired (VerbAt K (del p H8)) us vbs := Paired.mapP hus fun _ _ q => verb_but (x := .ref l1) p8 (by kernel_rfl) (verb_mono s8 q)
  have d8 : Same (del p G6) (del p (upd H8 p (.ins (He.ga K "World") dx (F_World (.ref l1) (.ref l2) (.ref l3) (.ref l4) (.ref l5) (.ref l6) (.ref l8))))) := by rw [del_upd]; exact del_mono (s7.trans s8)
  have v8 : Paired (VerbAt K (del p (upd H8 p (.ins (He.ga K "World") dx (F_World (.ref l1) (.ref l2) (.ref l3) (.ref l4) (.ref l5) (.ref l6) (.ref l8)))))) us vbs := by rw [del_upd]; exact us8
  have e8 : del p (upd H8 p (.ins (He.ga K "World") dx (F_World (.ref l1) (.ref l2) (.ref l3) (.ref l4) (.ref l5) (.ref l6) (.ref l8)))) l8 = some (.lst us) := by rw [del_upd]; exact del_at h8 m8
  generalize hG8 : upd H8 p (.ins (He.ga K "World") dx (F_World (.ref l1) (.ref l2) (.ref l3) (.ref l4) (.ref l5) (.ref l6) (.ref l8))) = G8 at d8 v8 e8
  have p8' : G8 p = some (.ins (He.ga K "World") dx (F_World (.ref l1) (.ref l2) (.ref l3) (.ref l4) (.ref l5) (.ref l6) (.ref l8))) := by rw [← hG8]; exact upd_same
  have D8 : Same (del p H) (del p G8) := (((((d1.trans d2).trans d3).trans d4).trans d5).trans d6).trans d8
  have hand := hand_mono D8 hd
  have c1 : del p G8 l1 = some (.lst ts) := d8 _ _ (d6 _ _ (d5 _ _ (d4 _ _ (d3 _ _ (d2 _ _ e1)))))
  have c2 : del p G8 l2 = some (.lst ms) := d8 _ _ (d6 _ _ (d5 _ _ (d4 _ _ (d3 _ _ e2))))
  have c3 : del p G8 l3 = some (.lst (W.dark.map V.str)) := d8 _ _ (d6 _ _ (d5 _ _ (d4 _ _ e3)))
  have c4 : del p G8 l4 = some (.lst ws) := d8 _ _ (d6 _ _ (d5 _ _ e4))
  have c5 : del p G8 l5 = some (.lst []) := d8 _ _ (d6 _ _ e5)
  have c6 : del p G8 l6 = some (.lst []) := d8 _ _ e6
  have mkW : ∀ (Hk : Hp) (fs : List (Str × V)), Same (del p G8) (del p Hk) → Hk p = some (.ins (He.ga K "World") dx fs) → FW (.ref l1) (.ref l2) (.ref l3) (.ref l4) (.ref l5) (.ref l6) (.ref l8) fs → WorldAt K Hk (.ref p) W := fun Hk fs s hk hf =>
    ⟨p, dx, l1, l2, l3, l4, l5, l6, l8, fs, ts, ms, ws, us, rfl, hk, hf, del_le _ _ (s _ _ c1), Paired.mapP hand.thA fun _ _ q => thing_mono (s.trans del_le) q, del_le _ _ (s _ _ c2), Paired.mapP hand.mkA fun _ _ q => mark_mono (s.trans del_le) q,
      del_le _ _ (s _ _ c3), del_le _ _ (s _ _ c4), dpAll_mono (s.trans del_le) hand.wyA, del_le _ _ (s _ _ c5), del_le _ _ (s _ _ c6), del_le _ _ (s _ _ e8), Paired.mapP v8 fun _ _ q => verb_mono (s.trans del_le) q, hd.z1, hd.z2, hd.z3, hd.z4⟩
  have hW := mkW G8 _ (Same.refl _) p8' (.inl rfl)
  have hG8' : upd H8 p (.ins (He.ga K "World") dx (putF "whole_verbs" (.ref l8) (putF "laid_rules" (.ref l6) (putF "verbs" (.ref l5) (putF "ways" (.ref l4) (putF "dark" (.ref l3) (putF "marks" (.ref l2) (putF "things" (.ref l1) [])))))))) = G8 := hG8
  rw [hG8']
  clear hG1 hG2 hG3 hG4 hG5 hG6 e1 e2 e3 e4 e5 e6 h1 h2 h3 h4 h5 h6 n1 n2 n3 n4 n5 n6
  walk_at "go"
  refine ⟨⟨.ref p, W, rfl, hW, G⟩, fun H9 s9 => ?_⟩
  walk_at "go"
  refine ⟨⟨.ref p, W, rfl, world_mono s9 hW, G⟩, fun H10 s10 => ?_⟩
  have s010 := s9.trans s10
  walk_at "go"
  refine wf_laid t hW s010 fun a9 ha9 => ?_
  walk_at "go"
  refine world_mt hW s010 (by simp [wmeths]) ?_
  walk_at "go"
  obtain ⟨y, hy⟩ : ∃ y, W.kind "you" = [y] := by
    have := G.y1
    match h : W.kind "you", this with
    | [y], _ => exact ⟨y, rfl⟩
  refine ⟨.ref p, W, y, [], rfl, world_mono s010 hW, hy, fun H11 s11 => ?_⟩
  have s011 := s010.trans s11
  walk_at "go"
  refine wf_ways t hW s011 fun a10 ws10 ha10 hp10 => ?_
  walk_at "go"
  refine ⟨y, a10, W.ways, rfl, .lst (.of (s011 _ _ ha10)) (dpAll_mono s011 hp10), by have := hd.z4; omega, fun l12 H12 xs12 s12 h12 z12 => ?_⟩
  have s012 := s011.trans s12
  refine r_cat (s012 _ _ ha9) h12 (by simp; omega) fun l13 H13 n13 s13 h13 => ?_
  have s013 := s012.trans s13
  walk_at "go"
  refine sfK1 (s013 _ _ p8') t.c_World t.n_World_whole_rules (Nat.le_trans (putF_small (putF_small (putF_small (putF_small (putF_small (putF_small (putF_small z0))))))) (by decide)) ?_
  refine k _ (mkW _ _ (by rw [del_upd]; exact del_mono s013) upd_same (.inr ⟨_, rfl⟩)) fun b o hb hne => ?_
  rw [upd_ne hne]
  exact s013 _ _ (del_le _ _ (D8 _ _ (del_at hb hne)))
end
end Tw
set_option maxHeartbeats 4000000
/-! sorted of parts (the keys of a dict) and of the items of a stand: the same items in some order. -/
namespace Tw
open PySem PySem.Spec L2 PyProof.Rows
def SPair (h : Heap) (v : Value) (p : Part) : Prop := ∃ a o t u n, v = .ref a ∧ h.get? a = some o ∧ o.cls = .type "tuple" ∧ o.data = .seq #[.str p.1 t, .str p.2 u] n
theorem SPair.keeps {h h' : Heap} {v : Value} {p : Part} (q : SPair h v p) (k : ∀ b o, h.get? b = some o → o.cls = .type "tuple" → h'.get? b = some o) : SPair h' v p := by
  obtain ⟨a, o, t, u, n, e, ho, hc, hd⟩ := q
  exact ⟨a, o, t, u, n, e, k _ _ ho hc, hc, hd⟩
theorem SPair.reads {h : Heap} {v : Value} {p : Part} (q : SPair h v p) : ∃ as, Reads h v (partD p) as := by
  obtain ⟨a, o, t, u, n, e, ho, hc, hd⟩ := q
  subst e
  exact ⟨_, Reads.tuple ho hc hd (.cons (.str _ _) (.cons (.str _ _) .nil))⟩
theorem SPair.inj {h : Heap} {v : Value} {p p' : Part} (q : SPair h v p) (q' : SPair h v p') : p = p' := by
  obtain ⟨a, o, t, u, n, e, ho, hc, hd⟩ := q
  obtain ⟨a', o', t', u', n', e', ho', hc', hd'⟩ := q'
  subst e
  cases e'
  rw [ho] at ho'
  cases ho'
  rw [hd] at hd'
  cases p
  cases p'
  cases hd'
  rfl
def SItem (h : Heap) (v : Value) (p : Part) (x : Value) : Prop := ∃ a o n b, v = .ref a ∧ h.get? a = some o ∧ o.cls = .type "tuple" ∧ o.data = .seq #[b, x] n ∧ SPair h b p
theorem SItem.keeps {h h' : Heap} {v x : Value} {p : Part} (q : SItem h v p x) (k : ∀ b o, h.get? b = some o → o.cls = .type "tuple" → h'.get? b = some o) : SItem h' v p x := by
  obtain ⟨a, o, n, b, e, ho, hc, hd, hp⟩ := q
  exact ⟨a, o, n, b, e, k _ _ ho hc, hc, hd, hp.keeps k⟩
theorem SItem.inj {h : Heap} {v x x' : Value} {p p' : Part} (q : SItem h v p x) (q' : SItem h v p' x') : p = p' ∧ x = x' := by
  obtain ⟨a, o, n, b, e, ho, hc, hd, hp⟩ := q
  obtain ⟨a', o', n', b', e', ho', hc', hd', hp'⟩ := q'
  subst e
  cases e'
  rw [ho] at ho'
  cases ho'
  rw [hd] at hd'
  cases hd'
  exact ⟨hp.inj hp', rfl⟩
section
variable {prog : Program} {w : World} {A : Around} {s : Shared}
theorem spair_tot {vs : List Value} (hp : ∀ v ∈ vs, ∃ p, SPair s.heap v p) : Srt.Tot prog w A s (tuples' true) (fun p => p.1 ∈ vs) := by
  intro p q hm hm'
  obtain ⟨⟨x, y⟩, a, o, t, u, n, e, ho, hc, hd⟩ := hp _ hm
  obtain ⟨⟨x', y'⟩, a', o', t', u', n', e', ho', hc', hd'⟩ := hp _ hm'
  rw [e, e']
  refine ⟨if (x == x') = true then (if (y == y') = true then false else decide (y.cps.toList < y'.cps.toList)) else decide (x.cps.toList < x'.cps.toList), ?_⟩
  refine PySem.W.kat_lt ho hd ho' hd' ?_
  show PySem.W.KatLex prog w A true (decide (2 < 2)) _ [(.str x t, .str x' t'), (.str y u, .str y' u')] 0 s
  refine PySem.W.kat_cons (SeqAt.EqAt.str_str x t x' t' prog w _ _ ?_)
  refine PySem.W.kat_go (fun e1 => ?_) (fun e1 => ?_)
  · refine PySem.W.kat_yes (PySem.W.kat_cons (SeqAt.EqAt.str_str y u y' u' prog w _ _ ?_))
    refine PySem.W.kat_go (fun e2 => ?_) (fun e2 => ?_)
    · exact PySem.W.kat_yes (PySem.W.kat_nil ⟨rfl, by rw [if_pos e1, if_pos e2]; rfl⟩)
    · exact PySem.W.kat_no (PySem.W.kat_one _ _ (PyProof.Rows.lt_str ⟨rfl, by rw [if_pos e1, e2, if_neg Bool.false_ne_true]⟩))
  · exact PySem.W.kat_no (oneLt_str ⟨rfl, by rw [e1, if_neg Bool.false_ne_true]⟩)
theorem sitem_tot {vs : List Value} (hu : A.units + 10 < cLine) (hp : ∀ v ∈ vs, ∃ p x, SItem s.heap v p x) (hi : ∀ v v' p x x', v ∈ vs → v' ∈ vs → SItem s.heap v p x → SItem s.heap v' p x' → v = v') : Srt.Tot prog w A s (tuples' false) (fun p => p.1 ∈ vs) := by
  intro p q hm hm'
  obtain ⟨k, x, i1⟩ := hp _ hm
  obtain ⟨k', x', i2⟩ := hp _ hm'
  have hi' := hi p.1 q.1 k x x' hm hm' i1
  obtain ⟨a, o, n, b, e, ho, hc, hd, h1⟩ := id i1
  obtain ⟨a', o', n', b', e', ho', hc', hd', h2⟩ := id i2
  obtain ⟨as, r1⟩ := h1.reads
  obtain ⟨as', r2⟩ := h2.reads
  have al : PySem.W.alike (partD k) (partD k') = true := by simp [partD, PySem.W.alike, PySem.W.alikeAll]
  have dp : A.units + min (partD k).depth (partD k').depth < cLine := by
    have : (partD k).depth ≤ 5 := by simp [partD, PyData.depth, PyData.depthAll]
    omega
  have ev := eqv_part k k'
  rw [e, e']
  refine ⟨if decide (k = k') = true then false else PySem.W.dataLt (partD k) (partD k'), ?_⟩
  refine PySem.W.kat_lt ho hd ho' hd' ?_
  show PySem.W.KatLex prog w A false (decide (2 < 2)) _ [(b, b'), (x, x')] 0 s
  refine PySem.W.kat_cons (PySem.W.eqAt_alike _ _ _ s b b' as as' r1 r2 al dp prog w _ _ ?_)
  rw [ev]
  refine PySem.W.kat_go (fun e1 => ?_) (fun e1 => ?_)
  · have ek := of_decide_eq_true e1
    subst ek
    have evv := hi' i2
    rw [evv] at i1
    obtain ⟨_, rfl⟩ := i1.inj i2
    refine PySem.W.kat_yes (PySem.W.kat_cons (SeqAt.EqAt.same x prog w _ _ ?_))
    exact PySem.W.kat_yes (PySem.W.kat_nil ⟨rfl, by rw [if_pos e1]; rfl⟩)
  · exact PySem.W.kat_no (PySem.W.oneLt_alike (fun h => by cases h) r1 r2 al (fun h => by cases h) dp ⟨rfl, by rw [e1, if_neg Bool.false_ne_true]⟩)
theorem spair_firsts {h : Heap} : ∀ {vs : List Value}, (∀ v ∈ vs, ∃ p, SPair h v p) → ∃ fs : List Value, PySem.W.KatTups h vs fs ∧ fs.length = vs.length ∧ ∀ f ∈ fs, ∃ x t, f = Value.str x t
  | [], _ => ⟨[], PySem.W.KatTups.nil, rfl, fun _ hm => by simp at hm⟩
  | v :: vs, hp => by
    obtain ⟨fs, h1, h2, h3⟩ := spair_firsts (vs := vs) fun v' hm => hp v' (List.mem_cons_of_mem _ hm)
    obtain ⟨⟨x, y⟩, a, o, t, u, n, e, ho, hc, hd⟩ := hp v (List.mem_cons_self ..)
    subst e
    refine ⟨.str x t :: fs, PySem.W.KatTups.cons ho hc hd rfl h1, by rw [List.length_cons, List.length_cons, h2], fun f hm => ?_⟩
    rcases List.mem_cons.mp hm with rfl | hm
    · exact ⟨x, t, rfl⟩
    · exact h3 f hm
theorem sitem_firsts {h : Heap} : ∀ {vs : List Value}, (∀ v ∈ vs, ∃ p x, SItem h v p x) → ∃ fs : List Value, PySem.W.KatTups h vs fs ∧ fs.length = vs.length ∧ ∀ f ∈ fs, ∃ p, SPair h f p
  | [], _ => ⟨[], PySem.W.KatTups.nil, rfl, fun _ hm => by simp at hm⟩
  | v :: vs, hp => by
    obtain ⟨fs, h1, h2, h3⟩ := sitem_firsts (vs := vs) fun v' hm => hp v' (List.mem_cons_of_mem _ hm)
    obtain ⟨p, x, a, o, n, b, e, ho, hc, hd, hq⟩ := hp v (List.mem_cons_self ..)
    subst e
    refine ⟨b :: fs, PySem.W.KatTups.cons ho hc hd rfl h1, by rw [List.length_cons, List.length_cons, h2], fun f hm => ?_⟩
    rcases List.mem_cons.mp hm with rfl | hm
    · exact ⟨p, hq⟩
    · exact h3 f hm
theorem spairs_sortable {a : Addr} {vs : List Value} (h0 : 0 < vs.length) (hp : ∀ v ∈ vs, ∃ p, SPair s.heap v p) (ha : ∀ o, s.heap.get? a = some o → o.cls ≠ .type "tuple") : Srt.Sortable prog w A s a vs := by
  intro h' keep
  have hp' : ∀ v ∈ vs, ∃ p, SPair h' v p := fun v hm => by
    obtain ⟨p, q⟩ := hp v hm
    exact ⟨p, q.keeps fun b o e c => keep b o (fun z => by subst z; exact ha o e c) e⟩
  obtain ⟨fs, h1, h2, h3⟩ := spair_firsts hp'
  refine ⟨tuples' true, fun Q E hq => ?_, spair_tot hp'⟩
  refine PySem.W.kat_kind (T := .type "str") h1 (by omega) (fun f hm => ?_) (by rfl) ?_
  · obtain ⟨x, t, rfl⟩ := h3 f hm
    exact PySem.W.Looks.now
  · have e : (Value.type "str" != Value.type "tuple") = true := by first | decide +kernel | rfl | decide
    rw [e]
    exact hq
theorem sitems_sortable {a : Addr} {vs : List Value} (hu : A.units + 10 < cLine) (h0 : 0 < vs.length) (hp : ∀ v ∈ vs, ∃ p x, SItem s.heap v p x) (hi : ∀ v v' p x x', v ∈ vs → v' ∈ vs → SItem s.heap v p x → SItem s.heap v' p x' → v = v')
    (ha : ∀ o, s.heap.get? a = some o → o.cls ≠ .type "tuple") : Srt.Sortable prog w A s a vs := by
  intro h' keep
  have kp : ∀ b o, s.heap.get? b = some o → o.cls = .type "tuple" → h'.get? b = some o := fun b o e c => keep b o (fun z => by subst z; exact ha o e c) e
  have hp' : ∀ v ∈ vs, ∃ p x, SItem h' v p x := fun v hm => by
    obtain ⟨p, x, q⟩ := hp v hm
    exact ⟨p, x, q.keeps kp⟩
  have hi' : ∀ v v' p x x', v ∈ vs → v' ∈ vs → SItem h' v p x → SItem h' v' p x' → v = v' := fun v v' p x x' m m' i i' => by
    obtain ⟨q, y, j⟩ := hp v m
    obtain ⟨q', y', j'⟩ := hp v' m'
    obtain ⟨rfl, rfl⟩ := i.inj (j.keeps kp)
    obtain ⟨rfl, rfl⟩ := i'.inj (j'.keeps kp)
    exact hi v v' p _ _ m m' j j'
  obtain ⟨fs, h1, h2, h3⟩ := sitem_firsts hp'
  refine ⟨tuples' false, fun Q E hq => ?_, sitem_tot hu hp' hi'⟩
  refine PySem.W.kat_kind (T := .type "tuple") h1 (by omega) (fun f hm => ?_) (by rfl) ?_
  · obtain ⟨p, b, o, t, u, n, rfl, ho, hc, hd⟩ := h3 f hm
    have : PySem.W.Looks (model prog w) h' (typeOf (.ref b)) o.cls := (PySem.W.Looks.ld ho).andThen .now
    rw [hc] at this
    exact this
  · have e : (Value.type "tuple" != Value.type "tuple") = false := by first | decide +kernel | rfl | decide
    rw [e]
    exact hq
end
section
variable {X : Cx}
theorem vals_two {h : Heap} {P : Program} {w : World} {H : Hp} (hok : HOk P w H h) {t : Addr} {x y : V} (ht : H t = some (.tup [x, y])) : ∃ o u1 u2 n, h.get? t = some o ∧ o.cls = .type "tuple" ∧ o.data = .seq #[u1, u2] n ∧ RelV x u1 ∧ RelV y u2 := by
  obtain ⟨_, its2, r2, o, ho, hc, n, hd⟩ := hok _ _ ht
  obtain ⟨u1, u2, rfl, ri, rj⟩ := vals2 r2
  exact ⟨o, u1, u2, n, ho, hc, hd, ri, rj⟩
theorem spair_of {h : Heap} {P : Program} {w : World} {H : Hp} (hok : HOk P w H h) {b : Addr} {p : Part} (hb : H b = some (.tup [.str p.1, .str p.2])) : SPair h (.ref b) p := by
  obtain ⟨o, u1, u2, n, ho, hc, hd, r1, r2⟩ := vals_two hok hb
  obtain ⟨t1, rfl⟩ := r1
  obtain ⟨t2, rfl⟩ := r2
  exact ⟨b, o, t1, t2, n, rfl, ho, hc, hd⟩
/-- an item of a stand, tracked -/
def ItAt (H : Hp) (x : V) (p : Part) (y : V) : Prop := ∃ t b, x = V.ref t ∧ H t = some (.tup [.ref b, y]) ∧ H b = some (.tup [.str p.1, .str p.2])
theorem ItAt.inj {H : Hp} {x y y' : V} {p p' : Part} (q : ItAt H x p y) (q' : ItAt H x p' y') : p = p' := by
  obtain ⟨t, b, e, h1, h2⟩ := q
  obtain ⟨t', b', e', h1', h2'⟩ := q'
  subst e
  cases e'
  rw [h1] at h1'
  cases h1'
  rw [h2] at h2'
  cases p
  cases p'
  cases h2'
  rfl
/-- sorted(xs), xs the items of a stand, no two of a part: the same items, in some order -/
def rSortedI (K : PySem.W.Frag) : List V → Hp → VK → Prop := fun vs H Q => ∃ a xs, vs = [V.ref a] ∧ SqL K H a xs ∧ (∀ x ∈ xs, ∃ p y, ItAt H x p y) ∧ (∀ x x' p y y', x ∈ xs → x' ∈ xs → ItAt H x p y → ItAt H x' p y' → x = x') ∧
  ∀ ys p, ys.Perm xs → H p = none → Q (.ref p) (upd H p (.lst ys))
theorem cr_sortedI (hu : X.A.units + 64 < cLine) : CallR X (.builtin "sorted") (rSortedI X.K) := by
  intro pins s σ H vs us Q I r h
  obtain ⟨a, xs, rfl, hs, hx, hj, q⟩ := h
  obtain ⟨its, rv, hl, hz⟩ := I.list hs
  obtain ⟨u, rfl, ru⟩ := vals1 r
  obtain rfl : u = Value.ref a := ru
  obtain ⟨e1, e2⟩ := refs_back rv fun x m => by
    obtain ⟨p, y, t, b, e, _⟩ := hx x m
    exact ⟨t, e⟩
  have hI : ∀ v ∈ its, ∃ p x, SItem s.heap v p x := fun v hv => by
    obtain ⟨t, rfl⟩ := e2 v hv
    have hm : V.ref t ∈ xs := by rw [e1]; exact List.mem_map.mpr ⟨_, hv, rfl⟩
    obtain ⟨p, y, t', b, e, ht, hb⟩ := hx _ hm
    cases e
    obtain ⟨o, u1, u2, n, ho, hc, hd, r1, r2⟩ := vals_two I.hok ht
    obtain rfl : u1 = Value.ref b := r1
    exact ⟨p, u2, t, o, n, _, rfl, ho, hc, hd, spair_of I.hok hb⟩
  have hJ : ∀ v v' p x x', v ∈ its → v' ∈ its → SItem s.heap v p x → SItem s.heap v' p x' → v = v' := fun v v' p x x' hv hv' i i' => by
    obtain ⟨t, rfl⟩ := e2 v hv
    obtain ⟨t2, rfl⟩ := e2 v' hv'
    have hm : V.ref t ∈ xs := by rw [e1]; exact List.mem_map.mpr ⟨_, hv, rfl⟩
    have hm2 : V.ref t2 ∈ xs := by rw [e1]; exact List.mem_map.mpr ⟨_, hv', rfl⟩
    have key : ∀ t, V.ref t ∈ xs → ∀ p x, SItem s.heap (.ref t) p x → ∃ y, ItAt H (.ref t) p y := fun t hm p x i => by
      obtain ⟨p0, y, t', b, e, ht, hb⟩ := hx _ hm
      cases e
      obtain ⟨o, u1, u2, n, ho, hc, hd, r1, r2⟩ := vals_two I.hok ht
      obtain rfl : u1 = Value.ref b := r1
      have i0 : SItem s.heap (.ref t) p0 u2 := ⟨t, o, n, _, rfl, ho, hc, hd, spair_of I.hok hb⟩
      obtain ⟨rfl, _⟩ := i.inj i0
      exact ⟨y, t, b, rfl, ht, hb⟩
    obtain ⟨y, j⟩ := key t hm p x i
    obtain ⟨y', j'⟩ := key t2 hm2 p x' i'
    cases hj _ _ p y y' hm hm2 j j'
    rfl
  refine Srt.sorted_any hl.isList (by rw [← rv.length]; exact hz) (fun h2 h₁ a ha k => ?_) fun out ho => ?_
  · have kp : ∀ b o, s.heap.get? b = some o → o.cls = .type "tuple" → h₁.get? b = some o := fun b o e _ => (k b o e).2
    refine sitems_sortable (s := { s with heap := h₁ }) ?_ (by omega) (fun v hm => ?_) (fun v v' p x x' m m' i i' => ?_) fun o e => ?_
    · simp only [Around.in1_units]
      omega
    · obtain ⟨p, x, q⟩ := hI v hm
      exact ⟨p, x, q.keeps kp⟩
    · obtain ⟨p1, y1, q1⟩ := hI v m
      obtain ⟨p2, y2, q2⟩ := hI v' m'
      obtain ⟨rfl, rfl⟩ := i.inj (q1.keeps kp)
      obtain ⟨rfl, rfl⟩ := i'.inj (q2.keeps kp)
      exact hJ v v' p _ _ m m' q1 q2
    · have e' : some o = some (seqObj "list" its.toArray 0) := e.symm.trans ha
      cases e'
      intro c
      exact absurd (Value.type.inj c) (by decide)
  · have h3 : ∀ u ∈ out, ∃ a, u = Value.ref a := fun u hu => e2 u (ho.mem_iff.mp hu)
    obtain ⟨n, hn⟩ := sortedAll_at s.heap its out.toArray
    refine ⟨.ref (s.heap.objs.size + 1), upd H (s.heap.objs.size + 1) (.lst (out.map backV)), I.laid (t' := s.toks) (fun b o e => sortedAll_old e) (Nat.le_succ _) ⟨?_, out, n, vals_back h3, hn⟩, rfl, q _ _ ?_ (I.hok.fresh (Nat.le_succ _))⟩
    · rw [List.length_map, ho.length_eq, ← rv.length]; exact hz
    · rw [e1]; exact ho.map backV
/-- sorted(d), d a dict of parts: the parts, in some order -/
def rSortedK : List V → Hp → VK → Prop := fun vs H Q => ∃ (d : Addr) (kvs : List (List Key × V)) (ps : List Part), vs = [V.ref d] ∧ Rd H d (.dT kvs) ∧ kvs.map (·.1) = ps.map (fun p => [Sum.inr p.1, Sum.inr p.2]) ∧
  ∀ (p : Addr) (bs : List Addr), H p = none → (∀ b ∈ bs, ∃ q ∈ ps, H b = some (.tup [.str q.1, .str q.2])) → (∀ q ∈ ps, ∃ b ∈ bs, H b = some (.tup [.str q.1, .str q.2])) → bs.length = ps.length → Q (.ref p) (upd H p (.lst (bs.map V.ref)))
theorem cr_sortedK (hcalm : X.calm = true) : CallR X (.builtin "sorted") rSortedK := by
  intro pins s σ H vs us Q I r h
  obtain ⟨d, kvs, ps, rfl, hd, hps, q⟩ := h
  obtain ⟨u, rfl, rx⟩ := vals1 r
  obtain rfl : u = Value.ref d := rx
  obtain ⟨z, hs, ks, pr, o, es, ep, ho, hx, hdt, he, hn⟩ := (show ObjOk X.prog X.w H s.heap d (.dT kvs) from hd.ok I.hok)
  have l1 : es.size = ks.length := size_of_entries he
  have l2 : kvs.length = ks.length := Paired.length pr
  have l3 : kvs.length = ps.length := by
    have := congrArg List.length hps
    rwa [List.length_map, List.length_map] at this
  refine Calls.call_function_entry PyProof.Rows.kind_sorted PyProof.Rows.plain_sorted PyProof.Rows.entry_sorted (PyProof.Rows.args_sorted1 _) ?_
  unfold Builtin.«sorted»
  refine wpAny_bind (m := checkCount "sorted" 1 1 _) (wpAny_pure ?_)
  refine wpAny_bind (PySem.W.kdu_collect (A := X.A.in1) (kdl_raw hs hx hdt) (I.ok.hd hcalm) ho (by omega) fun h' tk acc hk hacc => ?_)
  have ea : acc.toList = ks.map fun x => Value.ref x.2.1 := by
    have hl : acc.toList.length = ks.length := by rw [Array.length_toList, hacc.1]; exact l1
    apply List.ext_getElem?
    intro j
    rw [List.getElem?_map]
    cases hj : acc.toList[j]? with
    | none =>
      have h1 := List.getElem?_eq_none_iff.mp hj
      rw [List.getElem?_eq_none (by omega)]
      all_goals rfl
    | some v =>
      obtain ⟨en, hen, hv⟩ := hacc.2 j v (by rw [← Array.getElem?_toList]; exact hj)
      have qe := entry_at he j
      rw [hen] at qe
      cases hb : ks[j]? with
      | none =>
        rw [hb] at qe
        exact nomatch (show some en = none from qe)
      | some b =>
        rw [hb] at qe
        have e2 : en = entryOfKey (tupleKind (mixKind X.prog X.w)) b := Option.some.inj qe
        rw [hv, e2]
        all_goals rfl
  have eb : acc.toList = (ks.map fun x => x.2.1).map Value.ref := by rw [ea, List.map_map]; all_goals rfl
  have I1 : Inv X pins σ H { s with heap := h', toks := tk } := I.kept hk
  have kb := isKeys_of pr
  generalize (ks.map fun x => x.2.1) = bs at eb kb
  have lb : kvs.length = bs.length := Paired.length kb
  have hal : acc.toList.length ≤ sizeLine := by rw [eb, List.length_map]; omega
  have hkey : ∀ (i : Nat) b, bs[i]? = some b → ∃ p, ps[i]? = some p ∧ H b = some (.tup [.str p.1, .str p.2]) := fun i b hb => by
    have hlt := get_lt hb
    have hlt2 : i < kvs.length := by omega
    obtain ⟨b', hb', g⟩ := paired_get' kb (List.getElem?_eq_getElem hlt2)
    rw [hb] at hb'
    cases hb'
    have hlt3 : i < ps.length := by omega
    refine ⟨ps[i], List.getElem?_eq_getElem hlt3, ?_⟩
    have e1 : (kvs.map (·.1))[i]? = some kvs[i].1 := by rw [List.getElem?_map, List.getElem?_eq_getElem hlt2]; rfl
    rw [hps, List.getElem?_map, List.getElem?_eq_getElem hlt3] at e1
    have e2 : [Sum.inr ps[i].1, Sum.inr ps[i].2] = kvs[i].1 := Option.some.inj e1
    rw [← e2] at g
    exact g
  refine wpAny_bind (wpAny_newList ?_ hal)
  have hoL : (h'.push (seqObj "list" acc.toList.toArray 0)).get? h'.objs.size = some (seqObj "list" acc.toList.toArray 0) := Heap.get?_push_size _ rfl
  show wpAny _ _ _ _ _ { s with heap := h'.push (seqObj "list" acc.toList.toArray 0), toks := tk }
  refine wpAny_bind (wpAny_holding (wpAny_call_entry PyProof.Rows.slot_list_sort ⟨_, hoL, rfl⟩ PyProof.Rows.entry_list_sort
    (Srt.list_sort_any (s := { s with heap := h'.push (seqObj "list" acc.toList.toArray 0), toks := tk }) hoL hal (fun h2 => ?_) fun out hp => ⟨_, rfl, ?_⟩)
    (PyProof.Rows.args_list_sort _)))
  · refine spairs_sortable (by omega) (fun v hv => ?_) fun o e => ?_
    · rw [eb] at hv
      obtain ⟨b, hb, rfl⟩ := List.mem_map.mp hv
      obtain ⟨i, hi⟩ := List.mem_iff_getElem?.mp hb
      obtain ⟨p, _, g⟩ := hkey i b hi
      exact ⟨p, (spair_of I1.hok g).keeps fun b o e _ => Heap.get?_push_of_some _ e⟩
    · have e' : some o = some (seqObj "list" acc.toList.toArray 0) := e.symm.trans hoL
      cases e'
      intro c
      exact absurd (Value.type.inj c) (by decide)
  · obtain ⟨e', he'⟩ := PyProof.Rows.sortedHeap_at (vs := acc.toList) (out := out.toArray) hoL
    rw [eb] at hp
    have h3 : ∀ u ∈ out, ∃ a, u = Value.ref a := fun u hu => by
      obtain ⟨b, _, rfl⟩ := List.mem_map.mp (hp.mem_iff.mp hu)
      exact ⟨b, rfl⟩
    obtain ⟨cs, rfl⟩ : ∃ cs : List Addr, out = cs.map Value.ref := by
      clear hp he' e'
      induction out with
      | nil => exact ⟨[], rfl⟩
      | cons u r ih =>
        obtain ⟨b, rfl⟩ := h3 u List.mem_cons_self
        obtain ⟨cs, rfl⟩ := ih fun y hy => h3 y (List.mem_cons_of_mem _ hy)
        exact ⟨b :: cs, rfl⟩
    have hmem : ∀ b, b ∈ cs ↔ b ∈ bs := fun b => by
      have := hp.mem_iff (a := Value.ref b)
      constructor
      · intro hb
        obtain ⟨c, hc, e⟩ := List.mem_map.mp (this.mp (List.mem_map.mpr ⟨b, hb, rfl⟩))
        cases e
        exact hc
      · intro hb
        obtain ⟨c, hc, e⟩ := List.mem_map.mp (this.mpr (List.mem_map.mpr ⟨b, hb, rfl⟩))
        cases e
        exact hc
    have hlen : cs.length = bs.length := by
      have := hp.length_eq
      rwa [List.length_map, List.length_map] at this
    refine wpAny_pure ⟨_, rfl, .ref h'.objs.size, upd H h'.objs.size (.lst (cs.map V.ref)), I1.laid (t' := tk) (fun b u e => ?_) (Nat.le_refl _)
      (show ObjOk X.prog X.w _ _ _ (.lst (cs.map V.ref)) from ⟨by rw [List.length_map]; omega, cs.map Value.ref, e', vals_refs cs, he'⟩), rfl, q _ cs (I1.hok.fresh (Nat.le_refl _)) (fun b hb => ?_) (fun p hp => ?_) (by omega)⟩
    · have hb : b < h'.objs.size := Heap.lt_size e
      rw [PyProof.Rows.sortedHeap_old (Nat.ne_of_lt hb) (by rw [size_push']; exact Nat.lt_succ_of_lt hb)]
      exact Heap.get?_push_of_some _ e
    · obtain ⟨i, hi⟩ := List.mem_iff_getElem?.mp ((hmem b).mp hb)
      obtain ⟨p, hp, g⟩ := hkey i b hi
      exact ⟨p, List.mem_of_getElem? hp, g⟩
    · obtain ⟨i, hi⟩ := List.mem_iff_getElem?.mp hp
      have hlt := get_lt hi
      have hlt2 : i < bs.length := by omega
      obtain ⟨p', hp', g⟩ := hkey i _ (List.getElem?_eq_getElem hlt2)
      rw [hi] at hp'
      cases hp'
      exact ⟨_, (hmem _).mpr (List.getElem_mem hlt2), g⟩
end
end Tw
set_option maxHeartbeats 4000000
/-! What terms mean; rooms and holders. -/
namespace Tw
open PySem PySem.Spec L2
local macro_rules | `(tactic| walk_at "rd1") => `(tactic| first
  | with_reducible refine x_seq ?_
  | ((with_reducible refine x_var (v := ?vv) ?hh ?_); case hh => exact rfl)
  | with_reducible refine x_c ?_
  | with_reducible refine x_op ?_
  | with_reducible refine x_fld ?_
  | with_reducible refine x_call ?_
  | with_reducible refine x_meth ?_
  | with_reducible refine x_make ?_
  | with_reducible refine x_cb ?_
  | with_reducible refine x_tup ?_
  | with_reducible refine x_lst ?_
  | with_reducible refine x_nil ?_
  | with_reducible refine x_cons ?_
  | with_reducible refine x_asg ?_
  | with_reducible refine x_name ?_
  | with_reducible refine x_ret ?_
  | with_reducible refine x_retN ?_
  | with_reducible refine x_drop ?_
  | with_reducible refine x_ifS ?_
  | with_reducible refine x_if ?_
  | with_reducible refine x_andV ?_
  | with_reducible refine x_orV ?_
  | with_reducible refine x_notV ?_
  | with_reducible refine x_test ?_
  | with_reducible refine x_tB ?_
  | with_reducible refine x_and ?_
  | with_reducible refine x_or ?_
  | with_reducible refine x_not ?_
  | with_reducible refine x_yes ?_
  | with_reducible refine x_next ?_
  | with_reducible refine x_sfld ?_
  | with_reducible refine blK ?_
  | with_reducible refine r_I0 ?_
  | with_reducible refine r_isN ?_
  | with_reducible refine r_notN ?_
  | ((with_reducible refine r_eq ?hh ?_); case hh => exact rfl)
  | ((with_reducible refine r_ne ?hh ?_); case hh => exact rfl)
  | with_reducible refine x_gnil ?_
  | with_reducible refine x_gcons ?_)
local macro_rules | `(tactic| walk_at "rd2") => `(tactic| first
  | walk_at "rd1"
  | with_reducible refine x_lc ?_
  | with_reducible refine x_for ?_
  | with_reducible refine x_itup ?_
  | with_reducible refine x_ilist ?_
  | with_reducible refine x_rng1 ?_
  | with_reducible refine x_bm ?_
  | with_reducible refine x_chain ?_
  | with_reducible refine x_istr ?_
  | with_reducible refine strK ?_
  | with_reducible refine x_sl ?_
  | with_reducible refine x_part ?_
  | with_reducible refine x_noPart ?_
  | with_reducible refine poK ?_
  | ((with_reducible refine ltK ?hh ?_); case hh => exact rfl)
  | ((with_reducible refine ltKx ?hh ?_); case hh => exact rfl)
  | with_reducible refine x_dput ?_
  | with_reducible refine x_dget ?_
  | with_reducible refine iteK_t ?_
  | with_reducible refine iteK_nf ?_
  | with_reducible refine iteK_nt ?_
  | with_reducible refine iteK_f ?_)
local macro_rules | `(tactic| walk_at "go") => `(tactic| repeat (walk_at "rd2"))
local macro_rules | `(tactic| walk_at "rd") => `(tactic| repeat (walk_at "rd1"))
local macro_rules | `(tactic| walk_at "at") => `(tactic| repeat (first | assumption | refine same_at' (by assumption) ?_))
local macro_rules | `(tactic| walk_at "sm") => `(tactic| repeat (first | exact Same.refl _ | assumption | refine Same.trans ?_ (by assumption)))
local macro_rules | `(tactic| walk_at "mk1") => `(tactic| first
  | with_reducible refine mk_new rfl fun _ _ _ _ _ _ => ?_
  | with_reducible refine lstK rfl fun _ _ _ _ _ => ?_
  | with_reducible refine tupK rfl fun _ _ _ _ _ => ?_
  | with_reducible refine mk_rule4 (SqL.of (by walk_at "at")) (SqL.of (by walk_at "at")) fun _ _ _ _ => ?_
  | with_reducible refine mk_rule (SqL.of (by walk_at "at")) (SqL.of (by walk_at "at")) fun _ _ _ _ => ?_
  | with_reducible refine c_refusal (SqL.of (by walk_at "at")) fun _ _ _ _ => ?_)
local macro_rules | `(tactic| walk_at "mk") => `(tactic| repeat (first | walk_at "rd2" | walk_at "mk1"))
local macro_rules | `(tactic| walk_at "ar1") => `(tactic| ((with_reducible refine r_I ?hh ?_); case hh => first | exact (show (0 : Int) < _ from by decide +kernel) | exact And.intro (by decide +kernel) (by decide +kernel) | exact Or.inr (And.intro (by decide +kernel) (by decide +kernel)) | exact Or.inl (And.intro (by decide +kernel) (by decide +kernel)) | exact And.intro (by decide +kernel) (And.intro (by decide +kernel) (by decide +kernel))))
local macro_rules | `(tactic| walk_at "ar") => `(tactic| repeat (first | walk_at "rd2" | walk_at "ar1"))

section
variable {P : Program} {w : World} {K : PySem.W.Frag} {mg : Str → Option Value} {base : Heap}
theorem verb_form (t : T K mg) {H H' : Hp} {v : V} {b : Vb} {Q : VK} (a : VerbAt K H v b) (s : Same H H') (q : Q (.str b.form) H') : FldK K "form" v H' Q := by
  obtain ⟨p, dx, w, rfl, h1, _⟩ := a
  exact fldK (s _ _ h1) t.c_Verb t.n_Verb_form (l_Verb_form _ _ _ _) q
/-- a command -/
structure Cm where
  verb : Str
  one : Option Str
  two : Option Str
def oD : Option Str → PyData
  | some x => .str x
  | none => .none
def cmD (c : Cm) : PyData := .tuple [.str c.verb, oD c.one, oD c.two]
theorem dp_oD {H : Hp} {v : V} {o : Option Str} (h : Dp K H v (oD o)) : v = oS o := by
  cases o with
  | none => exact dp_non h
  | some x => exact dp_str h
theorem oS_dp {H : Hp} (o : Option Str) : Dp K H (oS o) (oD o) := by
  cases o with
  | none => exact .non
  | some x => exact .str x
theorem cm_dp {H : Hp} {v : V} {c : Cm} (h : Dp K H v (cmD c)) : ∃ a, v = .ref a ∧ SqT K H a [.str c.verb, oS c.one, oS c.two] := by
  obtain ⟨a, xs, rfl, h1, h2⟩ := dp_tuple h
  cases h2 with
  | cons x1 h2 => cases h2 with
    | cons x2 h2 => cases h2 with
      | cons x3 h2 =>
        cases h2
        rw [dp_str x1, dp_oD x2, dp_oD x3] at h1
        exact ⟨a, rfl, h1⟩
def spForm (K : PySem.W.Frag) : Sp := fun vs H Q _ => ∃ v W cv c b, vs = [v, cv] ∧ WorldAt K H v W ∧ Dp K H cv (cmD c) ∧ fVb c.verb = some b ∧ ∀ H', Same H H' → Q (.str b.form) H'
theorem sc_form_of : FnScope ["world", "command"] ["world", "command"] (defScope s_form_of) := ⟨rfl, rfl, rfl, by decide +kernel, rfl, by decide +kernel, by decide +kernel⟩
theorem ok_form_of (t : T K mg) : C8.Cal P w K mg base 3 "form_of" (spForm K) [] := by
  have c_v := ok_verb_of (P := P) (w := w) (base := base) t
  refine cal t.f_form_of t.g_form_of sc_form_of (fun _ _ _ _ _ _ us hl => match us, hl with | [_, _], _ => rfl) (fun vs H Q E h => ?_) fun cdv A outer s H vs Q E hr h => ?_
  · obtain ⟨v, W, cv, c, b, rfl, _⟩ := h
    rfl
  · obtain ⟨v, W, cv, c, b, rfl, hW, hc, hb, k⟩ := h
    obtain ⟨a, rfl, ha⟩ := cm_dp hc
    refine ⟨_, (pss_cons (ps_if (pt_cmpR op_isN1 (L2.pv 1) pe_non (nomark _)) (pss_one (ps_ret pe_non)) pss_nil)
      (pss_one (ps_ret (pe_fld' (K := K) rfl (C8.pe_mt c_v hr (by decide) (L2.pv 0) (pa_cons (pe_ix (ix_tup' (K := K) rfl) (L2.pv 1) pe_int (fun _ _ => rfl)) pa_nil)) rfl)))), ?_⟩
    walk_at "go"
    refine iteK_n (decide_eq_false fun z => by cases z) ?_
    walk_at "go"
    refine world_mt hW (Same.refl H) (by simp [wmeths]) ?_
    walk_at "go"
    refine r_ixT (i := 0) ha rfl ?_
    walk_at "go"
    refine ⟨v, W, c.verb, rfl, hW, fun x H1 s1 g => ?_⟩
    rw [hb] at g
    refine verb_form t g (Same.refl _) ?_
    exact k _ s1
def mean (c : Cm) (f r term : Str) : Option Str :=
  if term = "here" then some r
  else if term = "it" then (if f = "one" ∨ f = "two" then c.one else none)
  else if term = "other" then (if f = "two" then c.two else none)
  else some term
def nm (it other : Option Str) (term : Str) : Option Str :=
  if term = "here" then none else if term = "it" then it else if term = "other" then other else some term
def spNamed : Sp := fun vs H Q _ => ∃ term it other, vs = [.str term, oS it, oS other] ∧ ∀ H', Same H H' → Q (oS (nm it other term)) H'
theorem sc_named : FnScope ["term", "it", "other"] ["term", "it", "other"] (defScope s_named) := ⟨rfl, rfl, rfl, by decide +kernel, rfl, by decide +kernel, by decide +kernel⟩
theorem ok_named (t : T K mg) : C8.Cal P w K mg base 1 "named" spNamed [] := by
  refine cal t.f_named t.g_named sc_named (fun _ _ _ _ _ _ us hl => match us, hl with | [_, _, _], _ => rfl) (fun vs H Q E h => ?_) fun cdv A outer s H vs Q E hr h => ?_
  · obtain ⟨term, it, other, rfl, _⟩ := h
    rfl
  · obtain ⟨term, it, other, rfl, k⟩ := h
    have k1 := k H (Same.refl H)
    refine ⟨_, (pss_cons (ps_if (pt_cmpR op_eq (L2.pv 0) pe_str (nomark _)) (pss_one (ps_ret pe_non)) pss_nil)
      (pss_cons (ps_if (pt_cmpR op_eq (L2.pv 0) pe_str (nomark _)) (pss_one (ps_ret (L2.pv 1))) pss_nil)
      (pss_cons (ps_if (pt_cmpR op_eq (L2.pv 0) pe_str (nomark _)) (pss_one (ps_ret (L2.pv 2))) pss_nil)
      (pss_one (ps_ret (L2.pv 0)))))), ?_⟩
    unfold nm at k1
    walk_at "go"
    refine iteK (fun e => ?_) fun e => ?_
    · have e : term = "here" := by have := of_decide_eq_true e; injection this
      rw [if_pos e] at k1
      walk_at "go"
      exact k1
    have e : ¬ term = "here" := fun z => of_decide_eq_false e (congrArg V.str z)
    rw [if_neg e] at k1
    walk_at "go"
    refine iteK (fun e => ?_) fun e => ?_
    · have e : term = "it" := by have := of_decide_eq_true e; injection this
      rw [if_pos e] at k1
      walk_at "go"
      exact k1
    have e : ¬ term = "it" := fun z => of_decide_eq_false e (congrArg V.str z)
    rw [if_neg e] at k1
    walk_at "go"
    refine iteK (fun e => ?_) fun e => ?_
    · have e : term = "other" := by have := of_decide_eq_true e; injection this
      rw [if_pos e] at k1
      walk_at "go"
      exact k1
    have e : ¬ term = "other" := fun z => of_decide_eq_false e (congrArg V.str z)
    rw [if_neg e] at k1
    walk_at "go"
    exact k1
def spRoomOf (K : PySem.W.Frag) : Sp := fun vs H Q _ => ∃ v W sv S y r, vs = [v, sv] ∧ WorldAt K H v W ∧ Dp K H sv (standD S) ∧ OkStand S ∧ W.kind "you" = y :: r ∧ OkS y ∧ ∀ H', Same H H' → Q (vO (look S ("at", y))) H'
theorem sc_room_of : FnScope ["world", "stand"] ["world", "stand"] (defScope s_room_of) := ⟨rfl, rfl, rfl, by decide +kernel, rfl, by decide +kernel, by decide +kernel⟩
theorem ok_room_of (t : T K mg) : C8.Cal P w K mg base 3 "room_of" (spRoomOf K) [] := by
  have c_y := ok_you (P := P) (w := w) (base := base) t
  have c_at_of := ok_at_of (P := P) (w := w) (base := base) t
  refine cal t.f_room_of t.g_room_of sc_room_of (fun _ _ _ _ _ _ us hl => match us, hl with | [_, _], _ => rfl) (fun vs H Q E h => ?_) fun cdv A outer s H vs Q E hr h => ?_
  · obtain ⟨v, W, sv, S, y, r, rfl, _⟩ := h
    rfl
  · obtain ⟨v, W, sv, S, y, r, rfl, hW, hS, oS, hy, oy, k⟩ := h
    refine ⟨_, (pss_one (ps_ret (C8.pe_c c_at_of hr (by decide) (by rfl) (pa_cons (L2.pv 1) (pa_cons (C8.pe_mt0 c_y hr (by decide) (L2.pv 0)) pa_nil))))), ?_⟩
    walk_at "go"
    refine world_mt hW (Same.refl H) (by simp [wmeths]) ?_
    walk_at "go"
    refine ⟨v, W, y, r, rfl, hW, hy, fun H1 s1 => ?_⟩
    walk_at "go"
    exact ⟨sv, y, S, rfl, dp_mono s1 hS, oS, oy, fun H2 s2 => k H2 (s1.trans s2)⟩
def spMeant (K : PySem.W.Frag) : Sp := fun vs H Q _ => ∃ v W sv S cv c b y r x term, vs = [v, sv, cv, .str term] ∧ WorldAt K H v W ∧ Dp K H sv (standD S) ∧ OkStand S ∧ Dp K H cv (cmD c) ∧ fVb c.verb = some b ∧
  W.kind "you" = y :: r ∧ OkS y ∧ look S ("at", y) = some (.s x) ∧ ∀ H', Same H H' → Q (oS (mean c b.form x term)) H'
theorem sc_meant : FnScope ["world", "stand", "command", "term"] ["world", "stand", "command", "term"] (defScope s_meant) := ⟨rfl, rfl, rfl, by decide +kernel, rfl, by decide +kernel, by decide +kernel⟩
theorem ok_meant (t : T K mg) : C8.Cal P w K mg base 4 "meant" (spMeant K) [] := by
  have c_form_of := ok_form_of (P := P) (w := w) (base := base) t
  have c_room_of := ok_room_of (P := P) (w := w) (base := base) t
  refine cal t.f_meant t.g_meant sc_meant (fun _ _ _ _ _ _ us hl => match us, hl with | [_, _, _, _], _ => rfl) (fun vs H Q E h => ?_) fun cdv A outer s H vs Q E hr h => ?_
  · obtain ⟨v, W, sv, S, cv, c, b, y, r, x, term, rfl, _⟩ := h
    rfl
  · obtain ⟨v, W, sv, S, cv, c, b, y, r, x, term, rfl, hW, hS, oS, hc, hb, hy, oy, hx, k⟩ := h
    obtain ⟨a, rfl, ha⟩ := cm_dp hc
    refine ⟨_, (pss_cons (ps_if (pt_cmpR op_eq (L2.pv 3) pe_str (nomark _)) (pss_one (ps_ret (C8.pe_c c_room_of hr (by decide) (by rfl) (pa_cons (L2.pv 0) (pa_cons (L2.pv 1) pa_nil))))) pss_nil)
      (pss_cons (ps_if (pt_cmpR op_eq (L2.pv 3) pe_str (nomark _)) (pss_one (ps_ret (pe_ifExp (pt_cmpR (op_in' (K := K) rfl) (C8.pe_c c_form_of hr (by decide) (by rfl) (pa_cons (L2.pv 0) (pa_cons (L2.pv 2) pa_nil))) (pe_tup (pa_cons pe_str (pa_cons pe_str pa_nil))) (by rfl)) (pe_ix (ix_tup' (K := K) rfl) (L2.pv 2) pe_int (fun _ _ => rfl)) pe_non))) pss_nil)
      (pss_cons (ps_if (pt_cmpR op_eq (L2.pv 3) pe_str (nomark _)) (pss_one (ps_ret (pe_ifExp (pt_cmpR op_eq (C8.pe_c c_form_of hr (by decide) (by rfl) (pa_cons (L2.pv 0) (pa_cons (L2.pv 2) pa_nil))) pe_str (nomark _)) (pe_ix (ix_tup' (K := K) rfl) (L2.pv 2) pe_int (fun _ _ => rfl)) pe_non))) pss_nil)
      (pss_one (ps_ret (L2.pv 3)))))), ?_⟩
    unfold mean at k
    walk_at "go"
    refine iteK (fun e => ?_) fun e => ?_
    · have e : term = "here" := by have := of_decide_eq_true e; injection this
      rw [if_pos e] at k
      walk_at "go"
      refine ⟨v, W, sv, S, y, r, rfl, hW, hS, oS, hy, oy, fun H1 s1 => ?_⟩
      rw [hx]
      exact k H1 s1
    have e : ¬ term = "here" := fun z => of_decide_eq_false e (congrArg V.str z)
    rw [if_neg e] at k
    walk_at "go"
    refine iteK (fun e => ?_) fun e => ?_
    · have e : term = "it" := by have := of_decide_eq_true e; injection this
      rw [if_pos e] at k
      walk_at "go"
      refine ⟨v, W, _, c, b, rfl, hW, hc, hb, fun H1 s1 => ?_⟩
      walk_at "go"
      refine tupK rfl fun p H2 np s2 h2 => r_inT (.of h2) rfl rfl ?_
      rw [show [V.str "one", V.str "two"] = (["one", "two"] : List Str).map V.str from rfl, inV_str]
      walk_at "go"
      refine iteK (fun e2 => ?_) fun e2 => ?_
      · rw [if_pos (by simpa using e2)] at k
        walk_at "go"
        refine r_ixT (i := 1) (same_sqt (s1.trans s2) ha) rfl ?_
        exact k _ (s1.trans s2)
      · rw [if_neg (by simpa using e2)] at k
        walk_at "go"
        exact k _ (s1.trans s2)
    have e : ¬ term = "it" := fun z => of_decide_eq_false e (congrArg V.str z)
    rw [if_neg e] at k
    walk_at "go"
    refine iteK (fun e => ?_) fun e => ?_
    · have e : term = "other" := by have := of_decide_eq_true e; injection this
      rw [if_pos e] at k
      walk_at "go"
      refine ⟨v, W, _, c, b, rfl, hW, hc, hb, fun H1 s1 => ?_⟩
      walk_at "go"
      refine iteK (fun e2 => ?_) fun e2 => ?_
      · have e2 : b.form = "two" := by have := of_decide_eq_true e2; injection this
        rw [if_pos e2] at k
        walk_at "go"
        refine r_ixT (i := 2) (same_sqt s1 ha) rfl ?_
        exact k _ s1
      · have e2 : ¬ b.form = "two" := fun z => of_decide_eq_false e2 (congrArg V.str z)
        rw [if_neg e2] at k
        walk_at "go"
        exact k _ s1
    have e : ¬ term = "other" := fun z => of_decide_eq_false e (congrArg V.str z)
    rw [if_neg e] at k
    walk_at "go"
    exact k _ (Same.refl H)
/-- the holders of a name in a stand, the nearest first -/
inductive Ch (S : Stand) : Str → List Str → Prop
  | nil {x : Str} : look S ("at", x) = none → Ch S x []
  | cons {x y : Str} {l : List Str} : look S ("at", x) = some (.s y) → OkS y → Ch S y l → Ch S x (y :: l)
def hdV : List Str → V
  | [] => .non
  | x :: _ => .str x
theorem ch_hd {S : Stand} {x : Str} {l : List Str} (h : Ch S x l) : vO (look S ("at", x)) = hdV l := by
  cases h with
  | nil h => rw [h]; rfl
  | cons h _ _ => rw [h]; rfl
def WhN (Pv : Nat → L2.St → Hp → Prop) (tb : TS) (D : Ends) (m : Nat) (σ : L2.St) (b : Bool) (H1 : Hp) : Prop :=
  if b = true then ∃ N : L2.St → Hp → Prop, (∀ σ' H', N σ' H' → ∃ m', m' < m ∧ Pv m' σ' H') ∧ tb { D with nx := N, ct := N, bk := D.nx } σ H1 else D.nx σ H1
theorem whK {c : TT} {tb : TS} {D : Ends} {σ : L2.St} {H : Hp} (Pv : Nat → L2.St → Hp → Prop) (m : Nat) (h0 : Pv m σ H) (hs : ∀ m σ H, Pv m σ H → c σ H fun b H1 => WhN Pv tb D m σ b H1) : tWhile c tb D σ H := ⟨Pv, ⟨m, h0⟩, hs⟩
theorem wh_y {Pv : Nat → L2.St → Hp → Prop} {tb : TS} {D : Ends} {m : Nat} {σ : L2.St} {b : Bool} {H1 : Hp} (hb : b = true) (q : tb { D with nx := fun σ' H' => ∃ m', m' < m ∧ Pv m' σ' H', ct := fun σ' H' => ∃ m', m' < m ∧ Pv m' σ' H', bk := D.nx } σ H1) : WhN Pv tb D m σ b H1 := by
  subst hb
  exact ⟨_, fun _ _ h => h, q⟩
theorem wh_n {Pv : Nat → L2.St → Hp → Prop} {tb : TS} {D : Ends} {m : Nat} {σ : L2.St} {b : Bool} {H1 : Hp} (hb : b = false) (q : D.nx σ H1) : WhN Pv tb D m σ b H1 := by
  subst hb
  exact q
def spHolders (K : PySem.W.Frag) : Sp := fun vs H Q _ => ∃ v sv S n l, vs = [v, sv, .str n] ∧ Dp K H sv (standD S) ∧ OkStand S ∧ OkS n ∧ Ch S n l ∧ l.length ≤ 900 ∧ ∀ p H', H p = none → Same H H' → H' p = some (.lst (l.map V.str)) → Q (.ref p) H'
theorem sc_holders_of : FnScope ["world", "stand", "name", "found", "here"] ["world", "stand", "name"] (defScope s_holders_of) := ⟨rfl, rfl, rfl, by decide +kernel, rfl, by decide +kernel, by decide +kernel⟩
theorem ok_holders_of (t : T K mg) : C8.Cal P w K mg base 3 "holders_of" (spHolders K) [] := by
  have c_at_of := ok_at_of (P := P) (w := w) (base := base) t
  refine cal t.f_holders_of t.g_holders_of sc_holders_of (fun _ _ _ _ _ _ us hl => match us, hl with | [_, _, _], _ => rfl) (fun vs H Q E h => ?_) fun cdv A outer s H vs Q E hr h => ?_
  · obtain ⟨v, sv, S, n, l, rfl, _⟩ := h
    rfl
  · obtain ⟨v, sv, S, n, l, rfl, hS, oS, on, hc, hz, k⟩ := h
    refine ⟨_, (pss_cons (ps_set (i := 3) sc_holders_of.nd rfl (Or.inl rfl) (pe_lst pa_nil))
      (pss_cons (ps_set (i := 4) sc_holders_of.nd rfl (Or.inl rfl) (C8.pe_c c_at_of hr (by decide) (by rfl) (pa_cons (L2.pv 1) (pa_cons (L2.pv 2) pa_nil))))
      (pss_cons (ps_while PassesOwn.never (pt_cmpR op_notN1 (L2.pv 4) pe_non (nomark _)) (pss_cons (ps_expr (pe_bm PySem.F.plainAttrs_list PySem.F.slot_list_append PySem.F.type_list_append mt_append (L2.pv 3) (pa_cons (L2.pv 4) pa_nil)))
      (pss_one (ps_set (i := 4) sc_holders_of.nd rfl (Or.inl rfl) (C8.pe_c c_at_of hr (by decide) (by rfl) (pa_cons (L2.pv 1) (pa_cons (L2.pv 4) pa_nil)))))))
      (pss_one (ps_ret (L2.pv 3)))))), ?_⟩
    walk_at "go"
    refine lstK rfl fun D H0 nD s0 h0 => ?_
    walk_at "go"
    refine ⟨sv, n, S, rfl, dp_mono s0 hS, oS, on, fun H1 s1 => ?_⟩
    rw [ch_hd hc]
    walk_at "go"
    refine whK (fun m σ H2 => ∃ pre rest x, l = pre ++ rest ∧ m = rest.length ∧ Ch S x rest ∧ σ = [some v, some sv, some (.str n), some (.ref D), some (hdV rest)] ∧ Mk1 H D H2 (pre.map V.str)) l.length ⟨[], l, n, rfl, rfl, hc, rfl, mk1_of nD (s0.trans s1) (s1 _ _ h0)⟩ ?_
    rintro m σ H2 ⟨pre, rest, x, el, rfl, hx, rfl, mk⟩
    walk_at "go"
    cases hx with
    | nil h =>
      refine wh_n (by rfl) ?_
      walk_at "go"
      rw [List.append_nil] at el
      subst el
      exact k D H2 nD mk.same mk.at_
    | @cons _ z l2 h oy hy =>
      refine wh_y (by rfl) ?_
      walk_at "go"
      refine tyK_l (.of mk.at_) ?_
      walk_at "go"
      have el2 := congrArg List.length el
      rw [List.length_append] at el2
      refine r_app mk.at_ (by rw [List.length_map]; omega) ?_
      walk_at "go"
      have mk2 := mk.upd (zs := pre.map V.str ++ [V.str z])
      refine ⟨sv, _, S, rfl, dp_mono mk2.same hS, oS, oy, fun H3 s3 => ?_⟩
      rw [ch_hd hy]
      walk_at "go"
      refine ⟨_, Nat.lt_succ_self _, pre ++ [z], l2, z, by rw [List.append_assoc]; exact el, rfl, hy, rfl, ?_⟩
      rw [List.map_append]
      exact mk2.grow s3
end
end Tw
set_option maxHeartbeats 4000000
/-! Parts, sorted; what may be done. -/
namespace Tw
open PySem PySem.Spec L2
section
variable {K : PySem.W.Frag} {σ : L2.St} {H : Hp} {Q : VK} {D : Ends} {td ty tv : TE}
def DPK (x y v : V) (H : Hp) (R : Hp → Prop) : Prop := ∃ a H4, x = .ref a ∧ DPut H a y v H4 ∧ R H4
theorem x_dput (q : tv σ H fun v H1 => td σ H1 fun x H2 => ty σ H2 fun y H3 => DPK x y v H3 (D.nx σ)) : sDPut td ty tv D σ H := q
theorem dpK_t {a b : Addr} {kvs : List (List Key × V)} {k : List Key} {v : V} {R : Hp → Prop} (e : H a = some (.dT kvs)) (eb : H b = some (.tup (k.map kV))) (hl : kvs.length ≤ 1000) (q : R (upd H a (.dT (putK kvs k v)))) : DPK (.ref a) (.ref b) v H R :=
  ⟨a, _, rfl, .t e eb (small1000 hl), q⟩
theorem dpK_k {a : Addr} {kvs : List (Key × V)} {k : Str} {v : V} {R : Hp → Prop} (e : H a = some (.dK kvs)) (hl : kvs.length ≤ 1000) (q : R (upd H a (.dK (putK kvs (.inr k) v)))) : DPK (.ref a) (.str k) v H R :=
  ⟨a, _, rfl, DPut.k (k := .inr k) e (small1000 hl), q⟩
def DGK (x y : V) (H : Hp) (Q : VK) : Prop := ∃ a v, x = .ref a ∧ DGet H a y (some v) ∧ Q v H
theorem x_dget (q : td σ H fun x H1 => ty σ H1 fun y H2 => DGK x y H2 Q) : tDGet td ty σ H Q := q
theorem x_dnewT (q : ∀ p H', H p = none → Same H H' → H' p = some (.dT []) → Q (.ref p) H') : tDNewT σ H Q := fun p np => q p _ np (same_new np) upd_same
theorem x_dnewK (q : ∀ p H', H p = none → Same H H' → H' p = some (.dK []) → Q (.ref p) H') : tDNewK σ H Q := fun p np => q p _ np (same_new np) upd_same
theorem putK_keys {κ : Type} [DecidableEq κ] (kvs : List (κ × V)) (k : κ) (v : V) : (putK kvs k v).map (·.1) = if k ∈ kvs.map (·.1) then kvs.map (·.1) else kvs.map (·.1) ++ [k] := by
  unfold putK
  by_cases h : (kvs.any fun kv => decide (kv.1 = k)) = true
  · rw [if_pos h]
    obtain ⟨kv, h1, h2⟩ := List.any_eq_true.mp h
    rw [if_pos (List.mem_map.mpr ⟨kv, h1, of_decide_eq_true h2⟩), List.map_map]
    refine List.map_congr_left fun a _ => ?_
    show (if a.1 = k then (a.1, v) else a).1 = a.1
    split <;> rfl
  · rw [if_neg h, if_neg fun m => ?_, List.map_append]
    · rfl
    · obtain ⟨kv, h1, h2⟩ := List.mem_map.mp m
      exact h (List.any_eq_true.mpr ⟨kv, h1, decide_eq_true h2⟩)
end
/-- an object D made behind H, that is now o -/
structure MkO (H : Hp) (D : Addr) (H' : Hp) (o : HO) : Prop where
  nw : H D = none
  sm : Same H (del D H')
  at_ : H' D = some o
theorem mkO {H H' : Hp} {D : Addr} {o : HO} (n : H D = none) (s : Same H H') (h : H' D = some o) : MkO H D H' o := ⟨n, del_none s n, h⟩
theorem MkO.same {H H' : Hp} {D : Addr} {o : HO} (m : MkO H D H' o) : Same H H' := m.sm.trans del_le
theorem MkO.grow {H H' H2 : Hp} {D : Addr} {o : HO} (m : MkO H D H' o) (s : Same H' H2) : MkO H D H2 o := ⟨m.nw, m.sm.trans (del_mono s), s _ _ m.at_⟩
theorem MkO.upd {H H' : Hp} {D : Addr} {o o' : HO} (m : MkO H D H' o) : MkO H D (L2.upd H' D o') o' := ⟨m.nw, by rw [del_upd]; exact m.sm, upd_same⟩
abbrev PtAt (H : Hp) (y : V) (p : Part) : Prop := ∃ b, y = .ref b ∧ H b = some (.tup [.str p.1, .str p.2])
theorem pt_mono {H H' : Hp} {y : V} {p : Part} (s : Same H H') (h : PtAt H y p) : PtAt H' y p := by
  obtain ⟨b, e, h⟩ := h
  exact ⟨b, e, s _ _ h⟩
theorem pt_dp {K : PySem.W.Frag} {H : Hp} {y : V} {p : Part} (h : PtAt H y p) : Dp K H y (partD p) := by
  obtain ⟨b, rfl, h⟩ := h
  exact dp_part h
def pk (p : Part) : List Key := [Sum.inr p.1, Sum.inr p.2]
theorem pk_inj {p q : Part} (h : pk p = pk q) : p = q := by
  cases p
  cases q
  unfold pk at h
  cases h
  rfl
theorem parts_of {H : Hp} {bs : List Addr} {qs : List Part} (h : ∀ b ∈ bs, ∃ q ∈ qs, H b = some (.tup [.str q.1, .str q.2])) : ∃ rs, Paired (PtAt H) (bs.map V.ref) rs ∧ ∀ q ∈ rs, q ∈ qs := by
  induction bs with
  | nil => exact ⟨[], .nil, fun q h => absurd h (by simp)⟩
  | cons b r ih =>
    obtain ⟨rs, h1, h2⟩ := ih fun c hc => h c (List.mem_cons_of_mem _ hc)
    obtain ⟨q, hq, e⟩ := h b List.mem_cons_self
    refine ⟨q :: rs, .cons ⟨b, rfl, e⟩ h1, fun p hp => ?_⟩
    rcases List.mem_cons.mp hp with rfl | hp
    · exact hq
    · exact h2 p hp
theorem pt_inj {H : Hp} {y : V} {p q : Part} (h : PtAt H y p) (h' : PtAt H y q) : p = q := by
  obtain ⟨b, rfl, h⟩ := h
  obtain ⟨b', e, h'⟩ := h'
  cases e
  rw [h] at h'
  cases p
  cases q
  cases h'
  rfl
theorem parts_in {H : Hp} {bs : List Addr} {rs : List Part} (h : Paired (PtAt H) (bs.map V.ref) rs) {b : Addr} {q : Part} (hb : b ∈ bs) (e : H b = some (.tup [.str q.1, .str q.2])) : q ∈ rs := by
  obtain ⟨i, hi⟩ := List.mem_iff_getElem?.mp hb
  obtain ⟨r, h1, h2⟩ := paired_get' h (i := i) (a := V.ref b) (by rw [List.getElem?_map, hi]; rfl)
  rw [pt_inj ⟨b, rfl, e⟩ h2]
  exact List.mem_of_getElem? h1
local macro_rules | `(tactic| walk_at "rd1") => `(tactic| first
  | with_reducible refine x_seq ?_
  | ((with_reducible refine x_var (v := ?vv) ?hh ?_); case hh => exact rfl)
  | with_reducible refine x_c ?_
  | with_reducible refine x_op ?_
  | with_reducible refine x_fld ?_
  | with_reducible refine x_call ?_
  | with_reducible refine x_meth ?_
  | with_reducible refine x_make ?_
  | with_reducible refine x_cb ?_
  | with_reducible refine x_tup ?_
  | with_reducible refine x_lst ?_
  | with_reducible refine x_nil ?_
  | with_reducible refine x_cons ?_
  | with_reducible refine x_asg ?_
  | with_reducible refine x_name ?_
  | with_reducible refine x_ret ?_
  | with_reducible refine x_retN ?_
  | with_reducible refine x_drop ?_
  | with_reducible refine x_ifS ?_
  | with_reducible refine x_if ?_
  | with_reducible refine x_andV ?_
  | with_reducible refine x_orV ?_
  | with_reducible refine x_notV ?_
  | with_reducible refine x_test ?_
  | with_reducible refine x_tB ?_
  | with_reducible refine x_and ?_
  | with_reducible refine x_or ?_
  | with_reducible refine x_not ?_
  | with_reducible refine x_yes ?_
  | with_reducible refine x_next ?_
  | with_reducible refine x_sfld ?_
  | with_reducible refine blK ?_
  | with_reducible refine r_I0 ?_
  | with_reducible refine r_isN ?_
  | with_reducible refine r_notN ?_
  | ((with_reducible refine r_eq ?hh ?_); case hh => exact rfl)
  | ((with_reducible refine r_ne ?hh ?_); case hh => exact rfl)
  | with_reducible refine x_gnil ?_
  | with_reducible refine x_gcons ?_)
local macro_rules | `(tactic| walk_at "rd2") => `(tactic| first
  | walk_at "rd1"
  | with_reducible refine x_lc ?_
  | with_reducible refine x_for ?_
  | with_reducible refine x_itup ?_
  | with_reducible refine x_ilist ?_
  | with_reducible refine x_rng1 ?_
  | with_reducible refine x_bm ?_
  | with_reducible refine x_chain ?_
  | with_reducible refine x_istr ?_
  | with_reducible refine strK ?_
  | with_reducible refine x_sl ?_
  | with_reducible refine x_part ?_
  | with_reducible refine x_noPart ?_
  | with_reducible refine poK ?_
  | ((with_reducible refine ltK ?hh ?_); case hh => exact rfl)
  | ((with_reducible refine ltKx ?hh ?_); case hh => exact rfl)
  | with_reducible refine x_dput ?_
  | with_reducible refine x_dget ?_
  | with_reducible refine iteK_t ?_
  | with_reducible refine iteK_nf ?_
  | with_reducible refine iteK_nt ?_
  | with_reducible refine iteK_f ?_)
local macro_rules | `(tactic| walk_at "go") => `(tactic| repeat (walk_at "rd2"))
local macro_rules | `(tactic| walk_at "rd") => `(tactic| repeat (walk_at "rd1"))
local macro_rules | `(tactic| walk_at "at") => `(tactic| repeat (first | assumption | refine same_at' (by assumption) ?_))
local macro_rules | `(tactic| walk_at "sm") => `(tactic| repeat (first | exact Same.refl _ | assumption | refine Same.trans ?_ (by assumption)))
local macro_rules | `(tactic| walk_at "mk1") => `(tactic| first
  | with_reducible refine mk_new rfl fun _ _ _ _ _ _ => ?_
  | with_reducible refine lstK rfl fun _ _ _ _ _ => ?_
  | with_reducible refine tupK rfl fun _ _ _ _ _ => ?_
  | with_reducible refine mk_rule4 (SqL.of (by walk_at "at")) (SqL.of (by walk_at "at")) fun _ _ _ _ => ?_
  | with_reducible refine mk_rule (SqL.of (by walk_at "at")) (SqL.of (by walk_at "at")) fun _ _ _ _ => ?_
  | with_reducible refine c_refusal (SqL.of (by walk_at "at")) fun _ _ _ _ => ?_)
local macro_rules | `(tactic| walk_at "mk") => `(tactic| repeat (first | walk_at "rd2" | walk_at "mk1"))
local macro_rules | `(tactic| walk_at "ar1") => `(tactic| ((with_reducible refine r_I ?hh ?_); case hh => first | exact (show (0 : Int) < _ from by decide +kernel) | exact And.intro (by decide +kernel) (by decide +kernel) | exact Or.inr (And.intro (by decide +kernel) (by decide +kernel)) | exact Or.inl (And.intro (by decide +kernel) (by decide +kernel)) | exact And.intro (by decide +kernel) (And.intro (by decide +kernel) (by decide +kernel))))
local macro_rules | `(tactic| walk_at "ar") => `(tactic| repeat (first | walk_at "rd2" | walk_at "ar1"))

section
variable {P : Program} {w : World} {K : PySem.W.Frag} {mg : Str → Option Value} {base : Heap}
theorem cr_sortedK' {X : Cx} (hc : X.calm = true) : CallR X (.builtin "sorted") rSortedK := cr_sortedK hc
def spSorted (K : PySem.W.Frag) : Sp := fun vs H Q _ => ∃ a ys ps, vs = [.ref a] ∧ SqL K H a ys ∧ Paired (PtAt H) ys ps ∧ ps.length ≤ 60 ∧ ∀ p H' zs qs, Same H H' → H' p = some (.tup zs) → Paired (PtAt H') zs qs → (∀ q ∈ qs, q ∈ ps) → (∀ q ∈ ps, q ∈ qs) → qs.length ≤ 60 → Q (.ref p) H'
theorem sc_sorted_parts : FnScope ["parts", "known", "part"] ["parts"] (defScope s_sorted_parts) := ⟨rfl, rfl, rfl, by decide +kernel, rfl, by decide +kernel, by decide +kernel⟩
theorem ok_sorted_parts (t : T K mg) : C8.Cal P w K mg base 1 "sorted_parts" (spSorted K) [] := by
  refine cal t.f_sorted_parts t.g_sorted_parts sc_sorted_parts (fun _ _ _ _ _ _ us hl => match us, hl with | [_], _ => rfl) (fun vs H Q E h => ?_) fun cdv A outer s H vs Q E hr h => ?_
  · obtain ⟨a, ys, ps, rfl, _⟩ := h
    rfl
  · obtain ⟨a, ys, ps, rfl, hy, hp, hz, k⟩ := h
    refine ⟨_, (pss_cons (ps_set (i := 1) sc_sorted_parts.nd rfl (Or.inl rfl) pe_dnewT)
      (pss_cons (ps_for PassesOwn.never (by rfl) (pi_list' (K := K) rfl (L2.pv 0)) (pg_name (i := 2) sc_sorted_parts.nd rfl (Or.inl rfl)) (pss_one (ps_dput (hu_of hr) (L2.pv 1) (L2.pv 2) pe_bl rfl)))
      (pss_one (ps_ret (pe_callTy (cr_tuple (K := K) rfl) (by rfl) t.b_tuple (by decide +kernel) (pa_cons (pe_callB (cr_sortedK' rfl) (by rfl) t.b_sorted (by decide +kernel) (pa_cons (L2.pv 1) pa_nil)) pa_nil)))))), ?_⟩
    walk_at "go"
    refine x_dnewT fun D H0 nD s0 h0 => ?_
    walk_at "go"
    refine sqLK (s0.seq hy) ?_
    have hl := hp.length
    refine forL (xs := ys) (fun i σ H2 => (∃ o, σ = [some (.ref a), some (.ref D), o]) ∧ ∃ kvs qs, MkO H D H2 (.dT kvs) ∧ kvs.map (·.1) = qs.map pk ∧ (∀ q ∈ qs, q ∈ ps) ∧ (∀ j q, j < i → ps[j]? = some q → q ∈ qs) ∧ qs.length ≤ i) ⟨⟨none, rfl⟩, [], [], mkO nD s0 h0, rfl, fun q h => absurd h (by simp), fun j q hj => absurd hj (Nat.not_lt_zero _), Nat.le_refl _⟩ (fun i σ H2 _ ⟨_, _, _, m, _⟩ => m.same.seq hy) ?_ ?_
    · rintro i x σ H2 hi ⟨⟨o, rfl⟩, kvs, qs, m, e1, e2, e3, e4⟩
      obtain ⟨q, hq, hx⟩ := paired_get' hp hi
      obtain ⟨b, rfl, hb⟩ := pt_mono m.same hx
      have hlt := get_lt hq
      have el := congrArg List.length e1
      rw [List.length_map, List.length_map] at el
      walk_at "go"
      refine dpK_t (k := pk q) m.at_ hb (by omega) ?_
      refine x_next ⟨⟨_, rfl⟩, _, if q ∈ qs then qs else qs ++ [q], m.upd, ?_, ?_, ?_, ?_⟩
      · rw [putK_keys, e1]
        by_cases hm : q ∈ qs
        · rw [if_pos hm, if_pos (List.mem_map.mpr ⟨q, hm, rfl⟩)]
        · rw [if_neg hm, if_neg fun z => ?_, List.map_append]
          · rfl
          · obtain ⟨q', h1, h2⟩ := List.mem_map.mp z
            rw [pk_inj h2] at h1
            exact hm h1
      · intro r hr
        by_cases hm : q ∈ qs
        · rw [if_pos hm] at hr
          exact e2 r hr
        · rw [if_neg hm] at hr
          rcases List.mem_append.mp hr with h | h
          · exact e2 r h
          · rw [List.mem_singleton.mp h]
            exact List.mem_of_getElem? hq
      · intro j r hj hr
        by_cases hji : j = i
        · subst hji
          rw [hq] at hr
          cases hr
          by_cases hm : q ∈ qs
          · rw [if_pos hm]; exact hm
          · rw [if_neg hm]; exact List.mem_append.mpr (.inr (List.mem_singleton.mpr rfl))
        · have := e3 j r (by omega) hr
          by_cases hm : q ∈ qs
          · rw [if_pos hm]; exact this
          · rw [if_neg hm]; exact List.mem_append.mpr (.inl this)
      · by_cases hm : q ∈ qs
        · rw [if_pos hm]; omega
        · rw [if_neg hm, List.length_append]; simp; omega
    · rintro σ H2 ⟨⟨o, rfl⟩, kvs, qs, m, e1, e2, e3, e4⟩
      walk_at "go"
      refine ⟨D, kvs, qs, rfl, .inl m.at_, e1, fun p bs np g1 g2 g3 => ?_⟩
      have s1 := same_new (H := H2) (o := .lst (bs.map V.ref)) np
      walk_at "go"
      refine r_tupL (.of upd_same) fun z H3 nz s3 h3 => ?_
      obtain ⟨rs, r1, r2⟩ := parts_of g1
      have lr := r1.length
      rw [List.length_map] at lr
      refine k z H3 _ rs (m.same.trans (s1.trans s3)) h3 (Paired.mapP r1 fun _ _ h => pt_mono (s1.trans s3) h) (fun q hq => e2 q (r2 q hq)) (fun q hq => ?_) (by omega)
      obtain ⟨j, hj⟩ := List.mem_iff_getElem?.mp hq
      have := get_lt hj
      obtain ⟨b, hb, e⟩ := g2 q (e3 j q (by omega) hj)
      exact parts_in r1 hb e
def spAtBoxes (K : PySem.W.Frag) : Sp := fun vs H Q _ => ∃ v W, vs = [v] ∧ WorldAt K H v W ∧ ∀ p H' ys, H p = none → Same H H' → H' p = some (.lst ys) → Paired (PtAt H') ys ((W.kind "box").map fun b => ("at", b)) → Q (.ref p) H'
theorem sc_at_boxes : FnScope ["world", "name"] ["world"] (defScope s_at_boxes) := ⟨rfl, rfl, rfl, by decide +kernel, rfl, by decide +kernel, by decide +kernel⟩
theorem ok_at_boxes (t : T K mg) : C8.Cal P w K mg base 2 "at_boxes" (spAtBoxes K) [] := by
  have c_k := ok_of_kind (P := P) (w := w) (base := base) t
  refine cal t.f_at_boxes t.g_at_boxes sc_at_boxes (fun _ _ _ _ _ _ us hl => match us, hl with | [_], _ => rfl) (fun vs H Q E h => ?_) fun cdv A outer s H vs Q E hr h => ?_
  · obtain ⟨v, W, rfl, _⟩ := h
    rfl
  · obtain ⟨v, W, rfl, hW, k⟩ := h
    have hk : (W.kind "box").length ≤ 20 := by
      have := (world_sizes hW).1
      unfold Wd.kind
      rw [List.length_map]
      exact Nat.le_trans (List.length_filter_le _ _) this
    refine ⟨_, (pss_one (ps_ret (pe_lc (own := [("name", 1)]) (by rfl) sc_at_boxes.nd (pi_list' (K := K) rfl (C8.pe_mt c_k hr (by decide) (L2.pv 0) (pa_cons pe_str pa_nil))) (blkOk_by (own := [("name", 1)]) (N := ["world", "name"]) (sc := defScope s_at_boxes) (by decide +kernel)) (fun _ _ _ _ _ => (pg_name (i := 1) sc_at_boxes.nd rfl (Or.inl rfl))) (fun _ _ _ _ _ => pts_nil) (fun _ _ _ _ _ => (pe_tup (pa_cons pe_str (pa_cons (L2.pv 1) pa_nil))))))), ?_⟩
    walk_at "go"
    refine world_mt hW (Same.refl H) (by simp [wmeths]) ?_
    walk_at "go"
    refine ⟨v, W, "box", rfl, hW, fun a H1 na s1 h1 => sqLK (.of h1) ?_⟩
    refine lcL (fun ys i H' => Paired (PtAt H') ys (((W.kind "box").take i).map fun b => ("at", b))) (.of h1) .nil (fun _ _ _ => .nil) ?_ ?_
    · intro D i x ys H2 m f hi
      obtain ⟨n, hn, rfl⟩ := map_get hi
      have hlt := get_lt hn
      walk_at "go"
      refine tupK rfl fun q H3 nq s3 h3 => ?_
      have e := f.length
      rw [List.length_map, List.length_take] at e
      refine apK (m.grow s3) (by omega) ?_
      rw [take_succ' hn, List.map_append]
      exact paired_app (Paired.mapP f fun _ _ h => pt_mono (del_mono s3) h) (.cons ⟨q, rfl, del_at h3 fun z => by rw [z, m.at_] at nq; cases nq⟩ .nil)
    · intro D H2 ys m f
      rw [List.length_map, List.take_length] at f
      exact k D H2 ys (Same.free s1 m.nw) (s1.trans m.same) m.at_ (Paired.mapP f fun _ _ h => pt_mono del_le h)
def mayGo (W : Wd) (n : Str) (pl : Option Str) : Bool := match W.find n with
  | none => false
  | some h => !decide (h.kind = "room") && (match pl with
    | none => true
    | some q => !decide (q = n) && (match W.find q with
      | none => false
      | some g => g.holds))
def spMayGo (K : PySem.W.Frag) : Sp := fun vs H Q _ => ∃ v W n pl h, vs = [v, .str n, oS pl] ∧ WorldAt K H v W ∧ W.find n = some h ∧ (∀ q, pl = some q → ∃ g, W.find q = some g) ∧ ∀ H', Same H H' → Q (.bl (mayGo W n pl)) H'
theorem sc_may_go : FnScope ["world", "name", "place"] ["world", "name", "place"] (defScope s_may_go) := ⟨rfl, rfl, rfl, by decide +kernel, rfl, by decide +kernel, by decide +kernel⟩
theorem ok_may_go (t : T K mg) : C8.Cal P w K mg base 2 "may_go" (spMayGo K) [] := by
  have c_t := ok_thing_of (P := P) (w := w) (base := base) t
  have c_h := ok_can_hold (P := P) (w := w) (base := base) t
  refine cal t.f_may_go t.g_may_go sc_may_go (fun _ _ _ _ _ _ us hl => match us, hl with | [_, _, _], _ => rfl) (fun vs H Q E h => ?_) fun cdv A outer s H vs Q E hr h => ?_
  · obtain ⟨v, W, n, pl, h, rfl, _⟩ := h
    rfl
  · obtain ⟨v, W, n, pl, h, rfl, hW, hn, hp, k⟩ := h
    refine ⟨_, (pss_cons (ps_if (PW.pt (pw_or (pt_cmpR op_isN1 (L2.pv 1) pe_non (nomark _)) (pw_or1 (pt_cmpR op_eq (pe_fld' (K := K) rfl (C8.pe_mt c_t hr (by decide) (L2.pv 0) (pa_cons (L2.pv 1) pa_nil)) rfl) pe_str (nomark _))))) (pss_one (ps_ret pe_bl)) pss_nil)
      (pss_one (ps_ret (pe_or (pe_cmpR op_isN1 (L2.pv 2) pe_non (nomark _)) (pe_one (pe_and (pe_cmpR op_ne (L2.pv 2) (L2.pv 1) (nomark _)) (pe_one (C8.pe_mt0 c_h hr (by decide) (C8.pe_mt c_t hr (by decide) (L2.pv 0) (pa_cons (L2.pv 2) pa_nil)))))))))), ?_⟩
    unfold mayGo at k
    rw [hn] at k
    dsimp only at k
    walk_at "go"
    refine iteK_n (decide_eq_false fun z => by cases z) ?_
    walk_at "go"
    refine world_mt hW (Same.refl H) (by simp [wmeths]) ?_
    walk_at "go"
    refine ⟨v, W, n, rfl, hW, fun x H1 s1 g1 => ?_⟩
    rw [hn] at g1
    refine thing_kind t g1 (Same.refl _) ?_
    walk_at "go"
    refine iteK (fun e => ?_) fun e => ?_
    · have e : h.kind = "room" := by have := of_decide_eq_true e; injection this
      rw [decide_eq_true e] at k
      walk_at "go"
      exact k _ s1
    · have e : ¬ h.kind = "room" := fun z => of_decide_eq_false e (congrArg V.str z)
      rw [decide_eq_false e] at k
      walk_at "go"
      cases pl with
      | none =>
        refine iteK_y (decide_eq_true rfl) ?_
        exact k _ s1
      | some q =>
        refine iteK_n (decide_eq_false fun z => by cases z) ?_
        obtain ⟨g, hg⟩ := hp q rfl
        dsimp only at k
        rw [hg] at k
        walk_at "go"
        refine iteK (fun e2 => ?_) fun e2 => ?_
        · have e2 : (!decide (V.str q = V.str n)) = true := e2
          have e2 : ¬ q = n := fun z => by
            subst z
            simp at e2
          rw [decide_eq_false e2] at k
          walk_at "go"
          refine world_mt hW s1 (by simp [wmeths]) ?_
          walk_at "go"
          refine ⟨v, W, q, rfl, world_mono s1 hW, fun y H2 s2 g2 => ?_⟩
          rw [hg] at g2
          refine thing_mt "can_hold" g2 (Same.refl _) no_can_hold ?_
          walk_at "go"
          refine ⟨y, g, rfl, g2, fun H3 s3 => ?_⟩
          exact k _ (s1.trans (s2.trans s3))
        · have e2 : q = n := by
            refine Decidable.byContradiction fun z => ?_
            have e2 : (!decide (V.str q = V.str n)) = false := e2
            rw [show (!decide (V.str q = V.str n)) = true from by rw [decide_eq_false fun h => z (by injection h)]; rfl] at e2
            cases e2
          rw [decide_eq_true e2] at k
          walk_at "go"
          exact k _ s1
def mayHave (W : Wd) (n : Str) (i : Int) : Bool := match W.most n with
  | none => false
  | some m => decide (i ≤ m)
def spMayHave (K : PySem.W.Frag) : Sp := fun vs H Q _ => ∃ v W n i, vs = [v, .str n, .int i] ∧ WorldAt K H v W ∧ ∀ H', Same H H' → Q (.bl (mayHave W n i)) H'
theorem sc_may_have : FnScope ["world", "name", "value", "most"] ["world", "name", "value"] (defScope s_may_have) := ⟨rfl, rfl, rfl, by decide +kernel, rfl, by decide +kernel, by decide +kernel⟩
theorem ok_may_have (t : T K mg) : C8.Cal P w K mg base 3 "may_have" (spMayHave K) [] := by
  have c_m := ok_most_of (P := P) (w := w) (base := base) t
  refine cal t.f_may_have t.g_may_have sc_may_have (fun _ _ _ _ _ _ us hl => match us, hl with | [_, _, _], _ => rfl) (fun vs H Q E h => ?_) fun cdv A outer s H vs Q E hr h => ?_
  · obtain ⟨v, W, n, i, rfl, _⟩ := h
    rfl
  · obtain ⟨v, W, n, i, rfl, hW, k⟩ := h
    refine ⟨_, (pss_cons (ps_set (i := 3) sc_may_have.nd rfl (Or.inl rfl) (C8.pe_mt c_m hr (by decide) (L2.pv 0) (pa_cons (L2.pv 1) pa_nil)))
      (pss_one (ps_ret (pe_and (pe_cmpR op_notN1 (L2.pv 3) pe_non (nomark _)) (pe_one (pe_cmpR op_le (L2.pv 2) (L2.pv 3) (nomark _))))))), ?_⟩
    unfold mayHave at k
    walk_at "go"
    refine world_mt hW (Same.refl H) (by simp [wmeths]) ?_
    walk_at "go"
    refine ⟨v, W, n, rfl, hW, fun H1 s1 => ?_⟩
    cases hm : W.most n with
    | none =>
      rw [hm] at k
      dsimp only at k
      walk_at "go"
      refine iteK_n (by rfl) ?_
      exact k _ s1
    | some m =>
      rw [hm] at k
      dsimp only at k
      walk_at "go"
      refine iteK_y (by rfl) ?_
      walk_at "go"
      exact r_I0 (i := i) (j := m) (k _ s1)
end
end Tw
set_option maxHeartbeats 4000000
/-! Deeds. -/
namespace Tw
open PySem PySem.Spec L2
local macro_rules | `(tactic| walk_at "rd1") => `(tactic| first
  | with_reducible refine x_seq ?_
  | ((with_reducible refine x_var (v := ?vv) ?hh ?_); case hh => exact rfl)
  | with_reducible refine x_c ?_
  | with_reducible refine x_op ?_
  | with_reducible refine x_fld ?_
  | with_reducible refine x_call ?_
  | with_reducible refine x_meth ?_
  | with_reducible refine x_make ?_
  | with_reducible refine x_cb ?_
  | with_reducible refine x_tup ?_
  | with_reducible refine x_lst ?_
  | with_reducible refine x_nil ?_
  | with_reducible refine x_cons ?_
  | with_reducible refine x_asg ?_
  | with_reducible refine x_name ?_
  | with_reducible refine x_ret ?_
  | with_reducible refine x_retN ?_
  | with_reducible refine x_drop ?_
  | with_reducible refine x_ifS ?_
  | with_reducible refine x_if ?_
  | with_reducible refine x_andV ?_
  | with_reducible refine x_orV ?_
  | with_reducible refine x_notV ?_
  | with_reducible refine x_test ?_
  | with_reducible refine x_tB ?_
  | with_reducible refine x_and ?_
  | with_reducible refine x_or ?_
  | with_reducible refine x_not ?_
  | with_reducible refine x_yes ?_
  | with_reducible refine x_next ?_
  | with_reducible refine x_sfld ?_
  | with_reducible refine blK ?_
  | with_reducible refine r_I0 ?_
  | with_reducible refine r_isN ?_
  | with_reducible refine r_notN ?_
  | ((with_reducible refine r_eq ?hh ?_); case hh => exact rfl)
  | ((with_reducible refine r_ne ?hh ?_); case hh => exact rfl)
  | with_reducible refine x_gnil ?_
  | with_reducible refine x_gcons ?_)
local macro_rules | `(tactic| walk_at "rd2") => `(tactic| first
  | walk_at "rd1"
  | with_reducible refine x_lc ?_
  | with_reducible refine x_for ?_
  | with_reducible refine x_itup ?_
  | with_reducible refine x_ilist ?_
  | with_reducible refine x_rng1 ?_
  | with_reducible refine x_bm ?_
  | with_reducible refine x_chain ?_
  | with_reducible refine x_istr ?_
  | with_reducible refine strK ?_
  | with_reducible refine x_sl ?_
  | with_reducible refine x_part ?_
  | with_reducible refine x_noPart ?_
  | with_reducible refine poK ?_
  | ((with_reducible refine ltK ?hh ?_); case hh => exact rfl)
  | ((with_reducible refine ltKx ?hh ?_); case hh => exact rfl)
  | with_reducible refine x_dput ?_
  | with_reducible refine x_dget ?_
  | with_reducible refine iteK_t ?_
  | with_reducible refine iteK_nf ?_
  | with_reducible refine iteK_nt ?_
  | with_reducible refine iteK_f ?_)
local macro_rules | `(tactic| walk_at "go") => `(tactic| repeat (walk_at "rd2"))
local macro_rules | `(tactic| walk_at "rd") => `(tactic| repeat (walk_at "rd1"))
local macro_rules | `(tactic| walk_at "at") => `(tactic| repeat (first | assumption | refine same_at' (by assumption) ?_))
local macro_rules | `(tactic| walk_at "sm") => `(tactic| repeat (first | exact Same.refl _ | assumption | refine Same.trans ?_ (by assumption)))
local macro_rules | `(tactic| walk_at "mk1") => `(tactic| first
  | with_reducible refine mk_new rfl fun _ _ _ _ _ _ => ?_
  | with_reducible refine lstK rfl fun _ _ _ _ _ => ?_
  | with_reducible refine tupK rfl fun _ _ _ _ _ => ?_
  | with_reducible refine mk_rule4 (SqL.of (by walk_at "at")) (SqL.of (by walk_at "at")) fun _ _ _ _ => ?_
  | with_reducible refine mk_rule (SqL.of (by walk_at "at")) (SqL.of (by walk_at "at")) fun _ _ _ _ => ?_
  | with_reducible refine c_refusal (SqL.of (by walk_at "at")) fun _ _ _ _ => ?_)
local macro_rules | `(tactic| walk_at "mk") => `(tactic| repeat (first | walk_at "rd2" | walk_at "mk1"))
local macro_rules | `(tactic| walk_at "ar1") => `(tactic| ((with_reducible refine r_I ?hh ?_); case hh => first | exact (show (0 : Int) < _ from by decide +kernel) | exact And.intro (by decide +kernel) (by decide +kernel) | exact Or.inr (And.intro (by decide +kernel) (by decide +kernel)) | exact Or.inl (And.intro (by decide +kernel) (by decide +kernel)) | exact And.intro (by decide +kernel) (And.intro (by decide +kernel) (by decide +kernel))))
local macro_rules | `(tactic| walk_at "ar") => `(tactic| repeat (first | walk_at "rd2" | walk_at "ar1"))

section
variable {P : Program} {w : World} {K : PySem.W.Frag} {mg : Str → Option Value} {base : Heap}
def MvAt (K : PySem.W.Frag) (H : Hp) (v : V) (term place : Str) : Prop := ∃ p dx, v = .ref p ∧ H p = some (.ins (He.ga K "Move") dx (F_Move [.str term, .str place]))
def PuAt (K : PySem.W.Frag) (H : Hp) (v : V) (term : Str) (i : Int) : Prop := ∃ p dx, v = .ref p ∧ H p = some (.ins (He.ga K "Put") dx (F_Put [.str term, .int i]))
def GotS (K : PySem.W.Frag) (H : Hp) (v : V) : Option Stand → Prop
  | some S => Dp K H v (standD S)
  | none => v = .non
def doneMv (W : Wd) (S : Stand) (n q : Str) (l : List Str) : Option Stand := if mayGo W n (some q) = true ∧ n ∉ l then some (putS S ("at", n) (.s q)) else none
def donePu (W : Wd) (S : Stand) (n : Str) (i : Int) : Option Stand := if mayHave W n i = true then some (putS S ("mark", n) (.n i)) else none
/-- the stand and the command as a deed meets them -/
structure Cx4 (K : PySem.W.Frag) (H : Hp) (v : V) (W : Wd) (sv : V) (S : Stand) (cv : V) (c : Cm) (b : Vb) (y x : Str) (r : List Str) : Prop where
  hW : WorldAt K H v W
  hS : Dp K H sv (standD S)
  oS : OkStand S
  hc : Dp K H cv (cmD c)
  hb : fVb c.verb = some b
  hy : W.kind "you" = y :: r
  oy : OkS y
  hx : look S ("at", y) = some (.s x)
  hz : S.length ≤ 1000
theorem Cx4.mono {H H' : Hp} {v sv cv : V} {W : Wd} {S : Stand} {c : Cm} {b : Vb} {y x : Str} {r : List Str} (s : Same H H') (h : Cx4 K H v W sv S cv c b y x r) : Cx4 K H' v W sv S cv c b y x r :=
  ⟨world_mono s h.hW, dp_mono s h.hS, h.oS, dp_mono s h.hc, h.hb, h.hy, h.oy, h.hx, h.hz⟩
def spMvDone (K : PySem.W.Frag) : Sp := fun vs H Q _ => ∃ dv v W sv S cv c b y x r term place n q h g l, vs = [dv, v, sv, cv] ∧ MvAt K H dv term place ∧ Cx4 K H v W sv S cv c b y x r ∧
  mean c b.form x term = some n ∧ mean c b.form x place = some q ∧ W.find n = some h ∧ W.find q = some g ∧ OkS n ∧ OkS q ∧ Ch S q l ∧ l.length ≤ 900 ∧
  ∀ v' H', Same H H' → GotS K H' v' (doneMv W S n q l) → Q v' H'
theorem sc_Move_done : FnScope ["self", "world", "stand", "command", "name", "place"] ["self", "world", "stand", "command"] (defScope s_Move_done) := ⟨rfl, rfl, rfl, by decide +kernel, rfl, by decide +kernel, by decide +kernel⟩
theorem ok_Move_done (t : T K mg) : C8.Met P w K mg base 5 (He.ga K "Move") "done" (spMvDone K) [] := by
  have c_meant := ok_meant (P := P) (w := w) (base := base) t
  have c_may_go := ok_may_go (P := P) (w := w) (base := base) t
  have c_holders_of := ok_holders_of (P := P) (w := w) (base := base) t
  have c_with_part := ok_with_part (P := P) (w := w) (base := base) t
  refine met t.f_Move_done t.c_Move t.m_Move_done sc_Move_done (fun _ _ _ _ _ _ us hl => match us, hl with | [_, _, _, _], _ => rfl) (fun vs H Q E h => ?_) fun cdv A outer s H vs Q E hr h => ?_
  · obtain ⟨dv, v, W, sv, S, cv, c, b, y, x, r, term, place, n, q, h, g, l, rfl, _⟩ := h
    rfl
  · obtain ⟨dv, v, W, sv, S, cv, c, b, y, x, r, term, place, n, q, h, g, l, rfl, ⟨p, dx, rfl, hp⟩, X, hn, hq, hh, hg, on, oq, hl, hz, k⟩ := h
    refine ⟨_, (pss_cons (ps_set (i := 4) sc_Move_done.nd rfl (Or.inl rfl) (C8.pe_c c_meant hr (by decide) (by rfl) (pa_cons (L2.pv 1) (pa_cons (L2.pv 2) (pa_cons (L2.pv 3) (pa_cons (pe_fld' (K := K) rfl (L2.pv 0) rfl) pa_nil))))))
      (pss_cons (ps_set (i := 5) sc_Move_done.nd rfl (Or.inl rfl) (C8.pe_c c_meant hr (by decide) (by rfl) (pa_cons (L2.pv 1) (pa_cons (L2.pv 2) (pa_cons (L2.pv 3) (pa_cons (pe_fld' (K := K) rfl (L2.pv 0) rfl) pa_nil))))))
      (pss_cons (ps_if (PW.pt (pw_or (pt_not (pt_val (C8.pe_c c_may_go hr (by decide) (by rfl) (pa_cons (L2.pv 1) (pa_cons (L2.pv 4) (pa_cons (L2.pv 5) pa_nil)))))) (pw_or1 (pt_cmpR (op_in' (K := K) rfl) (L2.pv 4) (C8.pe_c c_holders_of hr (by decide) (by rfl) (pa_cons (L2.pv 1) (pa_cons (L2.pv 2) (pa_cons (L2.pv 5) pa_nil)))) (by rfl))))) (pss_one (ps_ret pe_non)) pss_nil)
      (pss_one (ps_ret (C8.pe_c c_with_part hr (by decide) (by rfl) (pa_cons (L2.pv 2) (pa_cons (pe_tup (pa_cons pe_str (pa_cons (L2.pv 4) pa_nil))) (pa_cons (L2.pv 5) pa_nil))))))))), ?_⟩
    unfold doneMv at k
    walk_at "go"
    refine fldK hp t.c_Move t.n_Move_term (l_Move_term _ _) ?_
    walk_at "go"
    refine ⟨v, W, sv, S, cv, c, b, y, r, x, term, rfl, X.hW, X.hS, X.oS, X.hc, X.hb, X.hy, X.oy, X.hx, fun H1 s1 => ?_⟩
    rw [hn]
    have X1 := X.mono s1
    walk_at "go"
    refine fldK (s1 _ _ hp) t.c_Move t.n_Move_place (l_Move_place _ _) ?_
    walk_at "go"
    refine ⟨v, W, sv, S, cv, c, b, y, r, x, place, rfl, X1.hW, X1.hS, X1.oS, X1.hc, X1.hb, X1.hy, X1.oy, X1.hx, fun H2 s2 => ?_⟩
    rw [hq]
    have X2 := X1.mono s2
    walk_at "go"
    refine ⟨v, W, n, some q, h, rfl, X2.hW, hh, fun q' e => ⟨g, by cases e; exact hg⟩, fun H3 s3 => ?_⟩
    have X3 := X2.mono s3
    have S3 := s1.trans (s2.trans s3)
    walk_at "go"
    refine iteK (fun e => ?_) fun e => ?_
    · have e : ¬ mayGo W n (some q) = true := by simpa using e
      rw [if_neg fun z => e z.1] at k
      walk_at "go"
      exact k _ _ S3 rfl
    · have e : mayGo W n (some q) = true := by simpa using e
      walk_at "go"
      refine ⟨v, sv, S, q, l, rfl, X3.hS, X3.oS, oq, hl, hz, fun a H4 na s4 h4 => ?_⟩
      have X4 := X3.mono s4
      walk_at "go"
      refine r_inL (SqL.of h4) rfl (flat_strs l) ?_
      rw [if_neg Bool.false_ne_true]
      walk_at "go"
      refine iteK (fun e2 => ?_) fun e2 => ?_
      · have hm : n ∈ l := Decidable.byContradiction fun z => by
          have e2 : inV (.str n) (l.map V.str) = true := e2
          rw [inV_no z] at e2
          cases e2
        rw [if_neg fun z => z.2 hm] at k
        walk_at "go"
        exact k _ _ (S3.trans s4) rfl
      · have hm : n ∉ l := fun z => by
          have e2 : inV (.str n) (l.map V.str) = false := e2
          rw [inV_yes z] at e2
          cases e2
        rw [if_pos ⟨e, hm⟩] at k
        walk_at "go"
        refine tupK rfl fun a5 H5 n5 s5 h5 => ?_
        have X5 := X4.mono s5
        walk_at "go"
        exact ⟨sv, .ref a5, S, ("at", n), .s q, rfl, X5.hS, dp_part h5, X5.oS, ⟨ok_at, on⟩, X5.hz, fun v' H6 s6 g6 => k v' H6 (S3.trans (s4.trans (s5.trans s6))) g6⟩
def spPuDone (K : PySem.W.Frag) : Sp := fun vs H Q _ => ∃ dv v W sv S cv c b y x r term i n, vs = [dv, v, sv, cv] ∧ PuAt K H dv term i ∧ Cx4 K H v W sv S cv c b y x r ∧
  mean c b.form x term = some n ∧ OkS n ∧ ∀ v' H', Same H H' → GotS K H' v' (donePu W S n i) → Q v' H'
theorem sc_Put_done : FnScope ["self", "world", "stand", "command", "name"] ["self", "world", "stand", "command"] (defScope s_Put_done) := ⟨rfl, rfl, rfl, by decide +kernel, rfl, by decide +kernel, by decide +kernel⟩
theorem ok_Put_done (t : T K mg) : C8.Met P w K mg base 5 (He.ga K "Put") "done" (spPuDone K) [] := by
  have c_meant := ok_meant (P := P) (w := w) (base := base) t
  have c_may_have := ok_may_have (P := P) (w := w) (base := base) t
  have c_with_part := ok_with_part (P := P) (w := w) (base := base) t
  refine met t.f_Put_done t.c_Put t.m_Put_done sc_Put_done (fun _ _ _ _ _ _ us hl => match us, hl with | [_, _, _, _], _ => rfl) (fun vs H Q E h => ?_) fun cdv A outer s H vs Q E hr h => ?_
  · obtain ⟨dv, v, W, sv, S, cv, c, b, y, x, r, term, i, n, rfl, _⟩ := h
    rfl
  · obtain ⟨dv, v, W, sv, S, cv, c, b, y, x, r, term, i, n, rfl, ⟨p, dx, rfl, hp⟩, X, hn, on, k⟩ := h
    refine ⟨_, (pss_cons (ps_set (i := 4) sc_Put_done.nd rfl (Or.inl rfl) (C8.pe_c c_meant hr (by decide) (by rfl) (pa_cons (L2.pv 1) (pa_cons (L2.pv 2) (pa_cons (L2.pv 3) (pa_cons (pe_fld' (K := K) rfl (L2.pv 0) rfl) pa_nil))))))
      (pss_cons (ps_if (pt_not (pt_val (C8.pe_c c_may_have hr (by decide) (by rfl) (pa_cons (L2.pv 1) (pa_cons (L2.pv 4) (pa_cons (pe_fld' (K := K) rfl (L2.pv 0) rfl) pa_nil)))))) (pss_one (ps_ret pe_non)) pss_nil)
      (pss_one (ps_ret (C8.pe_c c_with_part hr (by decide) (by rfl) (pa_cons (L2.pv 2) (pa_cons (pe_tup (pa_cons pe_str (pa_cons (L2.pv 4) pa_nil))) (pa_cons (pe_fld' (K := K) rfl (L2.pv 0) rfl) pa_nil)))))))), ?_⟩
    unfold donePu at k
    walk_at "go"
    refine fldK hp t.c_Put t.n_Put_term (l_Put_term _ _) ?_
    walk_at "go"
    refine ⟨v, W, sv, S, cv, c, b, y, r, x, term, rfl, X.hW, X.hS, X.oS, X.hc, X.hb, X.hy, X.oy, X.hx, fun H1 s1 => ?_⟩
    rw [hn]
    have X1 := X.mono s1
    walk_at "go"
    refine fldK (s1 _ _ hp) t.c_Put t.n_Put_value (l_Put_value _ _) ?_
    walk_at "go"
    refine ⟨v, W, n, i, rfl, X1.hW, fun H2 s2 => ?_⟩
    have X2 := X1.mono s2
    have S2 := s1.trans s2
    walk_at "go"
    refine iteK (fun e => ?_) fun e => ?_
    · have e : ¬ mayHave W n i = true := by simpa using e
      rw [if_neg e] at k
      walk_at "go"
      exact k _ _ S2 rfl
    · have e : mayHave W n i = true := by simpa using e
      rw [if_pos e] at k
      walk_at "go"
      refine tupK rfl fun a5 H5 n5 s5 h5 => ?_
      have X5 := X2.mono s5
      walk_at "go"
      refine fldK (s5 _ _ (S2 _ _ hp)) t.c_Put t.n_Put_value (l_Put_value _ _) ?_
      exact ⟨sv, .ref a5, S, ("mark", n), .n i, rfl, X5.hS, dp_part h5, X5.oS, ⟨ok_mark, on⟩, X5.hz, fun v' H6 s6 g6 => k v' H6 (S2.trans (s5.trans s6)) g6⟩
/-! ### the part that a deed changes -/
def GotP (K : PySem.W.Frag) (H : Hp) (v : V) : Option Part → Prop
  | some p => Dp K H v (partD p)
  | none => v = .non
def spMvChange (K : PySem.W.Frag) : Sp := fun vs H Q _ => ∃ dv v W it other term place n h, vs = [dv, v, oS it, oS other] ∧ MvAt K H dv term place ∧ WorldAt K H v W ∧ nm it other term = some n ∧ W.find n = some h ∧
  (∀ q, nm it other place = some q → ∃ g, W.find q = some g) ∧ ∀ v' H', Same H H' → GotP K H' v' (if mayGo W n (nm it other place) = true then some ("at", n) else none) → Q v' H'
theorem sc_Move_change : FnScope ["self", "world", "it", "other", "name"] ["self", "world", "it", "other"] (defScope s_Move_change) := ⟨rfl, rfl, rfl, by decide +kernel, rfl, by decide +kernel, by decide +kernel⟩
theorem ok_Move_change (t : T K mg) : C8.Met P w K mg base 3 (He.ga K "Move") "change" (spMvChange K) [] := by
  have c_named := ok_named (P := P) (w := w) (base := base) t
  have c_may_go := ok_may_go (P := P) (w := w) (base := base) t
  refine met t.f_Move_change t.c_Move t.m_Move_change sc_Move_change (fun _ _ _ _ _ _ us hl => match us, hl with | [_, _, _, _], _ => rfl) (fun vs H Q E h => ?_) fun cdv A outer s H vs Q E hr h => ?_
  · obtain ⟨dv, v, W, it, other, term, place, n, h, rfl, _⟩ := h
    rfl
  · obtain ⟨dv, v, W, it, other, term, place, n, h, rfl, ⟨p, dx, rfl, hp⟩, hW, hn, hh, hg, k⟩ := h
    refine ⟨_, (pss_cons (ps_set (i := 4) sc_Move_change.nd rfl (Or.inl rfl) (C8.pe_c c_named hr (by decide) (by rfl) (pa_cons (pe_fld' (K := K) rfl (L2.pv 0) rfl) (pa_cons (L2.pv 2) (pa_cons (L2.pv 3) pa_nil)))))
      (pss_cons (ps_if (pt_not (pt_val (C8.pe_c c_may_go hr (by decide) (by rfl) (pa_cons (L2.pv 1) (pa_cons (L2.pv 4) (pa_cons (C8.pe_c c_named hr (by decide) (by rfl) (pa_cons (pe_fld' (K := K) rfl (L2.pv 0) rfl) (pa_cons (L2.pv 2) (pa_cons (L2.pv 3) pa_nil)))) pa_nil)))))) (pss_one (ps_ret pe_non)) pss_nil)
      (pss_one (ps_ret (pe_tup (pa_cons pe_str (pa_cons (L2.pv 4) pa_nil))))))), ?_⟩
    walk_at "go"
    refine fldK hp t.c_Move t.n_Move_term (l_Move_term _ _) ?_
    walk_at "go"
    refine ⟨term, it, other, rfl, fun H1 s1 => ?_⟩
    rw [hn]
    walk_at "go"
    refine fldK (s1 _ _ hp) t.c_Move t.n_Move_place (l_Move_place _ _) ?_
    walk_at "go"
    refine ⟨place, it, other, rfl, fun H2 s2 => ?_⟩
    walk_at "go"
    refine ⟨v, W, n, _, h, rfl, world_mono (s1.trans s2) hW, hh, hg, fun H3 s3 => ?_⟩
    walk_at "go"
    refine iteK (fun e => ?_) fun e => ?_
    · have e : ¬ mayGo W n (nm it other place) = true := by simpa using e
      rw [if_neg e] at k
      walk_at "go"
      exact k _ _ (s1.trans (s2.trans s3)) rfl
    · have e : mayGo W n (nm it other place) = true := by simpa using e
      rw [if_pos e] at k
      walk_at "go"
      refine tupK rfl fun a5 H5 n5 s5 h5 => ?_
      exact k _ _ (s1.trans (s2.trans (s3.trans s5))) (dp_part (p := ("at", n)) h5)
def spPuChange (K : PySem.W.Frag) : Sp := fun vs H Q _ => ∃ dv v W it other term i n, vs = [dv, v, oS it, oS other] ∧ PuAt K H dv term i ∧ WorldAt K H v W ∧ nm it other term = some n ∧
  ∀ v' H', Same H H' → GotP K H' v' (if mayHave W n i = true then some ("mark", n) else none) → Q v' H'
theorem sc_Put_change : FnScope ["self", "world", "it", "other", "name"] ["self", "world", "it", "other"] (defScope s_Put_change) := ⟨rfl, rfl, rfl, by decide +kernel, rfl, by decide +kernel, by decide +kernel⟩
theorem ok_Put_change (t : T K mg) : C8.Met P w K mg base 4 (He.ga K "Put") "change" (spPuChange K) [] := by
  have c_named := ok_named (P := P) (w := w) (base := base) t
  have c_may_have := ok_may_have (P := P) (w := w) (base := base) t
  refine met t.f_Put_change t.c_Put t.m_Put_change sc_Put_change (fun _ _ _ _ _ _ us hl => match us, hl with | [_, _, _, _], _ => rfl) (fun vs H Q E h => ?_) fun cdv A outer s H vs Q E hr h => ?_
  · obtain ⟨dv, v, W, it, other, term, i, n, rfl, _⟩ := h
    rfl
  · obtain ⟨dv, v, W, it, other, term, i, n, rfl, ⟨p, dx, rfl, hp⟩, hW, hn, k⟩ := h
    refine ⟨_, (pss_cons (ps_set (i := 4) sc_Put_change.nd rfl (Or.inl rfl) (C8.pe_c c_named hr (by decide) (by rfl) (pa_cons (pe_fld' (K := K) rfl (L2.pv 0) rfl) (pa_cons (L2.pv 2) (pa_cons (L2.pv 3) pa_nil)))))
      (pss_cons (ps_if (pt_not (pt_val (C8.pe_c c_may_have hr (by decide) (by rfl) (pa_cons (L2.pv 1) (pa_cons (L2.pv 4) (pa_cons (pe_fld' (K := K) rfl (L2.pv 0) rfl) pa_nil)))))) (pss_one (ps_ret pe_non)) pss_nil)
      (pss_one (ps_ret (pe_tup (pa_cons pe_str (pa_cons (L2.pv 4) pa_nil))))))), ?_⟩
    walk_at "go"
    refine fldK hp t.c_Put t.n_Put_term (l_Put_term _ _) ?_
    walk_at "go"
    refine ⟨term, it, other, rfl, fun H1 s1 => ?_⟩
    rw [hn]
    walk_at "go"
    refine fldK (s1 _ _ hp) t.c_Put t.n_Put_value (l_Put_value _ _) ?_
    walk_at "go"
    refine ⟨v, W, n, i, rfl, world_mono s1 hW, fun H3 s3 => ?_⟩
    walk_at "go"
    refine iteK (fun e => ?_) fun e => ?_
    · have e : ¬ mayHave W n i = true := by simpa using e
      rw [if_neg e] at k
      walk_at "go"
      exact k _ _ (s1.trans s3) rfl
    · have e : mayHave W n i = true := by simpa using e
      rw [if_pos e] at k
      walk_at "go"
      refine tupK rfl fun a5 H5 n5 s5 h5 => ?_
      exact k _ _ (s1.trans (s3.trans s5)) (dp_part (p := ("mark", n)) h5)
/-! ### what a deed reads -/
abbrev atP (n : Str) : Part := ("at", n)
abbrev mkP (n : Str) : Part := ("mark", n)
def ReadsP (H : Hp) (v : V) (qs : List Part) : Prop := ∃ a zs, v = .ref a ∧ H a = some (.tup zs) ∧ Paired (PtAt H) zs qs
theorem reads_mono {H H' : Hp} {v : V} {qs : List Part} (s : Same H H') (h : ReadsP H v qs) : ReadsP H' v qs := by
  obtain ⟨a, zs, e, h1, h2⟩ := h
  exact ⟨a, zs, e, s _ _ h1, Paired.mapP h2 fun _ _ q => pt_mono s q⟩
def spMvReads (K : PySem.W.Frag) : Sp := fun vs H Q _ => ∃ dv v W it other term place n h y r, vs = [dv, v, oS it, oS other] ∧ MvAt K H dv term place ∧ WorldAt K H v W ∧ nm it other term = some n ∧ W.find n = some h ∧ W.kind "you" = y :: r ∧
  ∀ v' H' qs, Same H H' → ReadsP H' v' qs → qs.length ≤ 60 → (∀ e ∈ qs, e.1 = "at" ∧ (e.2 ∈ W.kind "box" ∨ e.2 = y)) → (h.kind = "box" → ∀ m ∈ W.kind "box", atP m ∈ qs) → (place = "here" → atP y ∈ qs) → Q v' H'
theorem sc_Move_reads : FnScope ["self", "world", "it", "other", "name", "found"] ["self", "world", "it", "other"] (defScope s_Move_reads) := ⟨rfl, rfl, rfl, by decide +kernel, rfl, by decide +kernel, by decide +kernel⟩
theorem ok_Move_reads (t : T K mg) : C8.Met P w K mg base 3 (He.ga K "Move") "reads" (spMvReads K) [] := by
  have c_named := ok_named (P := P) (w := w) (base := base) t
  have c_t := ok_thing_of (P := P) (w := w) (base := base) t
  have c_y := ok_you (P := P) (w := w) (base := base) t
  have c_at_boxes := ok_at_boxes (P := P) (w := w) (base := base) t
  have c_sorted_parts := ok_sorted_parts (P := P) (w := w) (base := base) t
  refine met t.f_Move_reads t.c_Move t.m_Move_reads sc_Move_reads (fun _ _ _ _ _ _ us hl => match us, hl with | [_, _, _, _], _ => rfl) (fun vs H Q E h => ?_) fun cdv A outer s H vs Q E hr h => ?_
  · obtain ⟨dv, v, W, it, other, term, place, n, h, y, r, rfl, _⟩ := h
    rfl
  · obtain ⟨dv, v, W, it, other, term, place, n, h, y, r, rfl, ⟨p, dx, rfl, hp⟩, hW, hn, hh, hy, k⟩ := h
    have hk : (W.kind "box").length ≤ 20 := by
      have := (world_sizes hW).1
      unfold Wd.kind
      rw [List.length_map]
      exact Nat.le_trans (List.length_filter_le _ _) this
    refine ⟨_, (pss_cons (ps_set (i := 4) sc_Move_reads.nd rfl (Or.inl rfl) (C8.pe_c c_named hr (by decide) (by rfl) (pa_cons (pe_fld' (K := K) rfl (L2.pv 0) rfl) (pa_cons (L2.pv 2) (pa_cons (L2.pv 3) pa_nil)))))
      (pss_cons (ps_set (i := 5) sc_Move_reads.nd rfl (Or.inl rfl) (pe_lst pa_nil))
      (pss_cons (ps_if (PW.pt (pw_and (pt_cmpR op_notN1 (L2.pv 4) pe_non (nomark _)) (pw_and1 (pt_cmpR op_eq (pe_fld' (K := K) rfl (C8.pe_mt c_t hr (by decide) (L2.pv 1) (pa_cons (L2.pv 4) pa_nil)) rfl) pe_str (nomark _))))) (pss_one (ps_set (i := 5) sc_Move_reads.nd rfl (Or.inl rfl) (C8.pe_c c_at_boxes hr (by decide) (by rfl) (pa_cons (L2.pv 1) pa_nil)))) pss_nil)
      (pss_cons (ps_if (pt_cmpR op_eq (pe_fld' (K := K) rfl (L2.pv 0) rfl) pe_str (nomark _)) (pss_one (ps_set (i := 5) sc_Move_reads.nd rfl (Or.inl rfl) (pe_op op_cat (L2.pv 5) (pe_lst (pa_cons (pe_tup (pa_cons pe_str (pa_cons (C8.pe_mt0 c_y hr (by decide) (L2.pv 1)) pa_nil))) pa_nil))))) pss_nil)
      (pss_one (ps_ret (C8.pe_c c_sorted_parts hr (by decide) (by rfl) (pa_cons (L2.pv 5) pa_nil)))))))), ?_⟩
    -- what is found, then here or not
    have fin : ∀ (H1 : Hp) (a : Addr) (ys : List V) (ps : List Part) (o : V), Same H H1 → H1 a = some (.lst ys) → Paired (PtAt H1) ys ps → ps.length ≤ 21 → (∀ e ∈ ps, e.1 = "at" ∧ (e.2 ∈ W.kind "box" ∨ e.2 = y)) → (h.kind = "box" → ∀ m ∈ W.kind "box", atP m ∈ ps) →
        (place = "here" → atP y ∈ ps) → spSorted K [.ref a] H1 Q E := fun H1 a ys ps o s1 h1 hps hz g1 g2 g3 =>
      ⟨a, ys, ps, rfl, .of h1, hps, by omega, fun z H2 zs qs s2 h2 hqs i1 i2 lz => k _ H2 qs (s1.trans s2) ⟨z, zs, rfl, h2, hqs⟩ lz (fun e he => g1 e (i1 e he)) (fun e m hm => i2 _ (g2 e m hm)) fun e => i2 _ (g3 e)⟩
    have mid : ∀ (H1 : Hp) (a : Addr) (ys : List V) (ps : List Part), Same H H1 → H1 a = some (.lst ys) → Paired (PtAt H1) ys ps → ps.length ≤ 20 → (∀ e ∈ ps, e.1 = "at" ∧ (e.2 ∈ W.kind "box" ∨ e.2 = y)) → (h.kind = "box" → ∀ m ∈ W.kind "box", atP m ∈ ps) →
        ∀ (H2 : Hp) (b : Addr), Same H1 H2 → H2 b = some (.lst [.ref b]) → True := fun _ _ _ _ _ _ _ _ _ _ _ _ _ _ => trivial
    clear mid
    walk_at "go"
    refine fldK hp t.c_Move t.n_Move_term (l_Move_term _ _) ?_
    walk_at "go"
    refine ⟨term, it, other, rfl, fun H1 s1 => ?_⟩
    rw [hn]
    walk_at "go"
    refine lstK rfl fun a2 H2 n2 s2 h2 => ?_
    walk_at "go"
    refine iteK_y (by rfl) ?_
    walk_at "go"
    refine world_mt hW (s1.trans s2) (by simp [wmeths]) ?_
    walk_at "go"
    refine ⟨v, W, n, rfl, world_mono (s1.trans s2) hW, fun x H3 s3 g3 => ?_⟩
    rw [hh] at g3
    refine thing_kind t g3 (Same.refl _) ?_
    have S3 := s1.trans (s2.trans s3)
    walk_at "go"
    refine iteK (fun e => ?_) fun e => ?_
    · have e : h.kind = "box" := by have := of_decide_eq_true e; injection this
      walk_at "go"
      refine ⟨v, W, rfl, world_mono S3 hW, fun a4 H4 ys n4 s4 h4 hp4 => ?_⟩
      have S4 := S3.trans s4
      have hb : ∀ e ∈ (W.kind "box").map fun b => (("at", b) : Part), e.1 = "at" ∧ (e.2 ∈ W.kind "box" ∨ e.2 = y) := fun e he => by
        obtain ⟨m, hm, rfl⟩ := List.mem_map.mp he
        exact ⟨rfl, .inl hm⟩
      have hm : h.kind = "box" → ∀ m ∈ W.kind "box", atP m ∈ (W.kind "box").map fun b => (("at", b) : Part) := fun _ m hm => List.mem_map.mpr ⟨m, hm, rfl⟩
      have hz : ((W.kind "box").map fun b => (("at", b) : Part)).length ≤ 20 := by rw [List.length_map]; exact hk
      generalize ((W.kind "box").map fun b => (("at", b) : Part)) = ps at hp4 hb hm hz
      walk_at "go"
      refine fldK (S4 _ _ hp) t.c_Move t.n_Move_place (l_Move_place _ _) ?_
      walk_at "go"
      refine iteK (fun e2 => ?_) fun e2 => ?_
      · walk_at "go"
        refine world_mt hW S4 (by simp [wmeths]) ?_
        walk_at "go"
        refine ⟨v, W, y, r, rfl, world_mono S4 hW, hy, fun H5 s5 => ?_⟩
        walk_at "go"
        refine tupK rfl fun a6 H6 n6 s6 h6 => ?_
        walk_at "go"
        refine lstK rfl fun a7 H7 n7 s7 h7 => ?_
        have l1 := hp4.length
        refine r_cat (s7 _ _ (s6 _ _ (s5 _ _ h4))) h7 (by simp; omega) fun a8 H8 n8 s8 h8 => ?_
        walk_at "go"
        refine fin H8 a8 _ (ps ++ [atP y]) .non (S4.trans (s5.trans (s6.trans (s7.trans s8)))) h8 (paired_app (Paired.mapP hp4 fun _ _ q => pt_mono (s5.trans (s6.trans (s7.trans s8))) q) (.cons ⟨a6, rfl, s8 _ _ (s7 _ _ h6)⟩ .nil)) (by rw [List.length_append]; simp; omega) (fun e he => ?_) (fun e m q => List.mem_append.mpr (.inl (hm e m q))) (fun _ => List.mem_append.mpr (.inr (List.mem_singleton.mpr rfl)))
        rcases List.mem_append.mp he with he | he
        · exact hb e he
        · rw [List.mem_singleton.mp he]
          exact ⟨rfl, .inr rfl⟩
      · have e2 : ¬ place = "here" := fun z => of_decide_eq_false e2 (congrArg V.str z)
        walk_at "go"
        exact fin H4 a4 ys ps .non S4 h4 hp4 (by omega) hb hm fun z => absurd z e2
    · have e : ¬ h.kind = "box" := fun z => of_decide_eq_false e (congrArg V.str z)
      walk_at "go"
      refine fldK (S3 _ _ hp) t.c_Move t.n_Move_place (l_Move_place _ _) ?_
      walk_at "go"
      refine iteK (fun e2 => ?_) fun e2 => ?_
      · walk_at "go"
        refine world_mt hW S3 (by simp [wmeths]) ?_
        walk_at "go"
        refine ⟨v, W, y, r, rfl, world_mono S3 hW, hy, fun H5 s5 => ?_⟩
        walk_at "go"
        refine tupK rfl fun a6 H6 n6 s6 h6 => ?_
        walk_at "go"
        refine lstK rfl fun a7 H7 n7 s7 h7 => ?_
        refine r_cat (s7 _ _ (s6 _ _ (s5 _ _ (s3 _ _ h2)))) h7 (by simp) fun a8 H8 n8 s8 h8 => ?_
        walk_at "go"
        refine fin H8 a8 _ [atP y] .non (S3.trans (s5.trans (s6.trans (s7.trans s8)))) h8 (.cons ⟨a6, rfl, s8 _ _ (s7 _ _ h6)⟩ .nil) (by simp) (fun e he => ?_) (fun z => absurd z e) (fun _ => List.mem_singleton.mpr rfl)
        rw [List.mem_singleton.mp he]
        exact ⟨rfl, .inr rfl⟩
      · have e2 : ¬ place = "here" := fun z => of_decide_eq_false e2 (congrArg V.str z)
        walk_at "go"
        exact fin H3 a2 [] [] .non S3 (s3 _ _ h2) .nil (by simp) (fun e he => absurd he (by simp)) (fun z => absurd z e) fun z => absurd z e2
def spPuReads (K : PySem.W.Frag) : Sp := fun vs H Q _ => ∃ dv v a b term i, vs = [dv, v, a, b] ∧ PuAt K H dv term i ∧ ∀ v' H', Same H H' → ReadsP H' v' [] → Q v' H'
theorem sc_Put_reads : FnScope ["self", "world", "it", "other"] ["self", "world", "it", "other"] (defScope s_Put_reads) := ⟨rfl, rfl, rfl, by decide +kernel, rfl, by decide +kernel, by decide +kernel⟩
theorem ok_Put_reads (t : T K mg) : C8.Met P w K mg base 1 (He.ga K "Put") "reads" (spPuReads K) [] := by
  refine met t.f_Put_reads t.c_Put t.m_Put_reads sc_Put_reads (fun _ _ _ _ _ _ us hl => match us, hl with | [_, _, _, _], _ => rfl) (fun vs H Q E h => ?_) fun cdv A outer s H vs Q E hr h => ?_
  · obtain ⟨dv, v, a, b, term, i, rfl, _⟩ := h
    rfl
  · obtain ⟨dv, v, a, b, term, i, rfl, hp, k⟩ := h
    refine ⟨_, (pss_one (ps_ret (pe_tup pa_nil))), ?_⟩
    walk_at "go"
    exact tupK rfl fun p H1 np s1 h1 => k _ _ s1 ⟨p, [], rfl, h1, .nil⟩
end
end Tw
set_option maxHeartbeats 4000000
/-! The law's draws. -/
namespace Tw
open PySem PySem.Spec L2
local macro_rules | `(tactic| walk_at "rd1") => `(tactic| first
  | with_reducible refine x_seq ?_
  | ((with_reducible refine x_var (v := ?vv) ?hh ?_); case hh => exact rfl)
  | with_reducible refine x_c ?_
  | with_reducible refine x_op ?_
  | with_reducible refine x_fld ?_
  | with_reducible refine x_call ?_
  | with_reducible refine x_meth ?_
  | with_reducible refine x_make ?_
  | with_reducible refine x_cb ?_
  | with_reducible refine x_tup ?_
  | with_reducible refine x_lst ?_
  | with_reducible refine x_nil ?_
  | with_reducible refine x_cons ?_
  | with_reducible refine x_asg ?_
  | with_reducible refine x_name ?_
  | with_reducible refine x_ret ?_
  | with_reducible refine x_retN ?_
  | with_reducible refine x_drop ?_
  | with_reducible refine x_ifS ?_
  | with_reducible refine x_if ?_
  | with_reducible refine x_andV ?_
  | with_reducible refine x_orV ?_
  | with_reducible refine x_notV ?_
  | with_reducible refine x_test ?_
  | with_reducible refine x_tB ?_
  | with_reducible refine x_and ?_
  | with_reducible refine x_or ?_
  | with_reducible refine x_not ?_
  | with_reducible refine x_yes ?_
  | with_reducible refine x_next ?_
  | with_reducible refine x_sfld ?_
  | with_reducible refine blK ?_
  | with_reducible refine r_I0 ?_
  | with_reducible refine r_isN ?_
  | with_reducible refine r_notN ?_
  | ((with_reducible refine r_eq ?hh ?_); case hh => exact rfl)
  | ((with_reducible refine r_ne ?hh ?_); case hh => exact rfl)
  | with_reducible refine x_gnil ?_
  | with_reducible refine x_gcons ?_)
local macro_rules | `(tactic| walk_at "rd2") => `(tactic| first
  | walk_at "rd1"
  | with_reducible refine x_lc ?_
  | with_reducible refine x_for ?_
  | with_reducible refine x_itup ?_
  | with_reducible refine x_ilist ?_
  | with_reducible refine x_rng1 ?_
  | with_reducible refine x_bm ?_
  | with_reducible refine x_chain ?_
  | with_reducible refine x_istr ?_
  | with_reducible refine strK ?_
  | with_reducible refine x_sl ?_
  | with_reducible refine x_part ?_
  | with_reducible refine x_noPart ?_
  | with_reducible refine poK ?_
  | ((with_reducible refine ltK ?hh ?_); case hh => exact rfl)
  | ((with_reducible refine ltKx ?hh ?_); case hh => exact rfl)
  | with_reducible refine x_dput ?_
  | with_reducible refine x_dget ?_
  | with_reducible refine iteK_t ?_
  | with_reducible refine iteK_nf ?_
  | with_reducible refine iteK_nt ?_
  | with_reducible refine iteK_f ?_)
local macro_rules | `(tactic| walk_at "go") => `(tactic| repeat (walk_at "rd2"))
local macro_rules | `(tactic| walk_at "rd") => `(tactic| repeat (walk_at "rd1"))
local macro_rules | `(tactic| walk_at "at") => `(tactic| repeat (first | assumption | refine same_at' (by assumption) ?_))
local macro_rules | `(tactic| walk_at "sm") => `(tactic| repeat (first | exact Same.refl _ | assumption | refine Same.trans ?_ (by assumption)))
local macro_rules | `(tactic| walk_at "mk1") => `(tactic| first
  | with_reducible refine mk_new rfl fun _ _ _ _ _ _ => ?_
  | with_reducible refine lstK rfl fun _ _ _ _ _ => ?_
  | with_reducible refine tupK rfl fun _ _ _ _ _ => ?_
  | with_reducible refine mk_rule4 (SqL.of (by walk_at "at")) (SqL.of (by walk_at "at")) fun _ _ _ _ => ?_
  | with_reducible refine mk_rule (SqL.of (by walk_at "at")) (SqL.of (by walk_at "at")) fun _ _ _ _ => ?_
  | with_reducible refine c_refusal (SqL.of (by walk_at "at")) fun _ _ _ _ => ?_)
local macro_rules | `(tactic| walk_at "mk") => `(tactic| repeat (first | walk_at "rd2" | walk_at "mk1"))
local macro_rules | `(tactic| walk_at "ar1") => `(tactic| ((with_reducible refine r_I ?hh ?_); case hh => first | exact (show (0 : Int) < _ from by decide +kernel) | exact And.intro (by decide +kernel) (by decide +kernel) | exact Or.inr (And.intro (by decide +kernel) (by decide +kernel)) | exact Or.inl (And.intro (by decide +kernel) (by decide +kernel)) | exact And.intro (by decide +kernel) (And.intro (by decide +kernel) (by decide +kernel))))
local macro_rules | `(tactic| walk_at "ar") => `(tactic| repeat (first | walk_at "rd2" | walk_at "ar1"))

/-- the list of what is left to draw -/
def XsAt (H : Hp) (a : Addr) : Prop := ∃ ns : List Int, H a = some (.lst (ns.map V.int)) ∧ ns.length ≤ 400
/-- only the list at a has been written at -/
structure Xst (a : Addr) (H H' : Hp) : Prop where
  sm : Same (del a H) (del a H')
  xs : XsAt H' a
theorem Xst.trans {a : Addr} {H H' H2 : Hp} (x : Xst a H H') (y : Xst a H' H2) : Xst a H H2 := ⟨x.sm.trans y.sm, y.xs⟩
theorem XsAt.grow {a : Addr} {H H' : Hp} (x : XsAt H a) (s : Same H H') : XsAt H' a := by
  obtain ⟨ns, h, l⟩ := x
  exact ⟨ns, s _ _ h, l⟩
theorem Xst.grow {a : Addr} {H H' H2 : Hp} (x : Xst a H H') (s : Same H' H2) : Xst a H H2 := ⟨x.sm.trans (del_mono s), x.xs.grow s⟩
theorem Xst.of {a : Addr} {H H' : Hp} (x : XsAt H a) (s : Same H H') : Xst a H H' := ⟨del_mono s, x.grow s⟩
theorem Xst.ref {a : Addr} {H : Hp} (x : XsAt H a) : Xst a H H := Xst.of x (Same.refl H)
theorem Xst.le {a : Addr} {H H' : Hp} (x : Xst a H H') : Same (del a H) H' := x.sm.trans del_le
theorem XsAt.some {a : Addr} {H : Hp} (x : XsAt H a) : ∃ ys, H a = some (.lst ys) := by
  obtain ⟨ns, h, _⟩ := x
  exact ⟨_, h⟩
section
variable {P : Program} {w : World} {K : PySem.W.Frag} {mg : Str → Option Value} {base : Heap}
def spCellAt (K : PySem.W.Frag) : Sp := fun vs H Q _ => ∃ (a : Addr) (ns : List Int) (i : Nat), vs = [.ref a, .int i] ∧ SqL K H a (ns.map V.int) ∧ ∀ n H', Same H H' → Q (.int n) H'
theorem sc_law_cell_at : FnScope ["_law_script", "_law_k"] ["_law_script", "_law_k"] (defScope s_law_cell_at) := ⟨rfl, rfl, rfl, by decide +kernel, rfl, by decide +kernel, by decide +kernel⟩
theorem ok_law_cell_at (t : T K mg) : C8.Cal P w K mg base 1 "_law_cell_at" (spCellAt K) [] := by
  refine cal t.f_law_cell_at t.g_law_cell_at sc_law_cell_at (fun _ _ _ _ _ _ us hl => match us, hl with | [_, _], _ => rfl) (fun vs H Q E h => ?_) fun cdv A outer s H vs Q E hr h => ?_
  · obtain ⟨a, ns, i, rfl, _⟩ := h
    rfl
  · obtain ⟨a, ns, i, rfl, h, k⟩ := h
    refine ⟨_, (pss_cons (ps_if (pt_cmpR op_lt (L2.pv 1) (pe_callB (cr_len (K := K) rfl) (by rfl) t.b_len (by decide +kernel) (pa_cons (L2.pv 0) pa_nil)) (nomark _)) (pss_one (ps_ret (pe_ix (ix_list' (K := K) rfl) (L2.pv 0) (L2.pv 1) (fun _ _ => rfl)))) pss_nil)
      (pss_one (ps_ret pe_int))), ?_⟩
    walk_at "go"
    refine r_len h ?_
    walk_at "go"
    refine iteK (fun e => ?_) fun e => ?_
    · have e := of_decide_eq_true e
      rw [List.length_map] at e
      have hl : i < ns.length := by omega
      walk_at "go"
      refine r_ixL (v := .int ns[i]) h ?_ (k _ H (Same.refl H))
      unfold atI ixN
      rw [if_pos (by omega), if_pos (by rw [List.length_map]; omega)]
      show (ns.map V.int)[(i : Int).toNat]? = _
      rw [Int.toNat_natCast, List.getElem?_map, List.getElem?_eq_getElem hl]
      rfl
    · walk_at "go"
      exact k 0 H (Same.refl H)
theorem ints_dp {H : Hp} : ∀ ns : List Int, DpAll K H (ns.map V.int) (ns.map PyData.int)
  | [] => .nil
  | n :: r => .cons (.int n) (ints_dp r)
theorem shaped_ints (ns : List Int) : SeqAt.shaped (.list (ns.map PyData.int)) = true := by
  have h1 : ∀ ns : List Int, PyData.canLayAll0 (ns.map PyData.int) = true := fun ns => by
    induction ns with
    | nil => rfl
    | cons n r ih => simp [PyData.canLayAll0, PyData.canLay0, ih]
  have h2 : ∀ ns : List Int, PyData.depthAll (ns.map PyData.int) ≤ 1 := fun ns => by
    induction ns with
    | nil => simp [PyData.depthAll]
    | cons n r ih => simp [PyData.depthAll, PyData.depth]; omega
  have := h2 ns
  simp only [SeqAt.shaped, PyData.canLay0, PyData.depth, h1]
  simp
  omega
theorem eqv_nil (ns : List Int) : PyData.eqv (.list (ns.map PyData.int)) (.list []) = ns.isEmpty := by
  cases ns <;> simp [PyData.eqv, PyData.eqvAll]
def spTake : Sp := fun vs H Q _ => ∃ (a : Addr) (n : Int), vs = [.ref a, .int n] ∧ XsAt H a ∧ 0 < n ∧ ∀ i H', Xst a H H' → 0 ≤ i → i < n → Q (.int i) H'
theorem sc_law_take : FnScope ["_law_xs", "_law_size"] ["_law_xs", "_law_size"] (defScope s_law_take) := ⟨rfl, rfl, rfl, by decide +kernel, rfl, by decide +kernel, by decide +kernel⟩
theorem ok_law_take (t : T K mg) : C8.Cal P w K mg base 1 "_law_take" spTake [] := by
  refine cal t.f_law_take t.g_law_take sc_law_take (fun _ _ _ _ _ _ us hl => match us, hl with | [_, _], _ => rfl) (fun vs H Q E h => ?_) fun cdv A outer s H vs Q E hr h => ?_
  · obtain ⟨a, n, rfl, _⟩ := h
    rfl
  · obtain ⟨a, n, rfl, hx, hn, k⟩ := h
    obtain ⟨ns, ha, hl⟩ := id hx
    refine ⟨_, (pss_cons (ps_if (pt_cmpR (op_eqD' (K := K) rfl hr.units) (L2.pv 0) (pe_lst pa_nil) (nomark _)) (pss_one (ps_ret pe_int)) pss_nil)
      (pss_one (ps_ret (pe_op op_mod (pe_bm PySem.F.plainAttrs_list PySem.F.slot_list_pop PySem.F.type_list_pop mt_popAt (L2.pv 0) (pa_cons pe_int pa_nil)) (L2.pv 1))))), ?_⟩
    walk_at "go"
    refine lstK rfl fun b H1 nb s1 h1 => ?_
    refine r_eqD (.lst (.of (s1 _ _ ha)) (ints_dp ns)) (.lst (.of h1) .nil) (shaped_ints ns) (by decide +kernel) ?_
    rw [eqv_nil]
    walk_at "go"
    refine iteK (fun e => ?_) fun e => ?_
    · walk_at "go"
      exact k 0 H1 (.of hx s1) (Int.le_refl 0) hn
    · cases ns with
      | nil => cases e
      | cons m r =>
        walk_at "go"
        refine tyK_l (.of (s1 _ _ ha)) ?_
        walk_at "go"
        refine ⟨a, _, 0, 0, .int m, rfl, rfl, s1 _ _ ha, by decide, by decide, ?_, rfl, ?_⟩
        · unfold seqIndex?
          simp
        · walk_at "go"
          refine r_I hn ?_
          refine k _ _ ⟨?_, r, ?_, ?_⟩ (Int.emod_nonneg _ (by omega)) (Int.emod_lt_of_pos _ hn)
          · rw [del_upd]
            exact del_mono s1
          · rw [upd_same]
            rfl
          · rw [List.length_cons] at hl
            omega
theorem mlo (z : Int) : -(2 ^ 64) < z % 2147483647 := by
  have := Int.emod_nonneg z (b := 2147483647) (by decide)
  omega
theorem mhi (z : Int) : z % 2147483647 < 2 ^ 64 := by
  have := Int.emod_lt_of_pos z (b := 2147483647) (by decide)
  omega
theorem ints_snoc {ns : List Int} {n : Nat} (e : Int) (h : ns.length ≤ n) : ∃ ms : List Int, ns.map V.int ++ [V.int e] = ms.map V.int ∧ ms.length ≤ n + 1 :=
  ⟨ns ++ [e], by rw [List.map_append]; rfl, by rw [List.length_append, List.length_singleton]; omega⟩
def spDraws : Sp := fun vs H Q _ => ∃ (c : Int) (m : Nat), vs = [.int c, .int m] ∧ m ≤ 200 ∧ ∀ p H', H p = none → Same H H' → XsAt H' p → Q (.ref p) H'
theorem sc_law_draws : FnScope ["_law_cell", "_law_many", "_law_found", "_law_rest", "_law_number", "_law_k", "_law_mixed"] ["_law_cell", "_law_many"] (defScope s_law_draws) := ⟨rfl, rfl, rfl, by decide +kernel, rfl, by decide +kernel, by decide +kernel⟩
theorem ok_law_draws (t : T K mg) : C8.Cal P w K mg base 1 "_law_draws" spDraws [] := by
  refine cal t.f_law_draws t.g_law_draws sc_law_draws (fun _ _ _ _ _ _ us hl => match us, hl with | [_, _], _ => rfl) (fun vs H Q E h => ?_) fun cdv A outer s H vs Q E hr h => ?_
  · obtain ⟨c, m, rfl, _⟩ := h
    rfl
  · obtain ⟨c, m, rfl, hm, k⟩ := h
    refine ⟨_, (pss_cons (ps_set (i := 2) sc_law_draws.nd rfl (Or.inl rfl) (pe_lst pa_nil))
      (pss_cons (ps_set (i := 3) sc_law_draws.nd rfl (Or.inl rfl) pe_int)
      (pss_cons (ps_if (pt_cmpR op_ge (L2.pv 0) (pe_op op_pow pe_int pe_int) (nomark _)) (pss_one (ps_set (i := 3) sc_law_draws.nd rfl (Or.inl rfl) (pe_op op_sub (L2.pv 0) (pe_op op_pow pe_int pe_int)))) pss_nil)
      (pss_cons (ps_while PassesOwn.never (PW.pt (pw_and (pt_cmpR op_gt (L2.pv 3) pe_int (nomark _)) (pw_and1 (pt_cmpR op_lt (pe_callB (cr_len (K := K) rfl) (by rfl) t.b_len (by decide +kernel) (pa_cons (L2.pv 2) pa_nil)) (L2.pv 1) (nomark _))))) (pss_cons (ps_expr (pe_bm PySem.F.plainAttrs_list PySem.F.slot_list_append PySem.F.type_list_append mt_append (L2.pv 2) (pa_cons (pe_op op_mod (L2.pv 3) (pe_op op_pow pe_int pe_int)) pa_nil)))
      (pss_one (ps_set (i := 3) sc_law_draws.nd rfl (Or.inl rfl) (pe_op op_fdiv (L2.pv 3) (pe_op op_pow pe_int pe_int))))))
      (pss_cons (ps_set (i := 4) sc_law_draws.nd rfl (Or.inl rfl) (pe_op op_mod (pe_op op_mul (pe_op op_add (pe_op op_mod (L2.pv 0) pe_int) pe_int) pe_int) pe_int))
      (pss_cons (ps_for PassesOwn.never (by rfl) (pi_range1 (by rfl) t.b_range (pa_cons (L2.pv 1) pa_nil)) (pg_name (i := 5) sc_law_draws.nd rfl (Or.inl rfl)) (pss_cons (ps_set (i := 4) sc_law_draws.nd rfl (Or.inl rfl) (pe_op op_mod (pe_op op_mul (pe_op op_add (pe_op op_add (L2.pv 4) (pe_op op_mul pe_int (L2.pv 5))) pe_int) pe_int) pe_int))
      (pss_cons (ps_set (i := 6) sc_law_draws.nd rfl (Or.inl rfl) (pe_op op_mod (pe_op op_mul (L2.pv 4) (pe_op op_add (pe_op op_fdiv (L2.pv 4) pe_int) pe_int)) pe_int))
      (pss_one (ps_expr (pe_bm PySem.F.plainAttrs_list PySem.F.slot_list_append PySem.F.type_list_append mt_append (L2.pv 2) (pa_cons (pe_op op_mod (pe_op op_mul (L2.pv 6) (pe_op op_add (pe_op op_fdiv (L2.pv 6) pe_int) pe_int)) pe_int) pa_nil)))))))
      (pss_one (ps_ret (pe_slice (sl_list' (K := K) rfl) (L2.pv 2) po_none (po_some (L2.pv 1))))))))))), ?_⟩
    walk_at "go"
    refine lstK rfl fun D H0 nD s0 h0 => ?_
    walk_at "ar"
    refine iteK (fun _ => ?_) fun _ => ?_
    all_goals
      walk_at "ar"
      refine whK (fun j σ H2 => ∃ (r : Int) (ns : List Int), σ = [some (.int c), some (.int m), some (.ref D), some (.int r), none, none, none] ∧ Mk1 H D H2 (ns.map V.int) ∧ ns.length + j = m) m ⟨_, [], rfl, mk1_of nD s0 h0, Nat.zero_add m⟩ ?_
      rintro j σ H2 ⟨r, ns, rfl, mk, hl⟩
      walk_at "ar"
      refine iteK (fun _ => ?_) fun _ => ?_
      · walk_at "ar"
        refine r_len (.of mk.at_) ?_
        walk_at "ar"
        rw [List.length_map]
        by_cases hlt : (ns.length : Int) < m
        · refine wh_y (decide_eq_true hlt) ?_
          walk_at "ar"
          refine tyK_l (.of mk.at_) ?_
          walk_at "ar"
          refine r_app mk.at_ (by rw [List.length_map]; omega) ?_
          walk_at "ar"
          refine ⟨j - 1, by omega, _, ns ++ [r % 10 ^ (6 : Int).toNat], rfl, ?_, by rw [List.length_append, List.length_singleton]; omega⟩
          rw [List.map_append]
          exact mk.upd
        · refine wh_n (decide_eq_false hlt) ?_
          have hl2 : ns.length ≤ m := by omega
          walk_at "ar"
          refine rg1K (by omega) (by omega) ?_
          refine forR (fun i σ H2 => (∃ (u : Int) (o1 o2 : Option V), σ = [some (.int c), some (.int m), some (.ref D), some (.int r), some (.int u), o1, o2] ∧ 0 ≤ u ∧ u < 2147483647) ∧ ∃ ys : List V, Mk1 H D H2 ys ∧ ∃ ns : List Int, ys = ns.map V.int ∧ ns.length ≤ m + i) ⟨⟨_, none, none, rfl, Int.emod_nonneg _ (by decide), Int.emod_lt_of_pos _ (by decide)⟩, _, mk, ns, rfl, hl2⟩ ?_ ?_
          · rintro i σ H3 hi ⟨⟨u, o1, o2, rfl, h0, h1⟩, _, mk, ns, rfl, hl⟩
            have hi : i < m := by omega
            walk_at "ar"
            refine r_I (Or.inl ⟨mlo _, mhi _⟩) ?_
            walk_at "ar"
            refine tyK_l (.of mk.at_) ?_
            walk_at "ar"
            refine r_I (Or.inl ⟨mlo _, mhi _⟩) ?_
            walk_at "ar"
            refine r_app mk.at_ (by rw [List.length_map]; omega) ?_
            refine x_next ⟨⟨_, _, _, rfl, Int.emod_nonneg _ (by decide), Int.emod_lt_of_pos _ (by decide)⟩, _, mk.upd, ints_snoc _ hl⟩
          · rintro σ H3 ⟨⟨u, o1, o2, rfl, h0, h1⟩, _, mk, ns, rfl, hl⟩
            walk_at "ar"
            refine r_slL (.of mk.at_) fun p H4 np s4 h4 => ?_
            rw [cut_to, ← List.map_take] at h4
            exact k p H4 (Same.free mk.same np) (mk.same.trans s4) ⟨_, h4, by rw [List.length_take]; omega⟩
      · refine wh_n rfl ?_
        have hl2 : ns.length ≤ m := by omega
        walk_at "ar"
        refine rg1K (by omega) (by omega) ?_
        refine forR (fun i σ H2 => (∃ (u : Int) (o1 o2 : Option V), σ = [some (.int c), some (.int m), some (.ref D), some (.int r), some (.int u), o1, o2] ∧ 0 ≤ u ∧ u < 2147483647) ∧ ∃ ys : List V, Mk1 H D H2 ys ∧ ∃ ns : List Int, ys = ns.map V.int ∧ ns.length ≤ m + i) ⟨⟨_, none, none, rfl, Int.emod_nonneg _ (by decide), Int.emod_lt_of_pos _ (by decide)⟩, _, mk, ns, rfl, hl2⟩ ?_ ?_
        · rintro i σ H3 hi ⟨⟨u, o1, o2, rfl, h0, h1⟩, _, mk, ns, rfl, hl⟩
          have hi : i < m := by omega
          walk_at "ar"
          refine r_I (Or.inl ⟨mlo _, mhi _⟩) ?_
          walk_at "ar"
          refine tyK_l (.of mk.at_) ?_
          walk_at "ar"
          refine r_I (Or.inl ⟨mlo _, mhi _⟩) ?_
          walk_at "ar"
          refine r_app mk.at_ (by rw [List.length_map]; omega) ?_
          refine x_next ⟨⟨_, _, _, rfl, Int.emod_nonneg _ (by decide), Int.emod_lt_of_pos _ (by decide)⟩, _, mk.upd, ints_snoc _ hl⟩
        · rintro σ H3 ⟨⟨u, o1, o2, rfl, h0, h1⟩, _, mk, ns, rfl, hl⟩
          walk_at "ar"
          refine r_slL (.of mk.at_) fun p H4 np s4 h4 => ?_
          rw [cut_to, ← List.map_take] at h4
          exact k p H4 (Same.free mk.same np) (mk.same.trans s4) ⟨_, h4, by rw [List.length_take]; omega⟩
end
end Tw
set_option maxHeartbeats 4000000
/-! Comprehensions that draw; names. -/
namespace Tw
open PySem PySem.Spec L2
theorem del_del {D a : Addr} {H : Hp} {o : HO} : del D (del a (upd H D o)) = del D (del a H) := by
  funext b
  unfold del
  by_cases h : b = D
  · rw [if_pos h, if_pos h]
  · rw [if_neg h, if_neg h]
    by_cases h2 : b = a
    · rw [if_pos h2, if_pos h2]
    · rw [if_neg h2, if_neg h2, upd_ne h]
structure MkX (a : Addr) (H : Hp) (D : Addr) (H' : Hp) (ys : List V) : Prop where
  nw : H D = none
  ne : D ≠ a
  sm : Same (del a H) (del D (del a H'))
  at_ : H' D = some (.lst ys)
  xs : XsAt H' a
section
variable {a D : Addr} {H H' H2 : Hp} {ys zs : List V}
theorem MkX.xst (m : MkX a H D H' ys) : Xst a H H' := ⟨m.sm.trans del_le, m.xs⟩
theorem MkX.step (m : MkX a H D H' ys) (x : Xst a H' H2) : MkX a H D H2 ys :=
  ⟨m.nw, m.ne, m.sm.trans (del_mono x.sm), (of_del (x.sm _ _ (del_at m.at_ m.ne))).1, x.xs⟩
theorem MkX.grow (m : MkX a H D H' ys) (s : Same H' H2) : MkX a H D H2 ys := m.step (.of m.xs s)
theorem MkX.upd (m : MkX a H D H' ys) : MkX a H D (L2.upd H' D (.lst zs)) zs := ⟨m.nw, m.ne, by rw [del_del]; exact m.sm, upd_same, by
  obtain ⟨ns, h, l⟩ := m.xs
  exact ⟨ns, by rw [upd_ne (Ne.symm m.ne)]; exact h, l⟩⟩
theorem mkX (x : XsAt H a) (n : H D = none) : MkX a H D (L2.upd H D (.lst [])) [] := by
  have ne : D ≠ a := fun z => by
    obtain ⟨ns, h, _⟩ := x
    rw [← z, n] at h
    cases h
  refine ⟨n, ne, ?_, upd_same, x.grow (same_new n)⟩
  rw [del_del]
  exact del_none (Same.refl _) (by unfold del; rw [if_neg ne]; exact n)
theorem mkX_of (x : Xst a H H') (n : H D = none) (hx : XsAt H a) (h : H' D = some (.lst ys)) : MkX a H D H' ys := by
  have ne : D ≠ a := fun z => by
    obtain ⟨ns, h, _⟩ := hx
    rw [← z, n] at h
    cases h
  exact ⟨n, ne, del_none x.sm (by unfold del; rw [if_neg ne]; exact n), h, x.xs⟩
end
section
variable {K : PySem.W.Frag} {σ : L2.St} {H : Hp} {Q : VK} {ta tb te tl : TE} {tt : TT} {g : TG} {a q : Addr} {xs : List V} {vs : List Nat}
def ApKx (a : Addr) (H : Hp) (F : List V → Nat → Hp → Prop) (D : Addr) (i : Nat) (y : V) (H4 : Hp) : Prop := ∃ acc, H4 D = some (.lst acc) ∧ acc.length < sizeLine ∧ ∃ ys, MkX a H D (upd H4 D (.lst (acc ++ [y]))) ys ∧ F ys (i + 1) (del D (del a (upd H4 D (.lst (acc ++ [y])))))
theorem apKx {F : List V → Nat → Hp → Prop} {D : Addr} {i : Nat} {y : V} {H4 : Hp} {ys : List V} (m : MkX a H D H4 ys) (hl : ys.length ≤ 1000) (f : F (ys ++ [y]) (i + 1) (del D (del a H4))) : ApKx a H F D i y H4 :=
  ⟨ys, m.at_, small1000 hl, ys ++ [y], m.upd, by rw [del_del]; exact f⟩
def SkKx (a : Addr) (H : Hp) (F : List V → Nat → Hp → Prop) (D : Addr) (i : Nat) (H4 : Hp) : Prop := ∃ ys, MkX a H D H4 ys ∧ F ys (i + 1) (del D (del a H4))
theorem skKx {F : List V → Nat → Hp → Prop} {D : Addr} {i : Nat} {H4 : Hp} {ys : List V} (m : MkX a H D H4 ys) (f : F ys (i + 1) (del D (del a H4))) : SkKx a H F D i H4 := ⟨ys, m, f⟩
def LtKx (a : Addr) (H : Hp) (F : List V → Nat → Hp → Prop) (D : Addr) (i : Nat) (tt : TT) (te : TE) (vs : List Nat) (σ : L2.St) (σ2 : L2.St) (H2 : Hp) : Prop :=
  wipe σ2 vs = wipe σ vs ∧ tt σ2 H2 fun b H3 => IteK b (te σ2 H3 fun y H4 => ApKx a H F D i y H4) (SkKx a H F D i H3)
theorem ltKx {F : List V → Nat → Hp → Prop} {D : Addr} {i : Nat} {σ2 : L2.St} {H2 : Hp} (h : wipe σ2 vs = wipe σ vs) (q : tt σ2 H2 fun b H3 => IteK b (te σ2 H3 fun y H4 => ApKx a H F D i y H4) (SkKx a H F D i H3)) : LtKx a H F D i tt te vs σ σ2 H2 := ⟨h, q⟩
theorem lcRx (a : Addr) (lo : Int) (n : Nat) (F : List V → Nat → Hp → Prop) (hx : XsAt H a) (h0 : ∀ H', Same (del a H) H' → F [] 0 H')
    (turn : ∀ D i ys H2, MkX a H D H2 ys → F ys i (del D (del a H2)) → i < n → g (.int (lo + i)) (wipe σ vs) H2 fun σ2 H3 => LtKx a H F D i tt te vs σ σ2 H3)
    (hd : ∀ D H' ys, MkX a H D H' ys → F ys n (del D (del a H')) → Q (.ref D) H') : LcK (Itr lo n) g tt te vs σ Q H := fun D nD =>
  lc_range (fun i H2 => ∃ ys, MkX a H D H2 ys ∧ F ys i (del D (del a H2))) ⟨[], mkX hx nD, h0 _ (mkX hx nD).sm⟩
    (fun i H2 hi ⟨ys, m, f⟩ => turn D i ys H2 m f hi) (fun H2 ⟨ys, m, f⟩ => hd D H2 ys m f)
theorem lcLx (a : Addr) (F : List V → Nat → Hp → Prop) (hx : XsAt H a) (hq : SqL K (del a H) q xs) (h0 : ∀ H', Same (del a H) H' → F [] 0 H')
    (turn : ∀ D i x ys H2, MkX a H D H2 ys → F ys i (del D (del a H2)) → xs[i]? = some x → g x (wipe σ vs) H2 fun σ2 H3 => LtKx a H F D i tt te vs σ σ2 H3)
    (hd : ∀ D H' ys, MkX a H D H' ys → F ys xs.length (del D (del a H')) → Q (.ref D) H') : LcK (Itl K q) g tt te vs σ Q H := fun D nD =>
  lc_list (K := K) (a := q) (xs := xs) (fun i H2 => ∃ ys, MkX a H D H2 ys ∧ F ys i (del D (del a H2))) ⟨[], mkX hx nD, h0 _ (mkX hx nD).sm⟩ (fun i H2 _ ⟨_, m, _⟩ => m.xst.le.seq hq)
    (fun i x H2 hi ⟨ys, m, f⟩ => turn D i x ys H2 m f hi) (fun H2 ⟨ys, m, f⟩ => hd D H2 ys m f)
end
/-! ### a letter, once or more -/
structure Rep (c : Nat) (z : Str) : Prop where
  all : ∀ d ∈ z.cps.toList, d = c
  ge : 1 ≤ z.length
  le : z.length ≤ 8
def rMulS : R2 := fun x y H Q => ∃ c n, x = .str ⟨#[c]⟩ ∧ y = .int n ∧ 1 ≤ n ∧ n ≤ 8 ∧ ∀ z, Rep c z → Q (.str z) H
theorem op_mulS {X : Cx} : OpR X (binaryOp .Mult) rMulS := by
  intro pins s σ H x y v u Q I rx ry h
  obtain ⟨c, n, rfl, rfl, h1, h8, q⟩ := h
  obtain ⟨t, rfl⟩ := rx
  obtain ⟨t', rfl⟩ := ry
  have fin : ∀ l : List Nat, l.all (fun d => d == c) = true → Nat.ble 1 l.length = true → Nat.ble l.length 8 = true → EP X pins σ Q (.str ⟨l.toArray⟩ s.toks) { s with toks := s.toks + 1 } := fun l h1 h2 h3 =>
    ⟨.str ⟨l.toArray⟩, H, I.tok _, ⟨_, rfl⟩, q _ ⟨fun d hd => by simpa using List.all_eq_true.mp h1 d (by simpa using hd), by simpa [Str.length] using Nat.le_of_ble_eq_true h2, by simpa [Str.length] using Nat.le_of_ble_eq_true h3⟩⟩
  have hs : ∀ k : Nat, Nat.ble k 8 = true → Builtin.Str.tooLong k = false := fun k h => by
    unfold Builtin.Str.tooLong
    have := Nat.le_of_ble_eq_true h
    rw [sizeLine_eq]
    exact decide_eq_false (by omega)
  obtain rfl | rfl | rfl | rfl | rfl | rfl | rfl | rfl : n = 1 ∨ n = 2 ∨ n = 3 ∨ n = 4 ∨ n = 5 ∨ n = 6 ∨ n = 7 ∨ n = 8 := by omega
  · refine PySem.P.mul_str rfl (fun _ h => by cases h) (fun _ h => by cases h) ?_
    exact ⟨.str ⟨#[c]⟩, H, I, ⟨_, rfl⟩, q _ ⟨fun d hd => by simpa using hd, Nat.le_refl 1, Nat.le_of_ble_eq_true rfl⟩⟩
  · refine PySem.P.mul_str rfl (fun _ _ => (by decide : ¬ ((1 : Int) > (2 ^ 63 - 1) / 2))) (fun _ _ => hs _ rfl) ?_
    exact ⟨by rw [sizeLine_eq]; exact Nat.le_of_ble_eq_true rfl, fin [c, c] (by simp) rfl rfl⟩
  · refine PySem.P.mul_str rfl (fun _ _ => (by decide : ¬ ((1 : Int) > (2 ^ 63 - 1) / 3))) (fun _ _ => hs _ rfl) ?_
    exact ⟨by rw [sizeLine_eq]; exact Nat.le_of_ble_eq_true rfl, fin [c, c, c] (by simp) rfl rfl⟩
  · refine PySem.P.mul_str rfl (fun _ _ => (by decide : ¬ ((1 : Int) > (2 ^ 63 - 1) / 4))) (fun _ _ => hs _ rfl) ?_
    exact ⟨by rw [sizeLine_eq]; exact Nat.le_of_ble_eq_true rfl, fin [c, c, c, c] (by simp) rfl rfl⟩
  · refine PySem.P.mul_str rfl (fun _ _ => (by decide : ¬ ((1 : Int) > (2 ^ 63 - 1) / 5))) (fun _ _ => hs _ rfl) ?_
    exact ⟨by rw [sizeLine_eq]; exact Nat.le_of_ble_eq_true rfl, fin [c, c, c, c, c] (by simp) rfl rfl⟩
  · refine PySem.P.mul_str rfl (fun _ _ => (by decide : ¬ ((1 : Int) > (2 ^ 63 - 1) / 6))) (fun _ _ => hs _ rfl) ?_
    exact ⟨by rw [sizeLine_eq]; exact Nat.le_of_ble_eq_true rfl, fin [c, c, c, c, c, c] (by simp) rfl rfl⟩
  · refine PySem.P.mul_str rfl (fun _ _ => (by decide : ¬ ((1 : Int) > (2 ^ 63 - 1) / 7))) (fun _ _ => hs _ rfl) ?_
    exact ⟨by rw [sizeLine_eq]; exact Nat.le_of_ble_eq_true rfl, fin [c, c, c, c, c, c, c] (by simp) rfl rfl⟩
  · refine PySem.P.mul_str rfl (fun _ _ => (by decide : ¬ ((1 : Int) > (2 ^ 63 - 1) / 8))) (fun _ _ => hs _ rfl) ?_
    exact ⟨by rw [sizeLine_eq]; exact Nat.le_of_ble_eq_true rfl, fin [c, c, c, c, c, c, c, c] (by simp) rfl rfl⟩
/-! ### names -/
structure NmL (ns : List Str) : Prop where
  len : ns.length = 17
  rep : ∃ st : Nat, ∀ (k : Nat) z, ns[k]? = some z → Rep (98 + (st + 7 * k) % 25) z
local macro_rules | `(tactic| walk_at "rd1") => `(tactic| first
  | with_reducible refine x_seq ?_
  | ((with_reducible refine x_var (v := ?vv) ?hh ?_); case hh => exact rfl)
  | with_reducible refine x_c ?_
  | with_reducible refine x_op ?_
  | with_reducible refine x_fld ?_
  | with_reducible refine x_call ?_
  | with_reducible refine x_meth ?_
  | with_reducible refine x_make ?_
  | with_reducible refine x_cb ?_
  | with_reducible refine x_tup ?_
  | with_reducible refine x_lst ?_
  | with_reducible refine x_nil ?_
  | with_reducible refine x_cons ?_
  | with_reducible refine x_asg ?_
  | with_reducible refine x_name ?_
  | with_reducible refine x_ret ?_
  | with_reducible refine x_retN ?_
  | with_reducible refine x_drop ?_
  | with_reducible refine x_ifS ?_
  | with_reducible refine x_if ?_
  | with_reducible refine x_andV ?_
  | with_reducible refine x_orV ?_
  | with_reducible refine x_notV ?_
  | with_reducible refine x_test ?_
  | with_reducible refine x_tB ?_
  | with_reducible refine x_and ?_
  | with_reducible refine x_or ?_
  | with_reducible refine x_not ?_
  | with_reducible refine x_yes ?_
  | with_reducible refine x_next ?_
  | with_reducible refine x_sfld ?_
  | with_reducible refine blK ?_
  | with_reducible refine r_I0 ?_
  | with_reducible refine r_isN ?_
  | with_reducible refine r_notN ?_
  | ((with_reducible refine r_eq ?hh ?_); case hh => exact rfl)
  | ((with_reducible refine r_ne ?hh ?_); case hh => exact rfl)
  | with_reducible refine x_gnil ?_
  | with_reducible refine x_gcons ?_)
local macro_rules | `(tactic| walk_at "rd2") => `(tactic| first
  | walk_at "rd1"
  | with_reducible refine x_lc ?_
  | with_reducible refine x_for ?_
  | with_reducible refine x_itup ?_
  | with_reducible refine x_ilist ?_
  | with_reducible refine x_rng1 ?_
  | with_reducible refine x_bm ?_
  | with_reducible refine x_chain ?_
  | with_reducible refine x_istr ?_
  | with_reducible refine strK ?_
  | with_reducible refine x_sl ?_
  | with_reducible refine x_part ?_
  | with_reducible refine x_noPart ?_
  | with_reducible refine poK ?_
  | ((with_reducible refine ltK ?hh ?_); case hh => exact rfl)
  | ((with_reducible refine ltKx ?hh ?_); case hh => exact rfl)
  | with_reducible refine x_dput ?_
  | with_reducible refine x_dget ?_
  | with_reducible refine iteK_t ?_
  | with_reducible refine iteK_nf ?_
  | with_reducible refine iteK_nt ?_
  | with_reducible refine iteK_f ?_)
local macro_rules | `(tactic| walk_at "go") => `(tactic| repeat (walk_at "rd2"))
local macro_rules | `(tactic| walk_at "rd") => `(tactic| repeat (walk_at "rd1"))
local macro_rules | `(tactic| walk_at "at") => `(tactic| repeat (first | assumption | refine same_at' (by assumption) ?_))
local macro_rules | `(tactic| walk_at "sm") => `(tactic| repeat (first | exact Same.refl _ | assumption | refine Same.trans ?_ (by assumption)))
local macro_rules | `(tactic| walk_at "mk1") => `(tactic| first
  | with_reducible refine mk_new rfl fun _ _ _ _ _ _ => ?_
  | with_reducible refine lstK rfl fun _ _ _ _ _ => ?_
  | with_reducible refine tupK rfl fun _ _ _ _ _ => ?_
  | with_reducible refine mk_rule4 (SqL.of (by walk_at "at")) (SqL.of (by walk_at "at")) fun _ _ _ _ => ?_
  | with_reducible refine mk_rule (SqL.of (by walk_at "at")) (SqL.of (by walk_at "at")) fun _ _ _ _ => ?_
  | with_reducible refine c_refusal (SqL.of (by walk_at "at")) fun _ _ _ _ => ?_)
local macro_rules | `(tactic| walk_at "mk") => `(tactic| repeat (first | walk_at "rd2" | walk_at "mk1"))
local macro_rules | `(tactic| walk_at "ar1") => `(tactic| ((with_reducible refine r_I ?hh ?_); case hh => first | exact (show (0 : Int) < _ from by decide +kernel) | exact And.intro (by decide +kernel) (by decide +kernel) | exact Or.inr (And.intro (by decide +kernel) (by decide +kernel)) | exact Or.inl (And.intro (by decide +kernel) (by decide +kernel)) | exact And.intro (by decide +kernel) (And.intro (by decide +kernel) (by decide +kernel))))
local macro_rules | `(tactic| walk_at "ar") => `(tactic| repeat (first | walk_at "rd2" | walk_at "ar1"))

section
variable {P : Program} {w : World} {K : PySem.W.Frag} {mg : Str → Option Value} {base : Heap}
abbrev abc25 : Str := "bcdefghijklmnopqrstuvwxyz"
theorem abc_at : ∀ i : Nat, i < 25 → abc25.cps.toList[i]? = some (98 + i) := by decide +kernel
theorem abc_len : abc25.cps.toList.length = 25 := by decide +kernel
def spNames17 : Sp := fun vs H Q _ => ∃ a, vs = [.ref a] ∧ XsAt H a ∧ ∀ p H' ns, H p = none → Xst a H H' → del a H' p = some (.lst (ns.map V.str)) → NmL ns → Q (.ref p) H'
theorem sc_law_names : FnScope ["_law_xs", "_law_start", "_law_letters", "_law_k"] ["_law_xs"] (defScope s_law_names) := ⟨rfl, rfl, rfl, by decide +kernel, rfl, by decide +kernel, by decide +kernel⟩
theorem ok_law_names (t : T K mg) : C8.Cal P w K mg base 2 "_law_names" spNames17 [] := by
  have c_law_take := ok_law_take (P := P) (w := w) (base := base) t
  refine cal t.f_law_names t.g_law_names sc_law_names (fun _ _ _ _ _ _ us hl => match us, hl with | [_], _ => rfl) (fun vs H Q E h => ?_) fun cdv A outer s H vs Q E hr h => ?_
  · obtain ⟨a, rfl, _⟩ := h
    rfl
  · obtain ⟨a, rfl, hx, k⟩ := h
    refine ⟨_, (pss_cons (ps_set (i := 1) sc_law_names.nd rfl (Or.inr rfl) (C8.pe_c c_law_take hr (by decide) (by rfl) (pa_cons (L2.pv 0) (pa_cons pe_int pa_nil))))
      (pss_cons (ps_set (i := 2) sc_law_names.nd rfl (Or.inr rfl) pe_str)
      (pss_one (ps_ret (pe_lc (own := [("_law_k", 3)]) (by rfl) sc_law_names.nd (pi_range1 (by rfl) t.b_range (pa_cons pe_int pa_nil)) (blkOk_by (own := [("_law_k", 3)]) (N := ["_law_xs", "_law_start", "_law_letters", "_law_k"]) (sc := defScope s_law_names) (by decide +kernel)) (fun _ _ _ _ _ => (pg_name (i := 3) sc_law_names.nd rfl (Or.inl rfl))) (fun _ _ _ _ _ => pts_nil) (fun _ _ _ _ _ => (pe_op op_mulS (pe_ix ix_str (L2.pv 2) (pe_op op_mod (pe_op op_add (L2.pv 1) (pe_op op_mul pe_int (L2.pv 3))) pe_int) (fun _ _ => rfl)) (pe_op op_add pe_int (C8.pe_c c_law_take hr (by decide) (by rfl) (pa_cons (L2.pv 0) (pa_cons pe_int pa_nil))))))))))), ?_⟩
    walk_at "ar"
    refine ⟨a, 25, rfl, hx, by decide, fun st H1 x1 s0 s1 => ?_⟩
    walk_at "ar"
    refine rg1K (by decide) (by decide) ?_
    refine lcRx a 0 17 (fun ys i H' => ∃ ns : List Str, ys = ns.map V.str ∧ ns.length = i ∧ ∀ (k : Nat) z, ns[k]? = some z → Rep (98 + (st.toNat + 7 * k) % 25) z) x1.xs (fun _ _ => ⟨[], rfl, rfl, fun k z h => by simp at h⟩) ?_ ?_
    · rintro D i ys H2 m ⟨ns, rfl, hl, hn⟩ hi
      walk_at "ar"
      refine ⟨abc25, _, 98 + (st.toNat + 7 * i) % 25, rfl, rfl, ?_, ?_, ?_⟩
      · rw [sizeLine_eq]
        exact Nat.le_of_ble_eq_true (by decide +kernel)
      · have e : (st + 7 * (0 + (i : Int))) % 25 = (((st.toNat + 7 * i) % 25 : Nat) : Int) := by omega
        rw [e]
        have hlt : (st.toNat + 7 * i) % 25 < 25 := Nat.mod_lt _ (by decide)
        unfold atI ixN
        rw [if_pos (by omega), if_pos (by rw [abc_len]; omega)]
        show abc25.cps.toList[(((st.toNat + 7 * i) % 25 : Nat) : Int).toNat]? = _
        rw [Int.toNat_natCast]
        exact abc_at _ hlt
      walk_at "ar"
      refine ⟨a, 8, rfl, m.xs, by decide, fun j H3 x3 j0 j1 => ?_⟩
      walk_at "ar"
      refine ⟨_, _, rfl, rfl, by omega, by omega, fun z hz => ?_⟩
      refine apKx (m.step x3) (by rw [List.length_map]; omega) ⟨ns ++ [z], by rw [List.map_append]; rfl, by rw [List.length_append, hl]; rfl, fun k y hk => ?_⟩
      rw [List.getElem?_append] at hk
      by_cases c : k < ns.length
      · rw [if_pos c] at hk
        exact hn k y hk
      · rw [if_neg c] at hk
        have c2 := get_lt hk
        have : k = ns.length := by simp at c2; omega
        subst this
        rw [Nat.sub_self] at hk
        cases hk
        rw [hl]
        exact hz
    · rintro D H2 ys m ⟨ns, rfl, hl, hn⟩
      refine k D H2 ns ?_ (x1.trans m.xst) (del_at m.at_ m.ne) ⟨hl, st.toNat, hn⟩
      cases q : H D with
      | none => rfl
      | some o => 
        have := x1.sm _ _ (del_at q m.ne)
        have := (of_del this).1
        rw [m.nw] at this
        cases this
end
end Tw
set_option maxHeartbeats 4000000
/-! Heaps but for some objects; rows. -/
namespace Tw
open PySem PySem.Spec L2
def but (L : List Addr) (H : Hp) : Hp := fun b => if b ∈ L then none else H b
section
variable {L M : List Addr} {H H' : Hp} {b D a : Addr} {o : HO}
theorem but_at (h : H b = some o) (n : b ∉ L) : but L H b = some o := by
  unfold but
  rw [if_neg n]
  exact h
theorem of_but (h : but L H b = some o) : H b = some o ∧ b ∉ L := by
  unfold but at h
  by_cases c : b ∈ L
  · rw [if_pos c] at h
    cases h
  · rw [if_neg c] at h
    exact ⟨h, c⟩
theorem but_le : Same (but L H) H := fun _ _ h => (of_but h).1
theorem but_mono (s : Same H H') : Same (but L H) (but L H') := fun b o h => but_at (s b o (of_but h).1) (of_but h).2
theorem but_upd (h : D ∈ L) : but L (upd H D o) = but L H := by
  funext b
  unfold but
  by_cases c : b ∈ L
  · rw [if_pos c, if_pos c]
  · rw [if_neg c, if_neg c, upd_ne fun z => c (by rw [z]; exact h)]
theorem but_del (h : a ∈ L) : but L (del a H) = but L H := by
  funext b
  unfold but del
  by_cases c : b ∈ L
  · rw [if_pos c, if_pos c]
  · rw [if_neg c, if_neg c, if_neg fun z => c (by rw [z]; exact h)]
theorem but_x (h : a ∈ L) (x : Xst a H H') : Same (but L H) (but L H') := by
  have := but_mono (L := L) x.sm
  rwa [but_del h, but_del h] at this
theorem but_sub (h : ∀ b ∈ L, b ∈ M) : Same (but M H) (but L H) := fun b o k => but_at (of_but k).1 fun z => (of_but k).2 (h b z)
theorem but_new (n : H D = none) : Same (but L H) (but (D :: L) H) := fun b o k => but_at (of_but k).1 fun z => by
  rcases List.mem_cons.mp z with rfl | z
  · rw [(of_but k).1] at n
    cases n
  · exact (of_but k).2 z
theorem but_one : but [a] H = del a H := by
  funext b
  unfold but del
  by_cases c : b = a
  · rw [if_pos (by rw [c]; exact List.mem_singleton.mpr rfl), if_pos c]
  · rw [if_neg (fun z => c (List.mem_singleton.mp z)), if_neg c]
end
/-- a row -/
structure Rw where
  name : Str
  kind : Str
  start : Option Str
def RowAt (H : Hp) (x : V) (r : Rw) : Prop := ∃ b, x = .ref b ∧ H b = some (.tup [.str r.name, .str r.kind, oS r.start])
section
variable {H H' : Hp} {x : V} {r : Rw} {D a : Addr} {ys : List V} {o : HO}
theorem row_mono (s : Same H H') (h : RowAt H x r) : RowAt H' x r := by
  obtain ⟨b, e, h⟩ := h
  exact ⟨b, e, s _ _ h⟩
theorem row_del (hd : H D = some (.lst ys)) (h : RowAt H x r) : RowAt (del D H) x r := by
  obtain ⟨b, e, h⟩ := h
  exact ⟨b, e, del_at h (ne_of h hd fun e => by cases e)⟩
theorem row_upd (hd : H D = some (.lst ys)) (h : RowAt H x r) : RowAt (upd H D o) x r := by
  have := row_del hd h
  exact row_mono (fun b o' k => by rw [upd_ne (of_del k).2]; exact (of_del k).1) this
theorem row_x (hx : XsAt H a) (c : Xst a H H') (h : RowAt H x r) : RowAt H' x r := by
  obtain ⟨ns, e, _⟩ := hx
  exact row_mono del_le (row_mono c.sm (row_del e h))
end
theorem cut_mid (xs : List V) (i j : Nat) (h : i ≤ j) : cutV xs (some (i : Int)) (some (j : Int)) = (xs.drop i).take (j - i) := by
  unfold cutV
  rw [HT.sIx_nat, HT.sIx_nat]
  by_cases c : i ≤ xs.length
  · rw [Nat.min_eq_left c]
    by_cases d : j ≤ xs.length
    · rw [Nat.min_eq_left d]
    · rw [Nat.min_eq_right (by omega), List.take_of_length_le (by rw [List.length_drop]; omega), List.take_of_length_le (by rw [List.length_drop]; omega)]
  · rw [List.drop_of_length_le (show xs.length ≤ min i xs.length by omega), List.drop_of_length_le (show xs.length ≤ i by omega)]
    simp
def kinds8 : List Str := ["plain", "box", "lamp", "fixed", "box", "lamp", "box", "plain"]
def kinds4 : List Str := ["plain", "box", "lamp", "fixed"]
/-- rows of things, and what can hold behind them -/
inductive Oth (hs0 : List Str) : List Rw → List Str → Prop
  | nil : Oth hs0 [] hs0
  | snoc {rows : List Rw} {hs : List Str} {n k h : Str} : Oth hs0 rows hs → k ∈ kinds4 → h ∈ hs → Oth hs0 (rows ++ [⟨n, k, some h⟩]) (if k = "box" then hs ++ [n] else hs)
theorem at_nat {α : Type} {xs : List α} {i : Int} {v : α} (h0 : 0 ≤ i) (h : xs[i.toNat]? = some v) : atI xs i = some v := by
  have := get_lt h
  unfold atI ixN
  rw [if_pos h0, if_pos (by omega)]
  exact h
theorem at_some {α : Type} {xs : List α} {i : Int} (h0 : 0 ≤ i) (h1 : i < xs.length) : ∃ v, atI xs i = some v ∧ v ∈ xs ∧ xs[i.toNat]? = some v := by
  have h : i.toNat < xs.length := by omega
  exact ⟨xs[i.toNat], at_nat h0 (List.getElem?_eq_getElem h), List.getElem_mem h, List.getElem?_eq_getElem h⟩
theorem at_map {α β : Type} {f : α → β} {xs : List α} {i : Int} {v : α} (h : atI xs i = some v) : atI (xs.map f) i = some (f v) := by
  unfold atI at h ⊢
  rw [List.length_map]
  cases q : ixN xs.length i with
  | none => rw [q] at h; cases h
  | some j =>
    rw [q] at h
    show (xs.map f)[j]? = _
    rw [List.getElem?_map, show xs[j]? = some v from h]
    rfl
local macro_rules | `(tactic| walk_at "rd1") => `(tactic| first
  | with_reducible refine x_seq ?_
  | ((with_reducible refine x_var (v := ?vv) ?hh ?_); case hh => exact rfl)
  | with_reducible refine x_c ?_
  | with_reducible refine x_op ?_
  | with_reducible refine x_fld ?_
  | with_reducible refine x_call ?_
  | with_reducible refine x_meth ?_
  | with_reducible refine x_make ?_
  | with_reducible refine x_cb ?_
  | with_reducible refine x_tup ?_
  | with_reducible refine x_lst ?_
  | with_reducible refine x_nil ?_
  | with_reducible refine x_cons ?_
  | with_reducible refine x_asg ?_
  | with_reducible refine x_name ?_
  | with_reducible refine x_ret ?_
  | with_reducible refine x_retN ?_
  | with_reducible refine x_drop ?_
  | with_reducible refine x_ifS ?_
  | with_reducible refine x_if ?_
  | with_reducible refine x_andV ?_
  | with_reducible refine x_orV ?_
  | with_reducible refine x_notV ?_
  | with_reducible refine x_test ?_
  | with_reducible refine x_tB ?_
  | with_reducible refine x_and ?_
  | with_reducible refine x_or ?_
  | with_reducible refine x_not ?_
  | with_reducible refine x_yes ?_
  | with_reducible refine x_next ?_
  | with_reducible refine x_sfld ?_
  | with_reducible refine blK ?_
  | with_reducible refine r_I0 ?_
  | with_reducible refine r_isN ?_
  | with_reducible refine r_notN ?_
  | ((with_reducible refine r_eq ?hh ?_); case hh => exact rfl)
  | ((with_reducible refine r_ne ?hh ?_); case hh => exact rfl)
  | with_reducible refine x_gnil ?_
  | with_reducible refine x_gcons ?_)
local macro_rules | `(tactic| walk_at "rd2") => `(tactic| first
  | walk_at "rd1"
  | with_reducible refine x_lc ?_
  | with_reducible refine x_for ?_
  | with_reducible refine x_itup ?_
  | with_reducible refine x_ilist ?_
  | with_reducible refine x_rng1 ?_
  | with_reducible refine x_bm ?_
  | with_reducible refine x_chain ?_
  | with_reducible refine x_istr ?_
  | with_reducible refine strK ?_
  | with_reducible refine x_sl ?_
  | with_reducible refine x_part ?_
  | with_reducible refine x_noPart ?_
  | with_reducible refine poK ?_
  | ((with_reducible refine ltK ?hh ?_); case hh => exact rfl)
  | ((with_reducible refine ltKx ?hh ?_); case hh => exact rfl)
  | with_reducible refine x_dput ?_
  | with_reducible refine x_dget ?_
  | with_reducible refine iteK_t ?_
  | with_reducible refine iteK_nf ?_
  | with_reducible refine iteK_nt ?_
  | with_reducible refine iteK_f ?_)
local macro_rules | `(tactic| walk_at "go") => `(tactic| repeat (walk_at "rd2"))
local macro_rules | `(tactic| walk_at "rd") => `(tactic| repeat (walk_at "rd1"))
local macro_rules | `(tactic| walk_at "at") => `(tactic| repeat (first | assumption | refine same_at' (by assumption) ?_))
local macro_rules | `(tactic| walk_at "sm") => `(tactic| repeat (first | exact Same.refl _ | assumption | refine Same.trans ?_ (by assumption)))
local macro_rules | `(tactic| walk_at "mk1") => `(tactic| first
  | with_reducible refine mk_new rfl fun _ _ _ _ _ _ => ?_
  | with_reducible refine lstK rfl fun _ _ _ _ _ => ?_
  | with_reducible refine tupK rfl fun _ _ _ _ _ => ?_
  | with_reducible refine mk_rule4 (SqL.of (by walk_at "at")) (SqL.of (by walk_at "at")) fun _ _ _ _ => ?_
  | with_reducible refine mk_rule (SqL.of (by walk_at "at")) (SqL.of (by walk_at "at")) fun _ _ _ _ => ?_
  | with_reducible refine c_refusal (SqL.of (by walk_at "at")) fun _ _ _ _ => ?_)
local macro_rules | `(tactic| walk_at "mk") => `(tactic| repeat (first | walk_at "rd2" | walk_at "mk1"))
local macro_rules | `(tactic| walk_at "ar1") => `(tactic| ((with_reducible refine r_I ?hh ?_); case hh => first | exact (show (0 : Int) < _ from by decide +kernel) | exact And.intro (by decide +kernel) (by decide +kernel) | exact Or.inr (And.intro (by decide +kernel) (by decide +kernel)) | exact Or.inl (And.intro (by decide +kernel) (by decide +kernel)) | exact And.intro (by decide +kernel) (And.intro (by decide +kernel) (by decide +kernel))))
local macro_rules | `(tactic| walk_at "ar") => `(tactic| repeat (first | walk_at "rd2" | walk_at "ar1"))

section
variable {P : Program} {w : World} {K : PySem.W.Frag} {mg : Str → Option Value} {base : Heap}
def spOthers : Sp := fun vs H Q _ => ∃ (a q r : Addr) (ns rooms : List Str) (y : Str), vs = [.ref q, .ref r, .ref a] ∧ XsAt H a ∧ del a H q = some (.lst (ns.map V.str)) ∧ del a H r = some (.lst (rooms.map V.str)) ∧ ns.length = 17 ∧ ns[5]? = some y ∧ rooms.length ≤ 5 ∧
  ∀ p H' ys rows hs n, Xst a H H' → del a H' p = some (.lst ys) → Paired (RowAt H') ys rows → rows.map Rw.name = (ns.drop 6).take n → n ≤ 7 → Oth (rooms ++ [y]) rows hs → Q (.ref p) H'
theorem sc_law_others : FnScope ["_law_names_here", "_law_rooms", "_law_xs", "_law_rows", "_law_holders", "_law_name", "_law_kind"] ["_law_names_here", "_law_rooms", "_law_xs"] (defScope s_law_others) := ⟨rfl, rfl, rfl, by decide +kernel, rfl, by decide +kernel, by decide +kernel⟩
theorem ok_law_others (t : T K mg) : C8.Cal P w K mg base 2 "_law_others" spOthers [] := by
  have c_law_take := ok_law_take (P := P) (w := w) (base := base) t
  refine cal t.f_law_others t.g_law_others sc_law_others (fun _ _ _ _ _ _ us hl => match us, hl with | [_, _, _], _ => rfl) (fun vs H Q E h => ?_) fun cdv A outer s H vs Q E hr h => ?_
  · obtain ⟨a, q, r, ns, rooms, y, rfl, _⟩ := h
    rfl
  · obtain ⟨a, q, r, ns, rooms, y, rfl, hx, hq, hR, hl, hy, hz, k⟩ := h
    refine ⟨_, (pss_cons (ps_set (i := 3) sc_law_others.nd rfl (Or.inl rfl) (pe_lst pa_nil))
      (pss_cons (ps_set (i := 4) sc_law_others.nd rfl (Or.inl rfl) (pe_op op_cat (L2.pv 1) (pe_lst (pa_cons (pe_ix (ix_list' (K := K) rfl) (L2.pv 0) pe_int (fun _ _ => rfl)) pa_nil))))
      (pss_cons (ps_for PassesOwn.never (by rfl) (pi_list' (K := K) rfl (pe_slice (sl_list' (K := K) rfl) (L2.pv 0) (po_some pe_int) (po_some (pe_op op_add pe_int (C8.pe_c c_law_take hr (by decide) (by rfl) (pa_cons (L2.pv 2) (pa_cons pe_int pa_nil))))))) (pg_name (i := 5) sc_law_others.nd rfl (Or.inl rfl)) (pss_cons (ps_set (i := 6) sc_law_others.nd rfl (Or.inl rfl) (pe_ix (ix_list' (K := K) rfl) (pe_lst (pa_cons pe_str (pa_cons pe_str (pa_cons pe_str (pa_cons pe_str (pa_cons pe_str (pa_cons pe_str (pa_cons pe_str (pa_cons pe_str pa_nil))))))))) (C8.pe_c c_law_take hr (by decide) (by rfl) (pa_cons (L2.pv 2) (pa_cons pe_int pa_nil))) (fun _ _ => rfl)))
      (pss_cons (ps_expr (pe_bm PySem.F.plainAttrs_list PySem.F.slot_list_append PySem.F.type_list_append mt_append (L2.pv 3) (pa_cons (pe_tup (pa_cons (L2.pv 5) (pa_cons (L2.pv 6) (pa_cons (pe_ix (ix_list' (K := K) rfl) (L2.pv 4) (C8.pe_c c_law_take hr (by decide) (by rfl) (pa_cons (L2.pv 2) (pa_cons (pe_callB (cr_len (K := K) rfl) (by rfl) t.b_len (by decide +kernel) (pa_cons (L2.pv 4) pa_nil)) pa_nil))) (fun _ _ => rfl)) pa_nil)))) pa_nil)))
      (pss_one (ps_if (pt_cmpR op_eq (L2.pv 6) pe_str (nomark _)) (pss_one (ps_expr (pe_bm PySem.F.plainAttrs_list PySem.F.slot_list_append PySem.F.type_list_append mt_append (L2.pv 4) (pa_cons (L2.pv 5) pa_nil)))) pss_nil)))))
      (pss_one (ps_ret (L2.pv 3)))))), ?_⟩
    walk_at "ar"
    refine lstK rfl fun R H1 nR s1 h1 => ?_
    walk_at "ar"
    refine r_ixL (i := 5) (v := .str y) (.of (s1 _ _ (del_le _ _ hq))) (at_map (f := V.str) (at_nat (by decide) hy)) ?_
    walk_at "ar"
    refine lstK rfl fun p2 H2 n2 s2 h2 => ?_
    refine r_cat (s2 _ _ (s1 _ _ (del_le _ _ hR))) h2 (by rw [List.length_map]; simp; omega) fun L H3 n3 s3 h3 => ?_
    have S3 := s1.trans (s2.trans s3)
    walk_at "ar"
    refine ⟨a, 8, rfl, hx.grow S3, by decide, fun n H4 x4 i0 i1 => ?_⟩
    walk_at "ar"
    have n7 : n.toNat ≤ 7 := by omega
    have en : n = (n.toNat : Int) := by omega
    generalize n.toNat = m at n7 en
    subst en
    refine r_slL (lo := some (6 : Nat)) (.of (x4.le _ _ (del_mono S3 _ _ hq))) fun B H5 n5 s5 h5 => sqLK (.of h5) ?_
    rw [show some (6 + (m : Int)) = some (((6 + m : Nat)) : Int) from by rw [Int.natCast_add]; rfl, cut_mid _ 6 (6 + m) (by omega), Nat.add_sub_cancel_left, ← List.map_drop, ← List.map_take] at h5
    have aR : R ≠ a := fun z => by
      obtain ⟨ys, e⟩ := hx.some
      rw [← z, nR] at e
      cases e
    have aL : L ≠ a := fun z => by
      obtain ⟨ys, e⟩ := (hx.grow (s1.trans s2)).some
      rw [← z, n3] at e
      cases e
    have RL : L ≠ R := fun z => by
      have := s2 _ _ h1
      rw [← z, n3] at this
      cases this
    have x5 : Xst a H H5 := (Xst.of hx S3).trans (x4.grow s5)
    have hR5 : H5 R = some (.lst []) := s5 _ _ (x4.le _ _ (del_at (s3 _ _ (s2 _ _ h1)) aR))
    have hL5 : H5 L = some (.lst ((rooms ++ [y]).map V.str)) := by
      rw [List.map_append]
      exact s5 _ _ (x4.le _ _ (del_at h3 aL))
    have bR : B ≠ R := fun z => by
      have : H4 R = some _ := x4.le _ _ (del_at (s3 _ _ (s2 _ _ h1)) aR)
      rw [← z, n5] at this
      cases this
    have bL : B ≠ L := fun z => by
      have : H4 L = some _ := x4.le _ _ (del_at h3 aL)
      rw [← z, n5] at this
      cases this
    have bA : B ≠ a := fun z => by
      obtain ⟨ys, e⟩ := x4.xs.some
      rw [← z, n5] at e
      cases e
    have hB5 : but [a, R, L] H5 B = some (.lst (((ns.drop 6).take m).map V.str)) := but_at h5 (by simp [bA, bR, bL])
    generalize hN : (ns.drop 6).take m = sl at hB5 h5
    have lsl : sl.length ≤ 7 := by
      rw [← hN, List.length_take]
      omega
    have base5 : Same (del a H) (but [a, R, L] H5) := by
      have h1 : Same (del a H) (but [a, R] (H1)) := by
        rw [← but_one (a := a)]
        exact (but_new (L := [a]) nR).trans ((but_sub (by simp)).trans (but_mono s1))
      have h2 : Same (but [a, R] H1) (but [a, R, L] H3) := (but_mono s2).trans ((but_new n3).trans ((but_sub (by simp)).trans (but_mono s3)))
      exact h1.trans (h2.trans ((but_x (by simp) x4).trans (but_mono s5)))
    refine forL (xs := sl.map V.str) (fun i σ H2 => (∃ o1 o2, σ = [some (.ref q), some (.ref r), some (.ref a), some (.ref R), some (.ref L), o1, o2]) ∧ XsAt H2 a ∧ Same (but [a, R, L] H5) (but [a, R, L] H2) ∧ ∃ ys rows hs, H2 R = some (.lst ys) ∧ H2 L = some (.lst (hs.map V.str)) ∧
      Paired (RowAt H2) ys rows ∧ rows.map Rw.name = sl.take i ∧ Oth (rooms ++ [y]) rows hs ∧ hs.length ≤ 6 + i ∧ 1 ≤ hs.length) ⟨⟨none, none, rfl⟩, x5.xs, Same.refl _, [], [], _, hR5, hL5, .nil, rfl, .nil, by rw [List.length_append]; simp; omega, by rw [List.length_append]; simp⟩
      (fun i σ H2 _ ⟨_, _, sm, _⟩ => .of (but_le _ _ (sm _ _ hB5))) ?_ ?_
    · rintro i x σ H6 hi ⟨⟨o1, o2, rfl⟩, x6, sm, ys, rows, hs, hR6, hL6, hrw, hnm, ho, hh, hh1⟩
      obtain ⟨nme, hnme, rfl⟩ := map_get hi
      have hlt := get_lt hnme
      have ly := hrw.length
      have lr := congrArg List.length hnm
      rw [List.length_map, List.length_take] at lr
      walk_at "ar"
      refine lstK rfl fun p7 H7 n7 s7 h7 => ?_
      walk_at "ar"
      refine ⟨a, 8, rfl, x6.grow s7, by decide, fun j H8 x8 j0 j1 => ?_⟩
      have x68 : Xst a H6 H8 := (Xst.of x6 s7).trans x8
      have p7a : p7 ≠ a := fun z => by
        obtain ⟨ys, e⟩ := x6.some
        rw [← z, n7] at e
        cases e
      have h78 : H8 p7 = some (.lst (kinds8.map V.str)) := x8.le _ _ (del_at h7 p7a)
      obtain ⟨kd, hk, hkm, _⟩ := at_some (xs := kinds8) j0 (by exact j1)
      refine r_ixL (.of h78) (at_map (f := V.str) hk) ?_
      have hk4 : kd ∈ kinds4 := (by decide +kernel : ∀ k ∈ kinds8, k ∈ kinds4) kd hkm
      walk_at "ar"
      have hR8 : H8 R = some (.lst ys) := x68.le _ _ (del_at hR6 aR)
      have hL8 : H8 L = some (.lst (hs.map V.str)) := x68.le _ _ (del_at hL6 aL)
      refine tyK_l (.of hR8) ?_
      walk_at "ar"
      refine r_len (.of hL8) ?_
      walk_at "ar"
      refine ⟨a, _, rfl, x68.xs, by rw [List.length_map]; omega, fun u H9 x9 u0 u1 => ?_⟩
      rw [List.length_map] at u1
      have hL9 : H9 L = some (.lst (hs.map V.str)) := x9.le _ _ (del_at hL8 aL)
      have hR9 : H9 R = some (.lst ys) := x9.le _ _ (del_at hR8 aR)
      obtain ⟨hd, hh2, hm, _⟩ := at_some (xs := hs) u0 u1
      refine r_ixL (.of hL9) (at_map (f := V.str) hh2) ?_
      walk_at "ar"
      refine tupK rfl fun p10 H10 n10 s10 h10 => ?_
      have x10 : Xst a H6 H10 := x68.trans (x9.grow s10)
      have hR10 := s10 _ _ hR9
      have hL10 := s10 _ _ hL9
      have rw10 := Paired.mapP hrw fun _ _ g => row_x x6 x10 g
      walk_at "ar"
      refine r_app hR10 (by omega) ?_
      have p10R : p10 ≠ R := fun z => by rw [z, hR9] at n10; cases n10
      have row11 : Paired (RowAt (upd H10 R (.lst (ys ++ [.ref p10])))) (ys ++ [.ref p10]) (rows ++ [⟨nme, kd, some hd⟩]) :=
        paired_app (Paired.mapP rw10 fun _ _ g => row_upd hR10 g) (.cons ⟨p10, rfl, by rw [upd_ne p10R]; exact h10⟩ .nil)
      have x11 : XsAt (upd H10 R (.lst (ys ++ [.ref p10]))) a := by
        obtain ⟨ns', e1, e2⟩ := x10.xs
        exact ⟨ns', by rw [upd_ne (Ne.symm aR)]; exact e1, e2⟩
      have sm11 : Same (but [a, R, L] H5) (but [a, R, L] (upd H10 R (.lst (ys ++ [.ref p10])))) := by
        rw [but_upd (by simp)]
        exact sm.trans (but_x (by simp) x10)
      have nm11 : (rows ++ [(⟨nme, kd, some hd⟩ : Rw)]).map Rw.name = sl.take (i + 1) := by
        rw [List.map_append, hnm, take_succ' hnme]
        rfl
      have o11 := Oth.snoc (n := nme) ho hk4 hm
      have hL11 : upd H10 R (.lst (ys ++ [.ref p10])) L = some (.lst (hs.map V.str)) := by
        rw [upd_ne RL]
        exact hL10
      walk_at "ar"
      refine iteK (fun e => ?_) fun e => ?_
      · have e : kd = "box" := by have := of_decide_eq_true e; injection this
        rw [if_pos e] at o11
        walk_at "ar"
        refine tyK_l (.of hL11) ?_
        walk_at "ar"
        refine r_app hL11 (by rw [List.length_map]; omega) ?_
        refine x_next ⟨⟨_, _, rfl⟩, ?_, ?_, _, _, _, ?_, ?_, Paired.mapP row11 fun _ _ g => row_upd hL11 g, nm11, o11, by rw [List.length_append]; simp; omega, by rw [List.length_append]; omega⟩
        · obtain ⟨ns', e1, e2⟩ := x11
          exact ⟨ns', by rw [upd_ne (Ne.symm aL)]; exact e1, e2⟩
        · rw [but_upd (by simp)]
          exact sm11
        · rw [upd_ne (Ne.symm RL)]
          exact upd_same
        · rw [List.map_append]
          exact upd_same
      · have e : ¬ kd = "box" := fun z => of_decide_eq_false e (congrArg V.str z)
        rw [if_neg e] at o11
        exact x_next ⟨⟨_, _, rfl⟩, x11, sm11, _, _, _, upd_same, hL11, row11, nm11, o11, by omega, hh1⟩
    · rintro σ H6 ⟨⟨o1, o2, rfl⟩, x6, sm, ys, rows, hs, hR6, hL6, hrw, hnm, ho, hh, hh1⟩
      walk_at "ar"
      rw [List.length_map, List.take_length] at hnm
      refine k R H6 ys rows hs m ⟨?_, x6⟩ (del_at hR6 aR) hrw (by rw [hnm, hN]) n7 ho
      have := base5.trans sm
      rw [← but_one] at this ⊢
      exact this.trans (by rw [← but_one]; exact but_sub (by simp))
end
end Tw
set_option maxHeartbeats 4000000
/-! What a world is made of, drawn. -/
namespace Tw
open PySem PySem.Spec L2
structure Sc where
  rows : List Rw
  marks : List M3
  dark : List Str
  words : List (List Str)
  you : Str
def mores : List (List Str) := [[], ["red"], ["old", "red"]]
def rmRow (x : Str) : Rw := ⟨x, "room", none⟩
structure Src (ns rooms : List Str) (oths : List Rw) (hs : List Str) (r n m : Nat) (s0 : Str) (S : Sc) : Prop where
  nm : NmL ns
  r1 : 1 ≤ r
  r5 : r ≤ 5
  rm : rooms = ns.take r
  you : ns[5]? = some S.you
  st : s0 ∈ rooms
  perm : S.rows.Perm (rooms.map rmRow ++ [⟨S.you, "you", some s0⟩] ++ oths)
  on : oths.map Rw.name = (ns.drop 6).take n
  n7 : n ≤ 7
  oo : Oth (rooms ++ [S.you]) oths hs
  mn : S.marks.map M3.name = (ns.drop 13).take m
  m4 : m ≤ 4
  mks : ∀ x ∈ S.marks, 1 ≤ x.most ∧ x.most ≤ 3 ∧ 0 ≤ x.start ∧ x.start ≤ x.most
  dk : S.dark.Sublist rooms
  wd : Paired (fun ws (r : Rw) => ∃ m ∈ mores, ws = r.name :: m) S.words S.rows
def GoodS (S : Sc) : Prop := ∃ ns rooms oths hs r n m s0, Src ns rooms oths hs r n m s0 S
def TupAt (H : Hp) (x : V) (l : List V) : Prop := ∃ b, x = .ref b ∧ H b = some (.tup l)
section
variable {H H' : Hp} {x : V} {l : List V} {D a : Addr} {ys : List V} {o : HO}
theorem tup_mono (s : Same H H') (h : TupAt H x l) : TupAt H' x l := by
  obtain ⟨b, e, h⟩ := h
  exact ⟨b, e, s _ _ h⟩
theorem tup_del (hd : H D = some (.lst ys)) (h : TupAt H x l) : TupAt (del D H) x l := by
  obtain ⟨b, e, h⟩ := h
  exact ⟨b, e, del_at h (ne_of h hd fun e => by cases e)⟩
theorem tup_upd (hd : H D = some (.lst ys)) (h : TupAt H x l) : TupAt (upd H D o) x l :=
  tup_mono (fun b o' k => by rw [upd_ne (of_del k).2]; exact (of_del k).1) (tup_del hd h)
theorem tup_x (hx : XsAt H a) (c : Xst a H H') (h : TupAt H x l) : TupAt H' x l := by
  obtain ⟨ns, e, _⟩ := hx
  exact tup_mono del_le (tup_mono c.sm (tup_del e h))
theorem del_new {p : Addr} (hx : XsAt H a) (n : H p = none) (h : H' p = some o) : del a H' p = some o := del_at h fun z => by
  obtain ⟨ns, e, _⟩ := hx
  rw [← z, n] at e
  cases e
end
abbrev MRow (H : Hp) (x : V) (m : M3) : Prop := TupAt H x [.str m.name, .int m.start, .int m.most]
def WdAt (K : PySem.W.Frag) (H : Hp) (x : V) (ws : List Str) : Prop := ∃ b, x = .ref b ∧ SqT K H b (ws.map V.str)
theorem wdat_mono {K : PySem.W.Frag} {H H' : Hp} {x : V} {ws : List Str} (s : Same H H') (h : WdAt K H x ws) : WdAt K H' x ws := by
  obtain ⟨b, e, h⟩ := h
  exact ⟨b, e, same_sqt s h⟩
def scK (r m k u : Addr) (y : Str) : List (Key × V) := [(.inr "rows", .ref r), (.inr "marks", .ref m), (.inr "dark", .ref k), (.inr "words", .ref u), (.inr "you", .str y)]
def SpecAt (K : PySem.W.Frag) (H : Hp) (v : V) (S : Sc) : Prop := ∃ d r m k u rs ms us, v = .ref d ∧ H d = some (.dK (scK r m k u S.you)) ∧ H r = some (.lst rs) ∧ Paired (RowAt H) rs S.rows ∧ H m = some (.lst ms) ∧ Paired (MRow H) ms S.marks ∧
  H k = some (.lst (S.dark.map V.str)) ∧ H u = some (.lst us) ∧ Paired (WdAt K H) us S.words
theorem spec_mono {K : PySem.W.Frag} {H H' : Hp} {v : V} {S : Sc} (s : Same H H') (h : SpecAt K H v S) : SpecAt K H' v S := by
  obtain ⟨d, r, m, k, u, rs, ms, us, e, h1, h2, h3, h4, h5, h6, h7, h8⟩ := h
  exact ⟨d, r, m, k, u, rs, ms, us, e, s _ _ h1, s _ _ h2, Paired.mapP h3 fun _ _ g => row_mono s g, s _ _ h4, Paired.mapP h5 fun _ _ g => tup_mono s g, s _ _ h6, s _ _ h7, Paired.mapP h8 fun _ _ g => wdat_mono s g⟩
theorem r_catA {K : PySem.W.Frag} {H : Hp} {Q : VK} {a b : Addr} {xs ys : List V} (ha : SqT K H a xs) (hb : SqT K H b ys) (h1 : xs ≠ []) (hz : Nat.ble (xs.length + ys.length) 1000 = true) (q0 : ys = [] → Q (.ref a) H)
    (q1 : ∀ p H', H p = none → Same H H' → H' p = some (.tup (xs ++ ys)) → Q (.ref p) H') : rCatA K (.ref a) (.ref b) H Q :=
  ⟨a, b, xs, ys, rfl, rfl, ha, hb, Nat.le_of_lt (small1000 (Nat.le_of_ble_eq_true hz)), fun e => absurd e h1, fun _ e => q0 e, fun _ _ p np => q1 p _ np (same_new np) upd_same⟩
section
variable {σ : L2.St} {H : Hp} {Q : VK}
def DispK (p : Addr) (ps : List (V × V)) (H2 : Hp) (Q : VK) : Prop := H2 p = some (.dK []) ∧ ∃ kvs : List (Key × V), ps = kvs.map (fun kv => (kV kv.1, kv.2)) ∧ kvs.length ≤ 15 ∧ Q (.ref p) (upd H2 p (.dK (mergeK [] kvs)))
theorem x_disp {trs : List (TE × TE)} (q : ∀ p H1, H p = none → Same H H1 → H1 p = some (.dK []) → tPairs trs σ H1 fun ps H2 => DispK p ps H2 Q) : tDisp trs σ H Q := fun p np => q p _ np (same_new np) upd_same
theorem x_pcons {tk tv : TE} {r : List (TE × TE)} {Q : List (V × V) → Hp → Prop} (q : tk σ H fun x H1 => tv σ H1 fun y H2 => tPairs r σ H2 fun ps H3 => Q ((x, y) :: ps) H3) : tPairs ((tk, tv) :: r) σ H Q := q
theorem x_pnil {Q : List (V × V) → Hp → Prop} (q : Q [] H) : tPairs [] σ H Q := q
end
theorem paired_take {α β : Type} {G : α → β → Prop} {l₁ : List α} {l₂ : List β} (h : Paired G l₁ l₂) (n : Nat) : Paired G (l₁.take n) (l₂.take n) := by
  induction h generalizing n with
  | nil => rw [List.take_nil, List.take_nil]; exact .nil
  | cons h t ih =>
    cases n with
    | zero => exact .nil
    | succ n => exact .cons h (ih n)
theorem paired_drop {α β : Type} {G : α → β → Prop} {l₁ : List α} {l₂ : List β} (h : Paired G l₁ l₂) (n : Nat) : Paired G (l₁.drop n) (l₂.drop n) := by
  induction h generalizing n with
  | nil => rw [List.drop_nil, List.drop_nil]; exact .nil
  | cons h t ih =>
    cases n with
    | zero => exact .cons h t
    | succ n => exact ih n
local macro_rules | `(tactic| walk_at "rd1") => `(tactic| first
  | with_reducible refine x_seq ?_
  | ((with_reducible refine x_var (v := ?vv) ?hh ?_); case hh => exact rfl)
  | with_reducible refine x_c ?_
  | with_reducible refine x_op ?_
  | with_reducible refine x_fld ?_
  | with_reducible refine x_call ?_
  | with_reducible refine x_meth ?_
  | with_reducible refine x_make ?_
  | with_reducible refine x_cb ?_
  | with_reducible refine x_tup ?_
  | with_reducible refine x_lst ?_
  | with_reducible refine x_nil ?_
  | with_reducible refine x_cons ?_
  | with_reducible refine x_asg ?_
  | with_reducible refine x_name ?_
  | with_reducible refine x_ret ?_
  | with_reducible refine x_retN ?_
  | with_reducible refine x_drop ?_
  | with_reducible refine x_ifS ?_
  | with_reducible refine x_if ?_
  | with_reducible refine x_andV ?_
  | with_reducible refine x_orV ?_
  | with_reducible refine x_notV ?_
  | with_reducible refine x_test ?_
  | with_reducible refine x_tB ?_
  | with_reducible refine x_and ?_
  | with_reducible refine x_or ?_
  | with_reducible refine x_not ?_
  | with_reducible refine x_yes ?_
  | with_reducible refine x_next ?_
  | with_reducible refine x_sfld ?_
  | with_reducible refine blK ?_
  | with_reducible refine r_I0 ?_
  | with_reducible refine r_isN ?_
  | with_reducible refine r_notN ?_
  | ((with_reducible refine r_eq ?hh ?_); case hh => exact rfl)
  | ((with_reducible refine r_ne ?hh ?_); case hh => exact rfl)
  | with_reducible refine x_gnil ?_
  | with_reducible refine x_gcons ?_)
local macro_rules | `(tactic| walk_at "rd2") => `(tactic| first
  | walk_at "rd1"
  | with_reducible refine x_lc ?_
  | with_reducible refine x_for ?_
  | with_reducible refine x_itup ?_
  | with_reducible refine x_ilist ?_
  | with_reducible refine x_rng1 ?_
  | with_reducible refine x_bm ?_
  | with_reducible refine x_chain ?_
  | with_reducible refine x_istr ?_
  | with_reducible refine strK ?_
  | with_reducible refine x_sl ?_
  | with_reducible refine x_part ?_
  | with_reducible refine x_noPart ?_
  | with_reducible refine poK ?_
  | ((with_reducible refine ltK ?hh ?_); case hh => exact rfl)
  | ((with_reducible refine ltKx ?hh ?_); case hh => exact rfl)
  | with_reducible refine x_dput ?_
  | with_reducible refine x_dget ?_
  | with_reducible refine iteK_t ?_
  | with_reducible refine iteK_nf ?_
  | with_reducible refine iteK_nt ?_
  | with_reducible refine iteK_f ?_)
local macro_rules | `(tactic| walk_at "go") => `(tactic| repeat (walk_at "rd2"))
local macro_rules | `(tactic| walk_at "rd") => `(tactic| repeat (walk_at "rd1"))
local macro_rules | `(tactic| walk_at "at") => `(tactic| repeat (first | assumption | refine same_at' (by assumption) ?_))
local macro_rules | `(tactic| walk_at "sm") => `(tactic| repeat (first | exact Same.refl _ | assumption | refine Same.trans ?_ (by assumption)))
local macro_rules | `(tactic| walk_at "mk1") => `(tactic| first
  | with_reducible refine mk_new rfl fun _ _ _ _ _ _ => ?_
  | with_reducible refine lstK rfl fun _ _ _ _ _ => ?_
  | with_reducible refine tupK rfl fun _ _ _ _ _ => ?_
  | with_reducible refine mk_rule4 (SqL.of (by walk_at "at")) (SqL.of (by walk_at "at")) fun _ _ _ _ => ?_
  | with_reducible refine mk_rule (SqL.of (by walk_at "at")) (SqL.of (by walk_at "at")) fun _ _ _ _ => ?_
  | with_reducible refine c_refusal (SqL.of (by walk_at "at")) fun _ _ _ _ => ?_)
local macro_rules | `(tactic| walk_at "mk") => `(tactic| repeat (first | walk_at "rd2" | walk_at "mk1"))
local macro_rules | `(tactic| walk_at "ar1") => `(tactic| ((with_reducible refine r_I ?hh ?_); case hh => first | exact (show (0 : Int) < _ from by decide +kernel) | exact And.intro (by decide +kernel) (by decide +kernel) | exact Or.inr (And.intro (by decide +kernel) (by decide +kernel)) | exact Or.inl (And.intro (by decide +kernel) (by decide +kernel)) | exact And.intro (by decide +kernel) (And.intro (by decide +kernel) (by decide +kernel))))
local macro_rules | `(tactic| walk_at "ar") => `(tactic| repeat (first | walk_at "rd2" | walk_at "ar1"))

section
variable {P : Program} {w : World} {K : PySem.W.Frag} {mg : Str → Option Value} {base : Heap}
def spSpec (K : PySem.W.Frag) : Sp := fun vs H Q _ => ∃ c : Int, vs = [.int c] ∧ ∀ v H' S, Same H H' → SpecAt K H' v S → GoodS S → Q v H'
theorem sc_law_spec : FnScope ["_law_cell", "_law_xs", "_law_names_here", "_law_rooms", "_law_told", "_law_rows", "_law_row", "_law_at", "_law_marks_here", "_law_name", "_law_most", "_law_dark", "_law_more", "_law_words", "_law_room", "_law_kind", "_law_start"] ["_law_cell"] (defScope s_law_spec) := ⟨rfl, rfl, rfl, by decide +kernel, rfl, by decide +kernel, by decide +kernel⟩
theorem ok_law_spec (t : T K mg) : C8.Cal P w K mg base 3 "_law_spec" (spSpec K) [] := by
  have c_law_take := ok_law_take (P := P) (w := w) (base := base) t
  have c_law_draws := ok_law_draws (P := P) (w := w) (base := base) t
  have c_law_names := ok_law_names (P := P) (w := w) (base := base) t
  have c_law_others := ok_law_others (P := P) (w := w) (base := base) t
  refine cal t.f_law_spec t.g_law_spec sc_law_spec (fun _ _ _ _ _ _ us hl => match us, hl with | [_], _ => rfl) (fun vs H Q E h => ?_) fun cdv A outer s H vs Q E hr h => ?_
  · obtain ⟨c, rfl, _⟩ := h
    rfl
  · obtain ⟨c, rfl, k⟩ := h
    refine ⟨_, (pss_cons (ps_set (i := 1) sc_law_spec.nd rfl (Or.inr rfl) (C8.pe_c c_law_draws hr (by decide) (by rfl) (pa_cons (L2.pv 0) (pa_cons pe_int pa_nil))))
      (pss_cons (ps_set (i := 2) sc_law_spec.nd rfl (Or.inl rfl) (C8.pe_c c_law_names hr (by decide) (by rfl) (pa_cons (L2.pv 1) pa_nil)))
      (pss_cons (ps_set (i := 3) sc_law_spec.nd rfl (Or.inl rfl) (pe_slice (sl_list' (K := K) rfl) (L2.pv 2) po_none (po_some (pe_op op_add pe_int (C8.pe_c c_law_take hr (by decide) (by rfl) (pa_cons (L2.pv 1) (pa_cons pe_int pa_nil)))))))
      (pss_cons (ps_set (i := 4) sc_law_spec.nd rfl (Or.inl rfl) (pe_op op_cat (pe_lc (own := [("_law_room", 14)]) (by rfl) sc_law_spec.nd (pi_list' (K := K) rfl (L2.pv 3)) (blkOk_by (own := [("_law_room", 14)]) (N := ["_law_cell", "_law_xs", "_law_names_here", "_law_rooms", "_law_told", "_law_rows", "_law_row", "_law_at", "_law_marks_here", "_law_name", "_law_most", "_law_dark", "_law_more", "_law_words", "_law_room", "_law_kind", "_law_start"]) (sc := defScope s_law_spec) (by decide +kernel)) (fun _ _ _ _ _ => (pg_name (i := 14) sc_law_spec.nd rfl (Or.inl rfl))) (fun _ _ _ _ _ => pts_nil) (fun _ _ _ _ _ => (pe_tup (pa_cons (L2.pv 14) (pa_cons pe_str (pa_cons pe_non pa_nil)))))) (pe_lst (pa_cons (pe_tup (pa_cons (pe_ix (ix_list' (K := K) rfl) (L2.pv 2) pe_int (fun _ _ => rfl)) (pa_cons pe_str (pa_cons (pe_ix (ix_list' (K := K) rfl) (L2.pv 3) (C8.pe_c c_law_take hr (by decide) (by rfl) (pa_cons (L2.pv 1) (pa_cons (pe_callB (cr_len (K := K) rfl) (by rfl) t.b_len (by decide +kernel) (pa_cons (L2.pv 3) pa_nil)) pa_nil))) (fun _ _ => rfl)) pa_nil)))) pa_nil))))
      (pss_cons (ps_set (i := 5) sc_law_spec.nd rfl (Or.inl rfl) (pe_lst pa_nil))
      (pss_cons (ps_for PassesOwn.never (by rfl) (pi_list' (K := K) rfl (pe_op op_cat (L2.pv 4) (C8.pe_c c_law_others hr (by decide) (by rfl) (pa_cons (L2.pv 2) (pa_cons (L2.pv 3) (pa_cons (L2.pv 1) pa_nil)))))) (pg_name (i := 6) sc_law_spec.nd rfl (Or.inl rfl)) (pss_cons (ps_set (i := 7) sc_law_spec.nd rfl (Or.inl rfl) (C8.pe_c c_law_take hr (by decide) (by rfl) (pa_cons (L2.pv 1) (pa_cons (pe_op op_add (pe_callB (cr_len (K := K) rfl) (by rfl) t.b_len (by decide +kernel) (pa_cons (L2.pv 5) pa_nil)) pe_int) pa_nil))))
      (pss_one (ps_set (i := 5) sc_law_spec.nd rfl (Or.inl rfl) (pe_op op_cat (pe_op op_cat (pe_slice (sl_list' (K := K) rfl) (L2.pv 5) po_none (po_some (L2.pv 7))) (pe_lst (pa_cons (L2.pv 6) pa_nil))) (pe_slice (sl_list' (K := K) rfl) (L2.pv 5) (po_some (L2.pv 7)) po_none))))))
      (pss_cons (ps_set (i := 8) sc_law_spec.nd rfl (Or.inl rfl) (pe_lst pa_nil))
      (pss_cons (ps_for PassesOwn.never (by rfl) (pi_list' (K := K) rfl (pe_slice (sl_list' (K := K) rfl) (L2.pv 2) (po_some pe_int) (po_some (pe_op op_add pe_int (C8.pe_c c_law_take hr (by decide) (by rfl) (pa_cons (L2.pv 1) (pa_cons pe_int pa_nil))))))) (pg_name (i := 9) sc_law_spec.nd rfl (Or.inl rfl)) (pss_cons (ps_set (i := 10) sc_law_spec.nd rfl (Or.inl rfl) (pe_op op_add pe_int (C8.pe_c c_law_take hr (by decide) (by rfl) (pa_cons (L2.pv 1) (pa_cons pe_int pa_nil)))))
      (pss_one (ps_expr (pe_bm PySem.F.plainAttrs_list PySem.F.slot_list_append PySem.F.type_list_append mt_append (L2.pv 8) (pa_cons (pe_tup (pa_cons (L2.pv 9) (pa_cons (C8.pe_c c_law_take hr (by decide) (by rfl) (pa_cons (L2.pv 1) (pa_cons (pe_op op_add (L2.pv 10) pe_int) pa_nil))) (pa_cons (L2.pv 10) pa_nil)))) pa_nil))))))
      (pss_cons (ps_setLc (i := 11) (own := [("_law_room", 14)]) (by rfl) sc_law_spec.nd rfl rfl (sw_true rfl rfl rfl (by decide +kernel)) (pi_list' (K := K) rfl (L2.pv 3)) (blkOk_by (own := [("_law_room", 14)]) (N := ["_law_cell", "_law_xs", "_law_names_here", "_law_rooms", "_law_told", "_law_rows", "_law_row", "_law_at", "_law_marks_here", "_law_name", "_law_most", "_law_dark", "_law_more", "_law_words", "_law_room", "_law_kind", "_law_start"]) (sc := defScope s_law_spec) (by decide +kernel)) (fun _ _ _ _ _ => (pg_name (i := 14) sc_law_spec.nd rfl (Or.inl rfl))) (fun _ _ _ _ _ => (pts_one (pt_cmpR op_eq (C8.pe_c c_law_take hr (by decide) (by rfl) (pa_cons (L2.pv 1) (pa_cons pe_int pa_nil))) pe_int (nomark _)))) (fun _ _ _ _ _ => (L2.pv 14)))
      (pss_cons (ps_set (i := 12) sc_law_spec.nd rfl (Or.inr rfl) (pe_lst (pa_cons (pe_tup pa_nil) (pa_cons (pe_tup (pa_cons pe_str pa_nil)) (pa_cons (pe_tup (pa_cons pe_str (pa_cons pe_str pa_nil))) pa_nil)))))
      (pss_cons (ps_setLc (i := 13) (own := [("_law_name", 9), ("_law_kind", 15), ("_law_start", 16)]) (by rfl) sc_law_spec.nd rfl rfl (sw_true rfl rfl rfl (by decide +kernel)) (pi_list' (K := K) rfl (L2.pv 5)) (blkOk_by (own := [("_law_name", 9), ("_law_kind", 15), ("_law_start", 16)]) (N := ["_law_cell", "_law_xs", "_law_names_here", "_law_rooms", "_law_told", "_law_rows", "_law_row", "_law_at", "_law_marks_here", "_law_name", "_law_most", "_law_dark", "_law_more", "_law_words", "_law_room", "_law_kind", "_law_start"]) (sc := defScope s_law_spec) (by decide +kernel)) (fun _ _ _ _ _ => (pg_tup' (K := K) (n := 3) rfl (by rfl) (pgs_cons (pg_name (i := 9) sc_law_spec.nd rfl (Or.inl rfl)) (pgs_cons (pg_name (i := 15) sc_law_spec.nd rfl (Or.inl rfl)) (pgs_cons (pg_name (i := 16) sc_law_spec.nd rfl (Or.inl rfl)) pgs_nil))))) (fun _ _ _ _ _ => pts_nil) (fun _ _ _ _ _ => (pe_op (op_catA' (K := K) rfl) (pe_tup (pa_cons (L2.pv 9) pa_nil)) (pe_ix (ix_list' (K := K) rfl) (L2.pv 12) (C8.pe_c c_law_take hr (by decide) (by rfl) (pa_cons (L2.pv 1) (pa_cons pe_int pa_nil))) (fun _ _ => rfl)))))
      (pss_one (ps_ret (pe_disp (pps_cons pe_str (L2.pv 5) (pps_cons pe_str (L2.pv 8) (pps_cons pe_str (L2.pv 11) (pps_cons pe_str (L2.pv 13) (pps_cons pe_str (pe_ix (ix_list' (K := K) rfl) (L2.pv 2) pe_int (fun _ _ => rfl)) pps_nil))))) (by rfl) (by rfl) (fun z => by cases z) (by decide))))))))))))))), ?_⟩
    clear c_law_take c_law_draws c_law_names c_law_others
    walk_at "ar"
    refine ⟨c, 110, rfl, by decide, fun a H1 na s1 hx1 => ?_⟩
    have S1 : Same H (del a H1) := del_none s1 na
    walk_at "ar"
    refine ⟨a, rfl, hx1, fun q H2 ns nq x2 h2 hn => ?_⟩
    walk_at "ar"
    refine ⟨a, 5, rfl, x2.xs, by decide, fun r0 H3 x3 i0 i1 => ?_⟩
    walk_at "ar"
    have er : 1 + r0 = ((1 + r0.toNat : Nat) : Int) := by omega
    rw [er]
    have r1 : 1 ≤ 1 + r0.toNat := by omega
    have r5 : 1 + r0.toNat ≤ 5 := by omega
    generalize 1 + r0.toNat = r at r1 r5
    have x13 := x2.trans x3
    have h3 := x3.sm _ _ h2
    refine r_slL (.of (del_le _ _ h3)) fun b H4 nb s4 h4 => ?_
    rw [cut_to, ← List.map_take] at h4
    have x14 := x13.grow s4
    have hb4 := del_new x13.xs nb h4
    have hq4 := del_mono (D := a) s4 _ _ h3
    have lr : (ns.take r).length = r := by rw [List.length_take, hn.len]; omega
    generalize hrm : ns.take r = rooms at h4 hb4 lr
    clear h3 h2 s4 x3 x2 x13
    walk_at "ar"
    refine sqLK (.of h4) ?_
    refine lcL (fun ys i H' => Paired (RowAt H') ys ((rooms.take i).map rmRow)) (.of h4) .nil (fun _ _ _ => .nil) ?_ ?_
    · intro D i x ys H5 m f hi
      obtain ⟨n, hnn, rfl⟩ := map_get hi
      have hlt := get_lt hnn
      walk_at "ar"
      refine tupK rfl fun p H6 np s6 h6 => ?_
      have e := f.length
      rw [List.length_map, List.length_take] at e
      refine apK (m.grow s6) (by omega) ?_
      rw [take_succ' hnn, List.map_append]
      exact paired_app (Paired.mapP f fun _ _ g => row_mono (del_mono s6) g) (.cons ⟨p, rfl, del_at h6 fun z => by rw [z, m.at_] at np; cases np⟩ .nil)
    intro D H5 tys m f
    rw [List.length_map, List.take_length] at f
    have x15 := x14.grow m.same
    have f5 := Paired.mapP f fun _ _ g => row_mono del_le g
    have hD5 := del_new x14.xs m.nw m.at_
    have hb5 := del_mono (D := a) m.same _ _ hb4
    have hq5 := del_mono (D := a) m.same _ _ hq4
    obtain ⟨yy, hyy⟩ : ∃ yy, ns[5]? = some yy := ⟨_, List.getElem?_eq_getElem (by rw [hn.len]; decide)⟩
    clear m f x14 hb4 hq4 h4 nb
    walk_at "ar"
    refine r_ixL (i := 5) (v := .str yy) (.of (del_le _ _ hq5)) (at_map (f := V.str) (at_nat (by decide) hyy)) ?_
    walk_at "ar"
    refine r_len (.of (del_le _ _ hb5)) ?_
    walk_at "ar"
    rw [List.length_map]
    refine ⟨a, _, rfl, x15.xs, by omega, fun u H6 x6 u0 u1 => ?_⟩
    obtain ⟨s0, hs0, hs1, _⟩ := at_some (xs := rooms) u0 u1
    have hb6 := x6.sm _ _ hb5
    have hq6 := x6.sm _ _ hq5
    have hD6 := x6.sm _ _ hD5
    refine r_ixL (.of (del_le _ _ hb6)) (at_map (f := V.str) hs0) ?_
    walk_at "ar"
    refine tupK rfl fun p7 H7 n7 s7 h7 => ?_
    walk_at "ar"
    refine lstK rfl fun p8 H8 n8 s8 h8 => ?_
    have x58 := x6.grow (s7.trans s8)
    have x18 := x15.trans x58
    have s68 := s7.trans s8
    have f8 := Paired.mapP f5 fun _ _ g => row_x x15.xs x58 g
    have lt5 := f5.length
    rw [List.length_map] at lt5
    refine r_cat (s68 _ _ (del_le _ _ hD6)) h8 (by simp; omega) fun p9 H9 n9 s9 h9 => ?_
    have f9 : Paired (RowAt H9) (tys ++ [.ref p7]) (rooms.map rmRow ++ [⟨yy, "you", some s0⟩]) := paired_app (Paired.mapP f8 fun _ _ g => row_mono s9 g) (.cons ⟨p7, rfl, s9 _ _ (s8 _ _ h7)⟩ .nil)
    have x19 := x18.grow s9
    have s69 := s68.trans s9
    have hb9 := del_mono (D := a) s69 _ _ hb6
    have hq9 := del_mono (D := a) s69 _ _ hq6
    have hT9 := del_new x18.xs n9 h9
    clear hb6 hq6 hD6 hb5 hq5 hD5 f8 f5 x18 x58 s69 s68 s7 s8 n7 n8 n9 h7 h8 h9 s9 x6 x15
    walk_at "ar"
    refine lstK rfl fun R0 H10 n10 s10 h10 => ?_
    have x1A := x19.grow s10
    have hR10 := del_new x19.xs n10 h10
    have hbA := del_mono (D := a) s10 _ _ hb9
    have hqA := del_mono (D := a) s10 _ _ hq9
    have hTA := del_mono (D := a) s10 _ _ hT9
    have fA := Paired.mapP f9 fun _ _ g => row_mono s10 g
    clear hb9 hq9 hT9 f9 x19 n10 s10 h10
    walk_at "ar"
    refine ⟨a, q, b, ns, rooms, yy, rfl, x1A.xs, hqA, hbA, hn.len, hyy, by omega, fun p11 H11 oys oths hs n x11 h11 hp11 hon hn7 hoo => ?_⟩
    have hbB := x11.sm _ _ hbA
    have hqB := x11.sm _ _ hqA
    have hTB := x11.sm _ _ hTA
    have hRB := x11.sm _ _ hR10
    have x1B := x1A.trans x11
    have fB := Paired.mapP fA fun _ _ g => row_x x1A.xs x11 g
    have lo := hp11.length
    have lo2 := congrArg List.length hon
    rw [List.length_map, List.length_take, List.length_drop, hn.len] at lo2
    have lt := fB.length
    simp only [List.length_append, List.length_map, List.length_cons, List.length_nil] at lt
    refine r_cat (del_le _ _ hTB) (del_le _ _ h11) (by rw [List.length_append]; simp; omega) fun p12 H12 n12 s12 h12 => sqLK (.of h12) ?_
    have x1C := x1B.grow s12
    have hbC := del_mono (D := a) s12 _ _ hbB
    have hqC := del_mono (D := a) s12 _ _ hqB
    have hRC := del_mono (D := a) s12 _ _ hRB
    have hIC := del_new x1B.xs n12 h12
    have fC := Paired.mapP (paired_app fB hp11) fun _ _ g => row_mono s12 g
    have lall : (rooms.map rmRow ++ [(⟨yy, "you", some s0⟩ : Rw)] ++ oths).length ≤ 13 := by
      simp only [List.length_append, List.length_map, List.length_singleton]
      omega
    generalize hall : rooms.map rmRow ++ [(⟨yy, "you", some s0⟩ : Rw)] ++ oths = all at fC lall
    clear hbB hqB hTB hRB fB hbA hqA hTA hR10 fA x1A x11 h11 hp11 s12 n12 h12 x1B
    refine forL (fun i σ H2 => (∃ o1 o2 R, σ = [some (.int c), some (.ref a), some (.ref q), some (.ref b), some (.ref p9), some (.ref R), o1, o2, none, none, none, none, none, none, none, none, none] ∧ ∃ ys rws, del a H2 R = some (.lst ys) ∧ Paired (RowAt H2) ys rws ∧ rws.Perm (all.take i)) ∧ Xst a H12 H2)
      ⟨⟨none, none, R0, rfl, [], [], hRC, .nil, .refl _⟩, .ref x1C.xs⟩ (fun i σ H2 _ ⟨_, x⟩ => .of (del_le _ _ (x.sm _ _ hIC))) ?_ ?_
    · rintro i x σ H13 hi ⟨⟨o1, o2, R, rfl, ys, rws, hR, hp, pm⟩, x13⟩
      obtain ⟨rw1, hrw, hx⟩ := paired_get' fC hi
      have hlt := get_lt hrw
      have lr := hp.length
      have lr2 := pm.length_eq
      rw [List.length_take] at lr2
      walk_at "ar"
      refine r_len (.of (del_le _ _ hR)) ?_
      walk_at "ar"
      refine ⟨a, _, rfl, x13.xs, by omega, fun u H14 x14 u0 u1 => ?_⟩
      have eu : u = (u.toNat : Int) := by omega
      have hu : u.toNat ≤ ys.length := by omega
      generalize u.toNat = v at eu hu
      subst eu
      walk_at "ar"
      have hR14 := x14.sm _ _ hR
      refine r_slL (.of (del_le _ _ hR14)) fun pA HA nA sA hA => ?_
      rw [cut_to] at hA
      walk_at "ar"
      refine lstK rfl fun pB HB nB sB hB => ?_
      refine r_cat (sB _ _ hA) hB (by rw [List.length_take]; simp; omega) fun pC HC nC sC hC => ?_
      walk_at "ar"
      have sAC := sA.trans (sB.trans sC)
      refine r_slL (.of (sAC _ _ (del_le _ _ hR14))) fun pD HD nD sD hD => ?_
      rw [cut_from] at hD
      refine r_cat (sD _ _ hC) hD (by rw [List.length_append, List.length_take, List.length_drop]; simp; omega) fun pE HE nE sE hE => ?_
      have x1E := x14.grow (sAC.trans (sD.trans sE))
      have xD := x14.grow (sAC.trans sD)
      refine x_next ⟨⟨_, _, pE, rfl, _, rws.take v ++ [rw1] ++ rws.drop v, del_new xD.xs nE hE, ?_, ?_⟩, x13.trans x1E⟩
      · have hp2 := Paired.mapP hp fun _ _ g => row_x x13.xs x1E g
        have hx2 := row_x x1C.xs (x13.trans x1E) hx
        exact paired_app (paired_app (paired_take hp2 v) (.cons hx2 .nil)) (paired_drop hp2 v)
      · rw [take_succ' hrw]
        refine List.Perm.trans ?_ (List.Perm.append_right _ pm)
        refine List.Perm.trans ?_ (List.perm_append_singleton rw1 rws).symm
        refine List.Perm.trans (List.Perm.append_right _ (List.perm_append_singleton rw1 (rws.take v))) ?_
        rw [List.cons_append, List.take_append_drop]
    · rintro σ H13 ⟨⟨o1, o2, R, rfl, ys, rws, hR, hp, pm⟩, x13⟩
      rw [fC.length, List.take_length] at pm
      have lrw : rws.length ≤ 13 := by rw [pm.length_eq]; exact lall
      have hb13 := x13.sm _ _ hbC
      have hq13 := x13.sm _ _ hqC
      have x1D := x1C.trans x13
      clear hIC hRC fC hbC hqC x1C x13
      walk_at "ar"
      refine lstK rfl fun MK H14 nM s14 h14 => ?_
      walk_at "ar"
      have aM : MK ≠ a := fun z => by
        obtain ⟨ys, e⟩ := x1D.xs.some
        rw [← z, nM] at e
        cases e
      refine ⟨a, 5, rfl, x1D.xs.grow s14, by decide, fun n2 H15 x15 i0 i1 => ?_⟩
      walk_at "ar"
      have n4 : n2.toNat ≤ 4 := by omega
      have en : n2 = (n2.toNat : Int) := by omega
      generalize n2.toNat = m at n4 en
      subst en
      have x1F : Xst a H13 H15 := (Xst.of x1D.xs s14).trans x15
      refine r_slL (lo := some (13 : Nat)) (.of (x1F.le _ _ hq13)) fun B H16 nB s16 h16 => sqLK (.of h16) ?_
      rw [show some (13 + (m : Int)) = some (((13 + m : Nat)) : Int) from by rw [Int.natCast_add]; rfl, cut_mid _ 13 (13 + m) (by omega), Nat.add_sub_cancel_left, ← List.map_drop, ← List.map_take] at h16
      have hM15 : H15 MK = some (.lst []) := x15.le _ _ (del_at h14 aM)
      have hM16 := s16 _ _ hM15
      have bM : B ≠ MK := fun z => by rw [z, hM15] at nB; cases nB
      have bA : B ≠ a := fun z => by
        obtain ⟨ys, e⟩ := x15.xs.some
        rw [← z, nB] at e
        cases e
      have x16 := x15.grow s16
      have hB16 : but [a, MK] H16 B = some (.lst (((ns.drop 13).take m).map V.str)) := but_at h16 (by simp [bA, bM])
      have base16 : Same (del a H13) (but [a, MK] H16) := by
        rw [← but_one (a := a)]
        exact (but_new nM).trans ((but_sub (by simp)).trans ((but_mono s14).trans ((but_x (by simp) x15).trans (but_mono s16))))
      have lsl : ((ns.drop 13).take m).length ≤ 4 := by rw [List.length_take]; omega
      generalize hN : (ns.drop 13).take m = sl at hB16 lsl h16
      clear h16 s16 nB hM15 x15 h14 x1F s14
      refine forL (xs := sl.map V.str) (fun i σ H2 => (∃ o3 o4, σ = [some (.int c), some (.ref a), some (.ref q), some (.ref b), some (.ref p9), some (.ref R), o1, o2, some (.ref MK), o3, o4, none, none, none, none, none, none]) ∧ XsAt H2 a ∧ Same (but [a, MK] H16) (but [a, MK] H2) ∧ ∃ ms marks, H2 MK = some (.lst ms) ∧ Paired (MRow H2) ms marks ∧
        marks.map M3.name = sl.take i ∧ ∀ x ∈ marks, 1 ≤ x.most ∧ x.most ≤ 3 ∧ 0 ≤ x.start ∧ x.start ≤ x.most) ⟨⟨none, none, rfl⟩, x16.xs, Same.refl _, [], [], hM16, .nil, rfl, fun x h => absurd h (by simp)⟩ (fun i σ H2 _ ⟨_, _, sm, _⟩ => .of (but_le _ _ (sm _ _ hB16))) ?_ ?_
      · rintro i x σ H17 hi ⟨⟨o3, o4, rfl⟩, x17, sm, ms, marks, hM, hmr, hmn, hmk⟩
        obtain ⟨nme, hnme, rfl⟩ := map_get hi
        have hlt := get_lt hnme
        have ly := hmr.length
        have lr := congrArg List.length hmn
        rw [List.length_map, List.length_take] at lr
        walk_at "ar"
        refine ⟨a, 3, rfl, x17, by decide, fun j H18 x18 j0 j1 => ?_⟩
        walk_at "ar"
        refine tyK_l (.of (x18.le _ _ (del_at hM aM))) ?_
        walk_at "ar"
        refine ⟨a, _, rfl, x18.xs, by omega, fun u H19 x19 u0 u1 => ?_⟩
        walk_at "ar"
        refine tupK rfl fun p20 H20 n20 s20 h20 => ?_
        have x20 : Xst a H17 H20 := x18.trans (x19.grow s20)
        have hM20 := x20.le _ _ (del_at hM aM)
        have pM : p20 ≠ MK := fun z => by
          have := (x18.trans x19).le _ _ (del_at hM aM)
          rw [← z, n20] at this
          cases this
        have mr20 := Paired.mapP hmr fun _ _ g => tup_x x17 x20 g
        walk_at "ar"
        refine r_app hM20 (by omega) ?_
        refine x_next ⟨⟨_, _, rfl⟩, ?_, ?_, _, marks ++ [⟨nme, u, 1 + j⟩], upd_same, paired_app (Paired.mapP mr20 fun _ _ g => tup_upd hM20 g) (.cons ⟨p20, rfl, by rw [upd_ne pM]; exact h20⟩ .nil), ?_, ?_⟩
        · obtain ⟨ns', e1, e2⟩ := x20.xs
          exact ⟨ns', by rw [upd_ne (Ne.symm aM)]; exact e1, e2⟩
        · rw [but_upd (by simp)]
          exact sm.trans (but_x (by simp) x20)
        · rw [List.map_append, hmn, take_succ' hnme]
          rfl
        · intro x hx
          rcases List.mem_append.mp hx with hx | hx
          · exact hmk x hx
          · rw [List.mem_singleton.mp hx]
            exact ⟨by show (1 : Int) ≤ 1 + j; omega, by show 1 + j ≤ (3 : Int); omega, u0, by show u ≤ 1 + j; omega⟩
      rintro σ H17 ⟨⟨o3, o4, rfl⟩, x17, sm, ms, marks, hM, hmr, hmn, hmk⟩
      rw [List.length_map, List.take_length] at hmn
      have up : Same (del a H13) (del a H17) := by
        have := base16.trans sm
        rw [← but_one (a := a)] at this ⊢
        exact this.trans (by rw [← but_one]; exact but_sub (by simp))
      have xD7 : Xst a H13 H17 := ⟨up, x17⟩
      have hb17 := up _ _ hb13
      have hq17 := up _ _ hq13
      have hR17 := up _ _ hR
      have hp17 := Paired.mapP hp fun _ _ g => row_x x1D.xs xD7 g
      have hM17 := del_at hM aM
      have x1G := x1D.trans xD7
      clear hM hb13 hq13 hR up sm base16 hB16 x17 xD7 hM16 hp x1D x16
      walk_at "ar"
      refine sqLK (.of (del_le _ _ hb17)) ?_
      refine lcLx a (fun ys i H' => ∃ ds : List Str, ys = ds.map V.str ∧ ds.Sublist (rooms.take i)) x1G.xs (.of hb17) (fun _ _ => ⟨[], rfl, List.nil_sublist _⟩) ?_ ?_
      · rintro D i x ys H18 mx ⟨ds, rfl, hds⟩ hi
        obtain ⟨nme, hnme, rfl⟩ := map_get hi
        have hlt := get_lt hnme
        have hle := hds.length_le
        rw [List.length_take] at hle
        walk_at "ar"
        refine ⟨a, 2, rfl, mx.xs, by decide, fun j H19 x19 j0 j1 => ?_⟩
        walk_at "ar"
        refine iteK (fun e => ?_) fun e => ?_
        · walk_at "ar"
          refine apKx (mx.step x19) (by rw [List.length_map]; omega) ⟨ds ++ [nme], by rw [List.map_append]; rfl, ?_⟩
          rw [take_succ' hnme]
          exact List.Sublist.append hds (List.Sublist.refl _)
        · refine skKx (mx.step x19) ⟨ds, rfl, ?_⟩
          rw [take_succ' hnme]
          exact hds.trans (List.sublist_append_left _ _)
      rintro DK H18 ys mx ⟨dark, rfl, hdk⟩
      rw [List.length_map, List.take_length] at hdk
      have x18 := mx.xst
      have hD18 := del_at mx.at_ mx.ne
      have hq18 := x18.sm _ _ hq17
      have hR18 := x18.sm _ _ hR17
      have hM18 := x18.sm _ _ hM17
      have hp18 := Paired.mapP hp17 fun _ _ g => row_x x1G.xs x18 g
      have hm18 := Paired.mapP hmr fun _ _ g => tup_x x1G.xs x18 g
      have x1H := x1G.trans x18
      clear mx hq17 hR17 hM17 hb17 hp17 hmr x18 x1G
      walk_at "ar"
      refine tupK rfl fun t0 H19 m0 y0 g0 => ?_
      walk_at "ar"
      refine tupK rfl fun t1 H20 m1 y1 g1 => ?_
      walk_at "ar"
      refine tupK rfl fun t2 H21 m2 y2 g2 => ?_
      walk_at "ar"
      refine lstK rfl fun ML H22 m3 y3 g3 => ?_
      have up : Same H18 H22 := y0.trans (y1.trans (y2.trans y3))
      have x1I := x1H.grow up
      have hL22 := del_new (x1H.xs.grow (y0.trans (y1.trans y2))) m3 g3
      have q0 : SqT K H22 t0 [] := .of (y3 _ _ (y2 _ _ (y1 _ _ g0)))
      have q1 : SqT K H22 t1 [.str "red"] := .of (y3 _ _ (y2 _ _ g1))
      have q2 : SqT K H22 t2 [.str "old", .str "red"] := .of (y3 _ _ g2)
      have hD22 := del_mono (D := a) up _ _ hD18
      have hq22 := del_mono (D := a) up _ _ hq18
      have hR22 := del_mono (D := a) up _ _ hR18
      have hM22 := del_mono (D := a) up _ _ hM18
      have hp22 := Paired.mapP hp18 fun _ _ g => row_mono up g
      have hm22 := Paired.mapP hm18 fun _ _ g => tup_mono up g
      clear hD18 hq18 hR18 hM18 hp18 hm18 up y0 y1 y2 y3 g0 g1 g2 g3 m0 m1 m2 m3
      obtain ⟨yx, ex⟩ := x1I.xs.some
      have q0' := del_sqt ex q0
      have q1' := del_sqt ex q1
      have q2' := del_sqt ex q2
      walk_at "ar"
      refine sqLK (.of (del_le _ _ hR22)) ?_
      refine lcLx a (fun ys i H' => ∃ wss, Paired (WdAt K H') ys wss ∧ Paired (fun ws (r : Rw) => ∃ m ∈ mores, ws = r.name :: m) wss (rws.take i)) x1I.xs (.of hR22) (fun _ _ => ⟨[], .nil, .nil⟩) ?_ ?_
      · rintro D i x ys H23 mx ⟨wss, hw1, hw2⟩ hi
        obtain ⟨r1, hr1, p, rfl, hrow⟩ := paired_get' hp22 hi
        have hlt := get_lt hr1
        have l1 := hw1.length
        have l2 := hw2.length
        rw [List.length_take] at l2
        refine x_gtup (.of (mx.xst.le _ _ (del_at hrow (ne_of hrow ex fun e => by cases e)))) rfl ?_
        walk_at "ar"
        refine tupK rfl fun t3 H24 m4 y4 g4 => ?_
        walk_at "ar"
        refine ⟨a, 3, rfl, mx.xs.grow y4, by decide, fun j H25 x25 j0 j1 => ?_⟩
        have m25 := (mx.grow y4).step x25
        have hL25 := m25.xst.sm _ _ hL22
        have ht3 := x25.le _ _ (del_new mx.xs m4 g4)
        have fin : ∀ (ws : List Str) (y : V) (H26 : Hp), Same H25 H26 → WdAt K H26 y (r1.name :: ws) → ws ∈ mores → (∃ u, y = .ref u ∧ u ≠ D) ∨ True → ApKx a H22 (fun ys i H' => ∃ wss, Paired (WdAt K H') ys wss ∧ Paired (fun ws (r : Rw) => ∃ m ∈ mores, ws = r.name :: m) wss (rws.take i)) D i y H26 := fun ws y H26 s26 hw hm _ => by
          have m26 := m25.grow s26
          obtain ⟨ye, ee⟩ := m26.xs.some
          have dl : ∀ x ws, WdAt K H26 x ws → WdAt K (del D (del a H26)) x ws := fun x ws h => by
            obtain ⟨b, e, h⟩ := h
            exact ⟨b, e, del_sqt (del_at m26.at_ m26.ne) (del_sqt ee h)⟩
          refine apKx m26 (by omega) ⟨wss ++ [r1.name :: ws], paired_app (Paired.mapP hw1 fun _ _ g => ?_) (.cons (dl _ _ hw) .nil), ?_⟩
          · exact wdat_mono ((del_mono ((del_mono y4).trans (x25.sm.trans (del_mono s26))))) g
          · rw [take_succ' hr1]
            exact paired_app hw2 (.cons ⟨ws, hm, rfl⟩ .nil)
        obtain rfl | rfl | rfl : j = 0 ∨ j = 1 ∨ j = 2 := by omega
        · refine r_ixL (v := .ref t0) (.of (del_le _ _ hL25)) rfl ?_
          refine r_catA (.of ht3) (same_sqt (m25.xst.le) q0') (fun e => by cases e) rfl (fun _ => ?_) fun p H26 np s26 h26 => ?_
          · exact fin [] _ H25 (Same.refl _) ⟨t3, rfl, .of ht3⟩ (by simp [mores]) (.inr trivial)
          · exact fin [] _ H26 s26 ⟨p, rfl, .of h26⟩ (by simp [mores]) (.inr trivial)
        · refine r_ixL (v := .ref t1) (.of (del_le _ _ hL25)) rfl ?_
          refine r_catA (.of ht3) (same_sqt (m25.xst.le) q1') (fun e => by cases e) rfl (fun e => by cases e) fun p H26 np s26 h26 => ?_
          exact fin ["red"] _ H26 s26 ⟨p, rfl, .of h26⟩ (by simp [mores]) (.inr trivial)
        · refine r_ixL (v := .ref t2) (.of (del_le _ _ hL25)) rfl ?_
          refine r_catA (.of ht3) (same_sqt (m25.xst.le) q2') (fun e => by cases e) rfl (fun e => by cases e) fun p H26 np s26 h26 => ?_
          exact fin ["old", "red"] _ H26 s26 ⟨p, rfl, .of h26⟩ (by simp [mores]) (.inr trivial)
      rintro WD H23 ys mx ⟨wss, hw1, hw2⟩
      have lp := hp22.length
      rw [lp, List.take_length] at hw2
      have x23 := mx.xst
      have hW23 := del_at mx.at_ mx.ne
      have hD23 := x23.sm _ _ hD22
      have hq23 := x23.sm _ _ hq22
      have hR23 := x23.sm _ _ hR22
      have hM23 := x23.sm _ _ hM22
      have hp23 := Paired.mapP hp22 fun _ _ g => row_x x1I.xs x23 g
      have hm23 := Paired.mapP hm22 fun _ _ g => tup_x x1I.xs x23 g
      have hw23 := Paired.mapP hw1 fun _ _ g => wdat_mono (del_le.trans del_le) g
      have x1J := x1I.trans x23
      walk_at "ar"
      refine x_disp fun d H24 nd s24 h24 => ?_
      repeat (first | refine x_pcons ?_ | refine x_pnil ?_ | walk_at "ar1" | walk_at "rd2")
      refine r_ixL (i := 5) (v := .str yy) (.of (s24 _ _ (del_le _ _ hq23))) (at_map (f := V.str) (at_nat (by decide) hyy)) ?_
      refine x_pnil ?_
      refine ⟨h24, scK R MK DK WD yy, rfl, by show (5 : Nat) ≤ 15; decide, ?_⟩
      have mo := (mkO nd s24 h24).upd (o' := .dK (mergeK [] (scK R MK DK WD yy)))
      have ek : mergeK [] (scK R MK DK WD yy) = scK R MK DK WD yy := by kernel_rfl
      rw [ek] at mo ⊢
      have S := mo.same
      refine k _ _ ⟨rws, marks, dark, wss, yy⟩ (S1.trans (x1J.sm.trans (del_le.trans S))) ⟨d, R, MK, DK, WD, _, _, _, rfl, mo.at_, S _ _ (del_le _ _ hR23), Paired.mapP hp23 fun _ _ g => row_mono S g, S _ _ (del_le _ _ hM23), Paired.mapP hm23 fun _ _ g => tup_mono S g, S _ _ (del_le _ _ hD23), S _ _ (del_le _ _ hW23), Paired.mapP hw23 fun _ _ g => wdat_mono S g⟩ ?_
      exact ⟨ns, rooms, oths, hs, r, n, m, s0, hn, r1, r5, hrm.symm, hyy, hs1, by rw [hall]; exact pm, hon, hn7, hoo, by rw [hN]; exact hmn, n4, hmk, hdk, hw2⟩
end
end Tw
set_option maxHeartbeats 4000000
/-! What the law reads off a spec; the world. -/
namespace Tw
open PySem PySem.Spec L2
theorem dgK {a : Addr} {kvs : List (Key × V)} {k : Str} {v : V} {H : Hp} {Q : VK} (e : H a = some (.dK kvs)) (l : valV kvs (.inr k) = some v) (q : Q v H) : DGK (.ref a) (.str k) H Q :=
  ⟨a, v, rfl, by rw [← l]; exact DGet.k (k := .inr k) e, q⟩
section
variable {K : PySem.W.Frag} {H H' : Hp} {v : V} {S : Sc} {Q : VK}
theorem sp_rows (h : SpecAt K H v S) (s : Same H H') (q : ∀ r rs, H r = some (.lst rs) → Paired (RowAt H) rs S.rows → Q (.ref r) H') : DGK v (.str "rows") H' Q := by
  obtain ⟨d, r, m, k, u, rs, ms, us, rfl, h1, h2, h3, _⟩ := h
  exact dgK (s _ _ h1) (v := .ref r) (by kernel_rfl) (q r rs h2 h3)
theorem sp_marks (h : SpecAt K H v S) (s : Same H H') (q : ∀ r rs, H r = some (.lst rs) → Paired (MRow H) rs S.marks → Q (.ref r) H') : DGK v (.str "marks") H' Q := by
  obtain ⟨d, r, m, k, u, rs, ms, us, rfl, h1, _, _, h2, h3, _⟩ := h
  exact dgK (s _ _ h1) (v := .ref m) (by kernel_rfl) (q m ms h2 h3)
theorem sp_dark (h : SpecAt K H v S) (s : Same H H') (q : ∀ r, H r = some (.lst (S.dark.map V.str)) → Q (.ref r) H') : DGK v (.str "dark") H' Q := by
  obtain ⟨d, r, m, k, u, rs, ms, us, rfl, h1, _, _, _, _, h2, _⟩ := h
  exact dgK (s _ _ h1) (v := .ref k) (by kernel_rfl) (q k h2)
theorem sp_words (h : SpecAt K H v S) (s : Same H H') (q : ∀ r rs, H r = some (.lst rs) → Paired (WdAt K H) rs S.words → Q (.ref r) H') : DGK v (.str "words") H' Q := by
  obtain ⟨d, r, m, k, u, rs, ms, us, rfl, h1, _, _, _, _, _, h2, h3⟩ := h
  exact dgK (s _ _ h1) (v := .ref u) (by kernel_rfl) (q u us h2 h3)
theorem sp_you (h : SpecAt K H v S) (s : Same H H') (q : Q (.str S.you) H') : DGK v (.str "you") H' Q := by
  obtain ⟨d, r, m, k, u, rs, ms, us, rfl, h1, _⟩ := h
  exact dgK (s _ _ h1) (v := .str S.you) (by kernel_rfl) q
end
def ofS (S : Sc) (ks : List Str) : List Str := (S.rows.filter fun r : Rw => decide (r.kind ∈ ks)).map Rw.name
local macro_rules | `(tactic| walk_at "rd1") => `(tactic| first
  | with_reducible refine x_seq ?_
  | ((with_reducible refine x_var (v := ?vv) ?hh ?_); case hh => exact rfl)
  | with_reducible refine x_c ?_
  | with_reducible refine x_op ?_
  | with_reducible refine x_fld ?_
  | with_reducible refine x_call ?_
  | with_reducible refine x_meth ?_
  | with_reducible refine x_make ?_
  | with_reducible refine x_cb ?_
  | with_reducible refine x_tup ?_
  | with_reducible refine x_lst ?_
  | with_reducible refine x_nil ?_
  | with_reducible refine x_cons ?_
  | with_reducible refine x_asg ?_
  | with_reducible refine x_name ?_
  | with_reducible refine x_ret ?_
  | with_reducible refine x_retN ?_
  | with_reducible refine x_drop ?_
  | with_reducible refine x_ifS ?_
  | with_reducible refine x_if ?_
  | with_reducible refine x_andV ?_
  | with_reducible refine x_orV ?_
  | with_reducible refine x_notV ?_
  | with_reducible refine x_test ?_
  | with_reducible refine x_tB ?_
  | with_reducible refine x_and ?_
  | with_reducible refine x_or ?_
  | with_reducible refine x_not ?_
  | with_reducible refine x_yes ?_
  | with_reducible refine x_next ?_
  | with_reducible refine x_sfld ?_
  | with_reducible refine blK ?_
  | with_reducible refine r_I0 ?_
  | with_reducible refine r_isN ?_
  | with_reducible refine r_notN ?_
  | ((with_reducible refine r_eq ?hh ?_); case hh => exact rfl)
  | ((with_reducible refine r_ne ?hh ?_); case hh => exact rfl)
  | with_reducible refine x_gnil ?_
  | with_reducible refine x_gcons ?_)
local macro_rules | `(tactic| walk_at "rd2") => `(tactic| first
  | walk_at "rd1"
  | with_reducible refine x_lc ?_
  | with_reducible refine x_for ?_
  | with_reducible refine x_itup ?_
  | with_reducible refine x_ilist ?_
  | with_reducible refine x_rng1 ?_
  | with_reducible refine x_bm ?_
  | with_reducible refine x_chain ?_
  | with_reducible refine x_istr ?_
  | with_reducible refine strK ?_
  | with_reducible refine x_sl ?_
  | with_reducible refine x_part ?_
  | with_reducible refine x_noPart ?_
  | with_reducible refine poK ?_
  | ((with_reducible refine ltK ?hh ?_); case hh => exact rfl)
  | ((with_reducible refine ltKx ?hh ?_); case hh => exact rfl)
  | with_reducible refine x_dput ?_
  | with_reducible refine x_dget ?_
  | with_reducible refine iteK_t ?_
  | with_reducible refine iteK_nf ?_
  | with_reducible refine iteK_nt ?_
  | with_reducible refine iteK_f ?_)
local macro_rules | `(tactic| walk_at "go") => `(tactic| repeat (walk_at "rd2"))
local macro_rules | `(tactic| walk_at "rd") => `(tactic| repeat (walk_at "rd1"))
local macro_rules | `(tactic| walk_at "at") => `(tactic| repeat (first | assumption | refine same_at' (by assumption) ?_))
local macro_rules | `(tactic| walk_at "sm") => `(tactic| repeat (first | exact Same.refl _ | assumption | refine Same.trans ?_ (by assumption)))
local macro_rules | `(tactic| walk_at "mk1") => `(tactic| first
  | with_reducible refine mk_new rfl fun _ _ _ _ _ _ => ?_
  | with_reducible refine lstK rfl fun _ _ _ _ _ => ?_
  | with_reducible refine tupK rfl fun _ _ _ _ _ => ?_
  | with_reducible refine mk_rule4 (SqL.of (by walk_at "at")) (SqL.of (by walk_at "at")) fun _ _ _ _ => ?_
  | with_reducible refine mk_rule (SqL.of (by walk_at "at")) (SqL.of (by walk_at "at")) fun _ _ _ _ => ?_
  | with_reducible refine c_refusal (SqL.of (by walk_at "at")) fun _ _ _ _ => ?_)
local macro_rules | `(tactic| walk_at "mk") => `(tactic| repeat (first | walk_at "rd2" | walk_at "mk1"))
local macro_rules | `(tactic| walk_at "ar1") => `(tactic| ((with_reducible refine r_I ?hh ?_); case hh => first | exact (show (0 : Int) < _ from by decide +kernel) | exact And.intro (by decide +kernel) (by decide +kernel) | exact Or.inr (And.intro (by decide +kernel) (by decide +kernel)) | exact Or.inl (And.intro (by decide +kernel) (by decide +kernel)) | exact And.intro (by decide +kernel) (And.intro (by decide +kernel) (by decide +kernel))))
local macro_rules | `(tactic| walk_at "ar") => `(tactic| repeat (first | walk_at "rd2" | walk_at "ar1"))

section
variable {P : Program} {w : World} {K : PySem.W.Frag} {mg : Str → Option Value} {base : Heap}
theorem inV_dec (x : Str) (xs : List Str) : inV (.str x) (xs.map V.str) = decide (x ∈ xs) := by
  by_cases h : x ∈ xs
  · rw [inV_yes h, decide_eq_true h]
  · rw [inV_no h, decide_eq_false h]
theorem filter_snoc {α : Type} (f : α → Bool) {l : List α} {i : Nat} {x : α} (h : l[i]? = some x) : (l.take (i + 1)).filter f = (l.take i).filter f ++ (if f x = true then [x] else []) := by
  rw [take_succ' h, List.filter_append]
  congr 1
  by_cases c : f x = true
  · rw [if_pos c, List.filter_cons_of_pos c]
    rfl
  · rw [if_neg c, List.filter_cons_of_neg c]
    rfl
def spOf (K : PySem.W.Frag) : Sp := fun vs H Q _ => ∃ v S q ks, vs = [v, .ref q] ∧ SpecAt K H v S ∧ S.rows.length ≤ 20 ∧ SqL K H q (ks.map V.str) ∧ ∀ p H', H p = none → Same H H' → H' p = some (.lst ((ofS S ks).map V.str)) → Q (.ref p) H'
theorem sc_law_of : FnScope ["_law_spec_here", "_law_kinds", "_law_name", "_law_kind", "_law_start"] ["_law_spec_here", "_law_kinds"] (defScope s_law_of) := ⟨rfl, rfl, rfl, by decide +kernel, rfl, by decide +kernel, by decide +kernel⟩
theorem ok_law_of (t : T K mg) : C8.Cal P w K mg base 1 "_law_of" (spOf K) [] := by
  refine cal t.f_law_of t.g_law_of sc_law_of (fun _ _ _ _ _ _ us hl => match us, hl with | [_, _], _ => rfl) (fun vs H Q E h => ?_) fun cdv A outer s H vs Q E hr h => ?_
  · obtain ⟨v, S, q, ks, rfl, _⟩ := h
    rfl
  · obtain ⟨v, S, q, ks, rfl, hS, hz, hq, k⟩ := h
    refine ⟨_, (pss_one (ps_ret (pe_lc (own := [("_law_name", 2), ("_law_kind", 3), ("_law_start", 4)]) (by rfl) sc_law_of.nd (pi_list' (K := K) rfl (pe_dget (hu_of hr) (L2.pv 0) pe_str (fun _ _ => rfl))) (blkOk_by (own := [("_law_name", 2), ("_law_kind", 3), ("_law_start", 4)]) (N := ["_law_spec_here", "_law_kinds", "_law_name", "_law_kind", "_law_start"]) (sc := defScope s_law_of) (by decide +kernel)) (fun _ _ _ _ _ => (pg_tup' (K := K) (n := 3) rfl (by rfl) (pgs_cons (pg_name (i := 2) sc_law_of.nd rfl (Or.inl rfl)) (pgs_cons (pg_name (i := 3) sc_law_of.nd rfl (Or.inl rfl)) (pgs_cons (pg_name (i := 4) sc_law_of.nd rfl (Or.inl rfl)) pgs_nil))))) (fun _ _ _ _ _ => (pts_one (pt_cmpR (op_in' (K := K) rfl) (L2.pv 3) (L2.pv 1) (by rfl)))) (fun _ _ _ _ _ => (L2.pv 2))))), ?_⟩
    walk_at "ar"
    refine sp_rows hS (Same.refl H) fun r rs h1 h2 => sqLK (.of h1) ?_
    have hl := h2.length
    refine lcL (fun ys i H' => ys = (((S.rows.take i).filter fun r : Rw => decide (r.kind ∈ ks)).map Rw.name).map V.str) (.of h1) rfl (fun _ _ _ => rfl) ?_ ?_
    · rintro D i x ys H2 m rfl hi
      obtain ⟨r1, hr1, p, rfl, hrow⟩ := paired_get' h2 hi
      have hlt := get_lt hr1
      have hle := List.length_filter_le (fun r : Rw => decide (r.kind ∈ ks)) (S.rows.take i)
      rw [List.length_take] at hle
      refine x_gtup (.of (m.same _ _ hrow)) rfl ?_
      walk_at "ar"
      refine r_inL (m.same.seq hq) rfl (flat_strs ks) ?_
      rw [if_neg Bool.false_ne_true, inV_dec]
      walk_at "ar"
      refine iteK (fun e => ?_) fun e => ?_
      · walk_at "ar"
        refine apK m (by simp only [List.length_map]; omega) ?_
        rw [filter_snoc _ hr1, if_pos e, List.map_append, List.map_append]
        rfl
      · refine skK m ?_
        rw [filter_snoc _ hr1, if_neg (by rw [e]; exact Bool.false_ne_true), List.append_nil]
    · rintro D H2 ys m rfl
      rw [hl, List.take_length] at m
      exact k D H2 m.nw m.same m.at_
def roomsS (S : Sc) : List Str := (S.rows.filter fun r : Rw => decide (r.kind = ("room" : Str))).map Rw.name
def waysS (S : Sc) : List Wy := match roomsS S with
  | [] => []
  | r :: t => [⟨r, "north", t.getLastD r⟩, ⟨r, "up", r⟩]
def spWays (K : PySem.W.Frag) : Sp := fun vs H Q _ => ∃ v S, vs = [v] ∧ SpecAt K H v S ∧ S.rows.length ≤ 20 ∧ roomsS S ≠ [] ∧ ∀ p H' ys, H p = none → Same H H' → H' p = some (.lst ys) → DpAll K H' ys ((waysS S).map wyD) → Q (.ref p) H'
theorem sc_law_ways : FnScope ["_law_spec_here", "_law_rooms", "_law_name", "_law_kind", "_law_start"] ["_law_spec_here"] (defScope s_law_ways) := ⟨rfl, rfl, rfl, by decide +kernel, rfl, by decide +kernel, by decide +kernel⟩
theorem ok_law_ways (t : T K mg) : C8.Cal P w K mg base 1 "_law_ways" (spWays K) [] := by
  refine cal t.f_law_ways t.g_law_ways sc_law_ways (fun _ _ _ _ _ _ us hl => match us, hl with | [_], _ => rfl) (fun vs H Q E h => ?_) fun cdv A outer s H vs Q E hr h => ?_
  · obtain ⟨v, S, rfl, _⟩ := h
    rfl
  · obtain ⟨v, S, rfl, hS, hz, hne, k⟩ := h
    refine ⟨_, (pss_cons (ps_setLc (i := 1) (own := [("_law_name", 2), ("_law_kind", 3), ("_law_start", 4)]) (by rfl) sc_law_ways.nd rfl rfl (sw_true rfl rfl rfl (by decide +kernel)) (pi_list' (K := K) rfl (pe_dget (hu_of hr) (L2.pv 0) pe_str (fun _ _ => rfl))) (blkOk_by (own := [("_law_name", 2), ("_law_kind", 3), ("_law_start", 4)]) (N := ["_law_spec_here", "_law_rooms", "_law_name", "_law_kind", "_law_start"]) (sc := defScope s_law_ways) (by decide +kernel)) (fun _ _ _ _ _ => (pg_tup' (K := K) (n := 3) rfl (by rfl) (pgs_cons (pg_name (i := 2) sc_law_ways.nd rfl (Or.inl rfl)) (pgs_cons (pg_name (i := 3) sc_law_ways.nd rfl (Or.inl rfl)) (pgs_cons (pg_name (i := 4) sc_law_ways.nd rfl (Or.inl rfl)) pgs_nil))))) (fun _ _ _ _ _ => (pts_one (pt_cmpR op_eq (L2.pv 3) pe_str (nomark _)))) (fun _ _ _ _ _ => (L2.pv 2)))
      (pss_one (ps_ret (pe_lst (pa_cons (pe_tup (pa_cons (pe_ix (ix_list' (K := K) rfl) (L2.pv 1) pe_int (fun _ _ => rfl)) (pa_cons pe_str (pa_cons (pe_ix (ix_list' (K := K) rfl) (L2.pv 1) (pe_op op_sub (pe_callB (cr_len (K := K) rfl) (by rfl) t.b_len (by decide +kernel) (pa_cons (L2.pv 1) pa_nil)) pe_int) (fun _ _ => rfl)) (pa_cons pe_non pa_nil))))) (pa_cons (pe_tup (pa_cons (pe_ix (ix_list' (K := K) rfl) (L2.pv 1) pe_int (fun _ _ => rfl)) (pa_cons pe_str (pa_cons (pe_ix (ix_list' (K := K) rfl) (L2.pv 1) pe_int (fun _ _ => rfl)) (pa_cons pe_non pa_nil))))) pa_nil)))))), ?_⟩
    walk_at "ar"
    refine sp_rows hS (Same.refl H) fun r rs h1 h2 => sqLK (.of h1) ?_
    have hl := h2.length
    refine lcL (fun ys i H' => ys = (((S.rows.take i).filter fun r : Rw => decide (r.kind = ("room" : Str))).map Rw.name).map V.str) (.of h1) rfl (fun _ _ _ => rfl) ?_ ?_
    · rintro D i x ys H2 m rfl hi
      obtain ⟨r1, hr1, p, rfl, hrow⟩ := paired_get' h2 hi
      have hlt := get_lt hr1
      have hle := List.length_filter_le (fun r : Rw => decide (r.kind = ("room" : Str))) (S.rows.take i)
      rw [List.length_take] at hle
      refine x_gtup (.of (m.same _ _ hrow)) rfl ?_
      walk_at "ar"
      have e0 : decide (V.str r1.kind = V.str "room") = decide (r1.kind = "room") := by
        by_cases c : r1.kind = "room"
        · rw [decide_eq_true c, decide_eq_true (congrArg V.str c)]
        · rw [decide_eq_false c, decide_eq_false fun z => c (by injection z)]
      rw [e0]
      refine iteK (fun e => ?_) fun e => ?_
      · walk_at "ar"
        refine apK m (by simp only [List.length_map]; omega) ?_
        rw [filter_snoc _ hr1, if_pos e, List.map_append, List.map_append]
        rfl
      · refine skK m ?_
        rw [filter_snoc _ hr1, if_neg (by rw [e]; exact Bool.false_ne_true), List.append_nil]
    · rintro D H2 ys m rfl
      rw [hl, List.take_length] at m
      have hm : H2 D = some (.lst ((roomsS S).map V.str)) := m.at_
      have ms := m.same
      have nD := m.nw
      clear m
      unfold waysS at k
      cases hR : roomsS S with
      | nil => exact absurd hR hne
      | cons r0 tl =>
        rw [hR] at hm k
        dsimp only at k
        have g0 : atI ((r0 :: tl).map V.str) 0 = some (.str r0) := at_map (f := V.str) (at_nat (by decide) rfl)
        have gl : atI ((r0 :: tl).map V.str) ((((r0 :: tl).map V.str).length : Nat) - 1 : Int) = some (.str (tl.getLastD r0)) := by
          refine at_map (f := V.str) (at_nat (by simp) ?_)
          rw [List.length_map, List.length_cons, show ((((tl.length + 1 : Nat) : Int) - 1)).toNat = tl.length from by omega]
          cases tl with
          | nil => rfl
          | cons t0 t1 =>
            rw [List.getElem?_cons]
            simp [List.getLastD_eq_getLast?, List.getLast?_eq_getElem?]
        walk_at "ar"
        refine r_ixL (.of hm) g0 ?_
        walk_at "ar"
        refine r_len (.of hm) ?_
        walk_at "ar"
        refine r_ixL (.of hm) gl ?_
        walk_at "ar"
        refine tupK rfl fun p3 H3 n3 s3 h3 => ?_
        walk_at "ar"
        refine r_ixL (.of (s3 _ _ hm)) g0 ?_
        walk_at "ar"
        refine r_ixL (.of (s3 _ _ hm)) g0 ?_
        walk_at "ar"
        refine tupK rfl fun p4 H4 n4 s4 h4 => ?_
        walk_at "ar"
        refine lstK rfl fun p5 H5 n5 s5 h5 => ?_
        refine k p5 H5 _ (Same.free (ms.trans (s3.trans s4)) n5) (ms.trans (s3.trans (s4.trans s5))) h5 ?_
        refine .cons (.tup (.of (s5 _ _ (s4 _ _ h3))) (.cons (.str _) (.cons (.str _) (.cons (.str _) (.cons .non .nil))))) (.cons (.tup (.of (s5 _ _ h4)) (.cons (.str _) (.cons (.str _) (.cons (.str _) (.cons .non .nil))))) .nil)
/-! ### the mosts -/
def mostsS (S : Sc) : List (Str × Int) := ((ofS S ["box", "lamp"]).map fun n => (n, 1)) ++ S.marks.map fun (m : M3) => (m.name, m.most)
def dkI (l : List (Str × Int)) : List (Key × V) := l.map fun e => (.inr e.1, .int e.2)
theorem valV_none' {kvs : List (Key × V)} {k : Key} (h : ∀ p ∈ kvs, p.1 ≠ k) : valV kvs k = none := by
  unfold valV
  rw [List.find?_eq_none.mpr fun p hp => by
    rw [decide_eq_true_iff]
    exact h p hp]
  rfl
theorem putI {l : List (Str × Int)} {k : Str} {n : Int} (h : k ∉ l.map Prod.fst) : putK (dkI l) (.inr k) (.int n) = dkI (l ++ [(k, n)]) := by
  rw [putK_new]
  · unfold dkI
    rw [List.map_append]
    rfl
  · refine valV_none' fun p hp => ?_
    obtain ⟨e, he, rfl⟩ := List.mem_map.mp hp
    intro z
    injection z with z
    exact h (List.mem_map.mpr ⟨e, he, z⟩)
theorem nodup_take {l : List Str} {i : Nat} {x : Str} (hd : l.Nodup) (h : l[i]? = some x) : x ∉ l.take i := by
  have h1 : (l.take (i + 1)).Nodup := List.Nodup.sublist (List.take_sublist _ _) hd
  rw [take_succ' h] at h1
  intro z
  exact (List.nodup_append.mp h1).2.2 x z x (List.mem_singleton.mpr rfl) rfl
def spMosts (K : PySem.W.Frag) : Sp := fun vs H Q _ => ∃ v S, vs = [v] ∧ SpecAt K H v S ∧ S.rows.length ≤ 20 ∧ S.marks.length ≤ 10 ∧ ((mostsS S).map Prod.fst).Nodup ∧ ∀ p H', H p = none → Same H H' → H' p = some (.dK (dkI (mostsS S))) → Q (.ref p) H'
theorem sc_law_mosts : FnScope ["_law_spec_here", "_law_mosts_here", "_law_name", "_law_start", "_law_most"] ["_law_spec_here"] (defScope s_law_mosts) := ⟨rfl, rfl, rfl, by decide +kernel, rfl, by decide +kernel, by decide +kernel⟩
theorem ok_law_mosts (t : T K mg) : C8.Cal P w K mg base 2 "_law_mosts" (spMosts K) [] := by
  have c_law_of := ok_law_of (P := P) (w := w) (base := base) t
  refine cal t.f_law_mosts t.g_law_mosts sc_law_mosts (fun _ _ _ _ _ _ us hl => match us, hl with | [_], _ => rfl) (fun vs H Q E h => ?_) fun cdv A outer s H vs Q E hr h => ?_
  · obtain ⟨v, S, rfl, _⟩ := h
    rfl
  · obtain ⟨v, S, rfl, hS, hz, hz2, hnd, k⟩ := h
    refine ⟨_, (pss_cons (ps_set (i := 1) sc_law_mosts.nd rfl (Or.inl rfl) pe_dnewK)
      (pss_cons (ps_for PassesOwn.never (by rfl) (pi_list' (K := K) rfl (C8.pe_c c_law_of hr (by decide) (by rfl) (pa_cons (L2.pv 0) (pa_cons (pe_lst (pa_cons pe_str (pa_cons pe_str pa_nil))) pa_nil)))) (pg_name (i := 2) sc_law_mosts.nd rfl (Or.inl rfl)) (pss_one (ps_dput (hu_of hr) (L2.pv 1) (L2.pv 2) pe_int rfl)))
      (pss_cons (ps_for PassesOwn.never (by rfl) (pi_list' (K := K) rfl (pe_dget (hu_of hr) (L2.pv 0) pe_str (fun _ _ => rfl))) (pg_tup' (K := K) (n := 3) rfl (by rfl) (pgs_cons (pg_name (i := 2) sc_law_mosts.nd rfl (Or.inl rfl)) (pgs_cons (pg_name (i := 3) sc_law_mosts.nd rfl (Or.inl rfl)) (pgs_cons (pg_name (i := 4) sc_law_mosts.nd rfl (Or.inl rfl)) pgs_nil)))) (pss_one (ps_dput (hu_of hr) (L2.pv 1) (L2.pv 2) (L2.pv 4) rfl)))
      (pss_one (ps_ret (L2.pv 1)))))), ?_⟩
    clear c_law_of
    have lo : (ofS S ["box", "lamp"]).length ≤ 20 := by
      unfold ofS
      rw [List.length_map]
      exact Nat.le_trans (List.length_filter_le _ _) hz
    walk_at "ar"
    refine x_dnewK fun D H1 nD s1 h1 => ?_
    walk_at "ar"
    refine lstK rfl fun q H2 n2 s2 h2 => ?_
    walk_at "ar"
    refine ⟨v, S, q, ["box", "lamp"], rfl, spec_mono (s1.trans s2) hS, hz, .of h2, fun p H3 n3 s3 h3 => sqLK (.of h3) ?_⟩
    unfold mostsS at k hnd
    generalize ofS S ["box", "lamp"] = os at k lo hnd h3
    have S12 := s1.trans (s2.trans s3)
    have hD3 := s3 _ _ (s2 _ _ h1)
    have pD : p ≠ D := fun z => by
      have := s2 _ _ h1
      rw [← z, n3] at this
      cases this
    have hp3 := del_at h3 pD
    rw [List.map_append, List.map_map, List.map_map] at hnd
    have hnd1 : os.Nodup := by
      have := (List.nodup_append.mp hnd).1
      rwa [show (Prod.fst ∘ fun n => ((n, 1) : Str × Int)) = id from rfl, List.map_id] at this
    refine forL (xs := os.map V.str) (fun i σ H' => (∃ o, σ = [some v, some (.ref D), o, none, none]) ∧ MkO H D H' (.dK (dkI ((os.take i).map fun n => (n, 1)))) ∧ Same (del D H3) (del D H')) ⟨⟨none, rfl⟩, mkO nD S12 hD3, Same.refl _⟩ (fun i σ H' _ ⟨_, _, s⟩ => .of (del_le _ _ (s _ _ hp3))) ?_ ?_
    · rintro i x σ H4 hi ⟨⟨o, rfl⟩, m, s⟩
      obtain ⟨n, hn, rfl⟩ := map_get hi
      have hlt := get_lt hn
      walk_at "ar"
      refine dpK_k m.at_ (by unfold dkI; simp only [List.length_map, List.length_take]; omega) ?_
      refine x_next ⟨⟨_, rfl⟩, ?_, by rw [del_upd]; exact s⟩
      rw [putI ?_, take_succ' hn, List.map_append]
      · exact m.upd
      · rw [List.map_map, show (Prod.fst ∘ fun n => ((n, 1) : Str × Int)) = id from rfl, List.map_id]
        exact nodup_take hnd1 hn
    rintro σ H4 ⟨⟨o, rfl⟩, m, _⟩
    rw [List.length_map, List.take_length] at m
    walk_at "ar"
    refine sp_marks hS m.same fun r rs g1 g2 => sqLK (.of (m.same _ _ g1)) ?_
    have lrs := g2.length
    refine forL (xs := rs) (fun i σ H' => (∃ o1 o2 o3, σ = [some v, some (.ref D), o1, o2, o3]) ∧ MkO H D H' (.dK (dkI ((os.map fun n => ((n, 1) : Str × Int)) ++ (S.marks.take i).map fun (m : M3) => (m.name, m.most))))) ⟨⟨_, _, _, rfl⟩, by rw [List.take_zero, List.map_nil, List.append_nil]; exact m⟩ (fun i σ H' _ ⟨_, m⟩ => .of (m.same _ _ g1)) ?_ ?_
    · rintro i x σ H5 hi ⟨⟨o1, o2, o3, rfl⟩, m⟩
      obtain ⟨mk, hm, b, rfl, hb⟩ := paired_get' g2 hi
      have hlt := get_lt hm
      refine x_gtup (.of (m.same _ _ hb)) rfl ?_
      walk_at "ar"
      refine dpK_k m.at_ (by unfold dkI; simp only [List.length_map, List.length_take, List.length_append]; omega) ?_
      refine x_next ⟨⟨_, _, _, rfl⟩, ?_⟩
      rw [putI ?_, take_succ' hm, List.map_append, List.append_assoc]
      · exact m.upd
      · have e : ((os.map fun n => ((n, 1) : Str × Int)) ++ (S.marks.take (i + 1)).map fun (m : M3) => (m.name, m.most)).map Prod.fst = ((os.map fun n => ((n, 1) : Str × Int)) ++ (S.marks.take i).map fun (m : M3) => (m.name, m.most)).map Prod.fst ++ [mk.name] := by
          rw [take_succ' hm]
          simp
        have sub : (((os.map fun n => ((n, 1) : Str × Int)) ++ (S.marks.take (i + 1)).map fun (m : M3) => (m.name, m.most)).map Prod.fst).Nodup := by
          refine List.Nodup.sublist ?_ hnd
          rw [List.map_append, List.map_map, List.map_map]
          exact List.Sublist.append (List.Sublist.refl _) ((List.take_sublist _ _).map _)
        rw [e] at sub
        intro z
        exact (List.nodup_append.mp sub).2.2 _ z _ (List.mem_singleton.mpr rfl) rfl
    · rintro σ H5 ⟨⟨o1, o2, o3, rfl⟩, m⟩
      rw [lrs, List.take_length] at m
      walk_at "ar"
      exact k D H5 m.nw m.same m.at_
end
end Tw
set_option maxHeartbeats 4000000
/-! The law's world. -/
namespace Tw
open PySem PySem.Spec L2
local macro_rules | `(tactic| walk_at "rd1") => `(tactic| first
  | with_reducible refine x_seq ?_
  | ((with_reducible refine x_var (v := ?vv) ?hh ?_); case hh => exact rfl)
  | with_reducible refine x_c ?_
  | with_reducible refine x_op ?_
  | with_reducible refine x_fld ?_
  | with_reducible refine x_call ?_
  | with_reducible refine x_meth ?_
  | with_reducible refine x_make ?_
  | with_reducible refine x_cb ?_
  | with_reducible refine x_tup ?_
  | with_reducible refine x_lst ?_
  | with_reducible refine x_nil ?_
  | with_reducible refine x_cons ?_
  | with_reducible refine x_asg ?_
  | with_reducible refine x_name ?_
  | with_reducible refine x_ret ?_
  | with_reducible refine x_retN ?_
  | with_reducible refine x_drop ?_
  | with_reducible refine x_ifS ?_
  | with_reducible refine x_if ?_
  | with_reducible refine x_andV ?_
  | with_reducible refine x_orV ?_
  | with_reducible refine x_notV ?_
  | with_reducible refine x_test ?_
  | with_reducible refine x_tB ?_
  | with_reducible refine x_and ?_
  | with_reducible refine x_or ?_
  | with_reducible refine x_not ?_
  | with_reducible refine x_yes ?_
  | with_reducible refine x_next ?_
  | with_reducible refine x_sfld ?_
  | with_reducible refine blK ?_
  | with_reducible refine r_I0 ?_
  | with_reducible refine r_isN ?_
  | with_reducible refine r_notN ?_
  | ((with_reducible refine r_eq ?hh ?_); case hh => exact rfl)
  | ((with_reducible refine r_ne ?hh ?_); case hh => exact rfl)
  | with_reducible refine x_gnil ?_
  | with_reducible refine x_gcons ?_)
local macro_rules | `(tactic| walk_at "rd2") => `(tactic| first
  | walk_at "rd1"
  | with_reducible refine x_lc ?_
  | with_reducible refine x_for ?_
  | with_reducible refine x_itup ?_
  | with_reducible refine x_ilist ?_
  | with_reducible refine x_rng1 ?_
  | with_reducible refine x_bm ?_
  | with_reducible refine x_chain ?_
  | with_reducible refine x_istr ?_
  | with_reducible refine strK ?_
  | with_reducible refine x_sl ?_
  | with_reducible refine x_part ?_
  | with_reducible refine x_noPart ?_
  | with_reducible refine poK ?_
  | ((with_reducible refine ltK ?hh ?_); case hh => exact rfl)
  | ((with_reducible refine ltKx ?hh ?_); case hh => exact rfl)
  | with_reducible refine x_dput ?_
  | with_reducible refine x_dget ?_
  | with_reducible refine iteK_t ?_
  | with_reducible refine iteK_nf ?_
  | with_reducible refine iteK_nt ?_
  | with_reducible refine iteK_f ?_)
local macro_rules | `(tactic| walk_at "go") => `(tactic| repeat (walk_at "rd2"))
local macro_rules | `(tactic| walk_at "rd") => `(tactic| repeat (walk_at "rd1"))
local macro_rules | `(tactic| walk_at "at") => `(tactic| repeat (first | assumption | refine same_at' (by assumption) ?_))
local macro_rules | `(tactic| walk_at "sm") => `(tactic| repeat (first | exact Same.refl _ | assumption | refine Same.trans ?_ (by assumption)))
local macro_rules | `(tactic| walk_at "mk1") => `(tactic| first
  | with_reducible refine mk_new rfl fun _ _ _ _ _ _ => ?_
  | with_reducible refine lstK rfl fun _ _ _ _ _ => ?_
  | with_reducible refine tupK rfl fun _ _ _ _ _ => ?_
  | with_reducible refine mk_rule4 (SqL.of (by walk_at "at")) (SqL.of (by walk_at "at")) fun _ _ _ _ => ?_
  | with_reducible refine mk_rule (SqL.of (by walk_at "at")) (SqL.of (by walk_at "at")) fun _ _ _ _ => ?_
  | with_reducible refine c_refusal (SqL.of (by walk_at "at")) fun _ _ _ _ => ?_)
local macro_rules | `(tactic| walk_at "mk") => `(tactic| repeat (first | walk_at "rd2" | walk_at "mk1"))
local macro_rules | `(tactic| walk_at "ar1") => `(tactic| ((with_reducible refine r_I ?hh ?_); case hh => first | exact (show (0 : Int) < _ from by decide +kernel) | exact And.intro (by decide +kernel) (by decide +kernel) | exact Or.inr (And.intro (by decide +kernel) (by decide +kernel)) | exact Or.inl (And.intro (by decide +kernel) (by decide +kernel)) | exact And.intro (by decide +kernel) (And.intro (by decide +kernel) (by decide +kernel))))
local macro_rules | `(tactic| walk_at "ar") => `(tactic| repeat (first | walk_at "rd2" | walk_at "ar1"))

def thS (S : Sc) : List Th := List.zipWith (fun (r : Rw) ws => ⟨r.name, ws, r.kind, r.start⟩) S.rows S.words
def wdS (S : Sc) : Wd := ⟨thS S, S.marks, S.dark, waysS S⟩
section
variable {K : PySem.W.Frag} {σ : L2.St} {H : Hp} {tA : TA}
def ZipK (K : PySem.W.Frag) (vs : List V) (H1 : Hp) (R : It → Hp → Prop) : Prop := ∃ a b xs ys, vs = [.ref a, .ref b] ∧ SqL K H1 a xs ∧ SqL K H1 b ys ∧ R (Itz K a b) H1
theorem x_izip {R : It → Hp → Prop} (q : tA σ H fun vs H1 => ZipK K vs H1 R) : iZip K tA σ H R := q
theorem pi_zip' {X : Cx} {e e2 : Expr} {ta : TA} {p pos tpos : Pos} {elts : List Expr} {kk : Nat} (hK : X.K = K) (hg : Gl X "zip") (hm : X.mg "zip" = none) (ha : PA X [e, e2] ta)
    (hs : starEach [e, e2] X.env = (false, eval e X.env) :: starEach [e2] X.env := by rfl) (hpl : (backTo pos (starEach [e2] X.env)).any (·.1) = false := by rfl) :
    PI X (.Tuple elts kk tpos) (.Call (.Name "zip" p) [e, e2] [] pos) (iZip K ta) := hK ▸ pi_zip hg hm ha hs hpl
end
section
variable {P : Program} {w : World} {K : PySem.W.Frag} {mg : Str → Option Value} {base : Heap}
theorem ways_len (S : Sc) : (waysS S).length ≤ 2 := by
  unfold waysS
  split <;> simp
def spWd (K : PySem.W.Frag) : Sp := fun vs H Q _ => ∃ v S, vs = [v] ∧ SpecAt K H v S ∧ S.rows.length ≤ 20 ∧ S.words.length = S.rows.length ∧ S.marks.length ≤ 10 ∧ S.dark.length ≤ 10 ∧ roomsS S ≠ [] ∧ GoodW (wdS S) ∧ ∀ p H', H p = none → Same H H' → WorldAt K H' (.ref p) (wdS S) → Q (.ref p) H'
theorem sc_law_world : FnScope ["_law_spec_here", "_law_things", "_law_marks_here", "_law_row", "_law_words", "_law_name", "_law_start", "_law_most"] ["_law_spec_here"] (defScope s_law_world) := ⟨rfl, rfl, rfl, by decide +kernel, rfl, by decide +kernel, by decide +kernel⟩
theorem ok_law_world (t : T K mg) : C8.Cal P w K mg base 8 "_law_world" (spWd K) [] := by
  have c_Thing := ok_Thing (P := P) (w := w) (base := base) t
  have c_Mark := ok_Mark (P := P) (w := w) (base := base) t
  have c_World := ok_World (P := P) (w := w) (base := base) t
  have c_law_ways := ok_law_ways (P := P) (w := w) (base := base) t
  refine cal t.f_law_world t.g_law_world sc_law_world (fun _ _ _ _ _ _ us hl => match us, hl with | [_], _ => rfl) (fun vs H Q E h => ?_) fun cdv A outer s H vs Q E hr h => ?_
  · obtain ⟨v, S, rfl, _⟩ := h
    rfl
  · obtain ⟨v, S, rfl, hS, hz, hw, hm, hd, hne, hG, k⟩ := h
    refine ⟨_, (pss_cons (ps_setLc (i := 1) (own := [("_law_row", 3), ("_law_words", 4)]) (by rfl) sc_law_world.nd rfl rfl (sw_true rfl rfl rfl (by decide +kernel)) (pi_zip' (K := K) rfl (by rfl) t.b_zip (pa_cons (pe_dget (hu_of hr) (L2.pv 0) pe_str (fun _ _ => rfl)) (pa_cons (pe_dget (hu_of hr) (L2.pv 0) pe_str (fun _ _ => rfl)) pa_nil))) (blkOk_by (own := [("_law_row", 3), ("_law_words", 4)]) (N := ["_law_spec_here", "_law_things", "_law_marks_here", "_law_row", "_law_words", "_law_name", "_law_start", "_law_most"]) (sc := defScope s_law_world) (by decide +kernel)) (fun _ _ _ _ _ => (pg_tup' (K := K) (n := 2) rfl (by rfl) (pgs_cons (pg_name (i := 3) sc_law_world.nd rfl (Or.inl rfl)) (pgs_cons (pg_name (i := 4) sc_law_world.nd rfl (Or.inl rfl)) pgs_nil)))) (fun _ _ _ _ _ => pts_nil) (fun _ _ _ _ _ => (C8.pe_mk c_Thing hr (by decide) (by rfl) (pa_cons (pe_ix (ix_tup' (K := K) rfl) (L2.pv 3) pe_int (fun _ _ => rfl)) (pa_cons (L2.pv 4) (pa_cons (pe_ix (ix_tup' (K := K) rfl) (L2.pv 3) pe_int (fun _ _ => rfl)) (pa_cons (pe_ix (ix_tup' (K := K) rfl) (L2.pv 3) pe_int (fun _ _ => rfl)) pa_nil)))))))
      (pss_cons (ps_setLc (i := 2) (own := [("_law_name", 5), ("_law_start", 6), ("_law_most", 7)]) (by rfl) sc_law_world.nd rfl rfl (sw_true rfl rfl rfl (by decide +kernel)) (pi_list' (K := K) rfl (pe_dget (hu_of hr) (L2.pv 0) pe_str (fun _ _ => rfl))) (blkOk_by (own := [("_law_name", 5), ("_law_start", 6), ("_law_most", 7)]) (N := ["_law_spec_here", "_law_things", "_law_marks_here", "_law_row", "_law_words", "_law_name", "_law_start", "_law_most"]) (sc := defScope s_law_world) (by decide +kernel)) (fun _ _ _ _ _ => (pg_tup' (K := K) (n := 3) rfl (by rfl) (pgs_cons (pg_name (i := 5) sc_law_world.nd rfl (Or.inl rfl)) (pgs_cons (pg_name (i := 6) sc_law_world.nd rfl (Or.inl rfl)) (pgs_cons (pg_name (i := 7) sc_law_world.nd rfl (Or.inl rfl)) pgs_nil))))) (fun _ _ _ _ _ => pts_nil) (fun _ _ _ _ _ => (C8.pe_mk c_Mark hr (by decide) (by rfl) (pa_cons (L2.pv 5) (pa_cons (L2.pv 6) (pa_cons (L2.pv 7) pa_nil))))))
      (pss_one (ps_ret (C8.pe_mk c_World hr (by decide) (by rfl) (pa_cons (L2.pv 1) (pa_cons (L2.pv 2) (pa_cons (pe_callTy (cr_list (K := K) rfl) (by rfl) t.b_list (by decide +kernel) (pa_cons (pe_dget (hu_of hr) (L2.pv 0) pe_str (fun _ _ => rfl)) pa_nil)) (pa_cons (C8.pe_c c_law_ways hr (by decide) (by rfl) (pa_cons (L2.pv 0) pa_nil)) (pa_cons (pe_lst pa_nil) (pa_cons (pe_lst pa_nil) pa_nil))))))))))), ?_⟩
    clear c_Thing c_Mark c_World c_law_ways
    walk_at "ar"
    refine x_izip ?_
    walk_at "ar"
    refine sp_rows hS (Same.refl H) fun r rs h1 h2 => ?_
    walk_at "ar"
    refine sp_words hS (Same.refl H) fun u us h3 h4 => ?_
    walk_at "ar"
    have l2 := h2.length
    have l4 := h4.length
    refine ⟨r, u, rs, us, rfl, .of h1, .of h3, ?_⟩
    refine lcW (walk_zip (n := S.rows.length) (xs := rs) (ys := us) (by omega)) (fun H' s => ⟨s.seq (.of h1), s.seq (.of h3)⟩) (fun ys i H' => Paired (ThingAt K H') ys ((thS S).take i)) .nil (fun _ _ _ => .nil) ?_ ?_
    · rintro D i x ys H2 H3 m f hi ⟨T, x1, y1, rfl, hT, rfl, hx, hy⟩
      obtain ⟨r1, hr1, b, rfl, hb⟩ := paired_get' h2 hx
      obtain ⟨ws, hws, q, rfl, hq⟩ := paired_get' h4 hy
      have sT := same_new (H := H2) (o := .tup [.ref b, .ref q]) hT
      have lf := f.length
      rw [List.length_take] at lf
      refine x_gtup (.of upd_same) rfl ?_
      have hb3 := sT _ _ (m.same _ _ hb)
      walk_at "ar"
      refine r_ixT (i := 0) (.of hb3) rfl ?_
      walk_at "ar"
      refine r_ixT (i := 1) (.of hb3) rfl ?_
      walk_at "ar"
      refine r_ixT (i := 2) (.of hb3) rfl ?_
      walk_at "ar"
      refine mk_new rfl fun p H4 dx np s4 h4' => ?_
      have hth : ThingAt K H4 (.ref p) ⟨r1.name, ws, r1.kind, r1.start⟩ := ⟨p, dx, q, rfl, h4', same_sqt (m.same.trans (sT.trans s4)) hq⟩
      have m4 := m.grow (sT.trans s4)
      refine apK m4 (by omega) ?_
      have ht : (thS S)[i]? = some ⟨r1.name, ws, r1.kind, r1.start⟩ := by
        unfold thS
        rw [List.getElem?_zipWith, hr1, hws]
      rw [take_succ' ht]
      exact paired_app (Paired.mapP f fun _ _ g => thing_mono (del_mono (sT.trans s4)) g) (.cons (del_thing m4.at_ hth) .nil)
    rintro D1 H2 ts m1 f1
    rw [List.take_of_length_le (by unfold thS; rw [List.length_zipWith]; omega)] at f1
    have s2 := m1.same
    have f2 := Paired.mapP f1 fun _ _ g => thing_mono del_le g
    have n1 := m1.nw
    have hD1 := m1.at_
    clear m1 f1
    walk_at "ar"
    refine sp_marks hS s2 fun mq ms g1 g2 => sqLK (.of (s2 _ _ g1)) ?_
    have lg := g2.length
    refine lcL (fun ys i H' => Paired (MarkAt K H') ys (S.marks.take i)) (.of (s2 _ _ g1)) .nil (fun _ _ _ => .nil) ?_ ?_
    · rintro D i x ys H3 m f hi
      obtain ⟨mk, hmk, b, rfl, hb⟩ := paired_get' g2 hi
      have lf := f.length
      rw [List.length_take] at lf
      refine x_gtup (.of (m.same _ _ (s2 _ _ hb))) rfl ?_
      walk_at "ar"
      refine mk_new rfl fun p H4 dx np s4 h4' => ?_
      have m4 := m.grow s4
      refine apK m4 (by omega) ?_
      rw [take_succ' hmk]
      exact paired_app (Paired.mapP f fun _ _ g => mark_mono (del_mono s4) g) (.cons (del_mark m4.at_ ⟨p, dx, rfl, h4'⟩) .nil)
    rintro D2 H3 ms2 m2 f3
    rw [lg, List.take_length] at f3
    have s3 := m2.same
    have f4 := Paired.mapP f3 fun _ _ g => mark_mono del_le g
    have hD2 := m2.at_
    clear m2 f3
    have S3 := s2.trans s3
    walk_at "ar"
    refine sp_dark hS S3 fun dq e1 => ?_
    walk_at "ar"
    refine r_list (.of (S3 _ _ e1)) fun p4 H4 n4 s4 h4 => ?_
    have S4 := S3.trans s4
    walk_at "ar"
    refine ⟨v, S, rfl, spec_mono S4 hS, hz, hne, fun p5 H5 wys n5 s5 h5 d5 => ?_⟩
    walk_at "ar"
    refine lstK rfl fun p6 H6 n6 s6 h6 => ?_
    walk_at "ar"
    refine lstK rfl fun p7 H7 n7 s7 h7 => ?_
    walk_at "ar"
    have s37 := s4.trans (s5.trans (s6.trans s7))
    have hH : Hand K H7 D1 D2 p4 p5 p6 p7 ts ms2 wys (wdS S) :=
      ⟨.of (s37 _ _ (s3 _ _ hD1)), Paired.mapP f2 fun _ _ g => thing_mono (s3.trans s37) g, .of (s37 _ _ hD2), Paired.mapP f4 fun _ _ g => mark_mono s37 g, .of (s7 _ _ (s6 _ _ (s5 _ _ h4))), .of (s7 _ _ (s6 _ _ h5)), dpAll_mono (s6.trans s7) d5, .of (s7 _ _ h6), .of h7,
        by show (thS S).length ≤ 20; unfold thS; rw [List.length_zipWith]; omega, hm, hd, Nat.le_trans (ways_len S) (by decide)⟩
    refine mk_world hH hG fun p8 H8 n8 s8 hw8 => ?_
    exact k p8 H8 (Same.free (S3.trans s37) n8) (S3.trans (s37.trans s8)) hw8
end
end Tw
set_option maxHeartbeats 4000000
/-! Chains; where things are. -/
namespace Tw
open PySem PySem.Spec L2
inductive Cf (f : Str → Option Str) : Str → List Str → Prop
  | nil {x : Str} : f x = none → Cf f x []
  | cons {x y : Str} {l : List Str} : f x = some y → Cf f y l → Cf f x (y :: l)
section
variable {f : Str → Option Str} {x y n q : Str} {l l' : List Str}
theorem cf_det (h : Cf f x l) : ∀ {l'}, Cf f x l' → l = l' := by
  induction h with
  | nil h =>
    intro l' k
    cases k with
    | nil => rfl
    | cons k _ => rw [h] at k; cases k
  | cons h _ ih =>
    intro l' k
    cases k with
    | nil k => rw [h] at k; cases k
    | cons k k2 =>
      rw [h] at k
      cases k
      rw [ih k2]
theorem cf_sub (h : Cf f x l) : ∀ {z}, z ∈ x :: l → ∃ l', Cf f z l' ∧ l'.length ≤ l.length := by
  induction h with
  | nil h =>
    intro z hz
    rw [List.mem_singleton.mp hz]
    exact ⟨[], .nil h, Nat.le_refl _⟩
  | cons h k ih =>
    intro z hz
    rcases List.mem_cons.mp hz with rfl | hz
    · exact ⟨_, .cons h k, Nat.le_refl _⟩
    · obtain ⟨l', a, b⟩ := ih hz
      exact ⟨l', a, Nat.le_trans b (Nat.le_succ _)⟩
theorem cf_nodup (h : Cf f x l) : (x :: l).Nodup := by
  induction h with
  | nil h => simp
  | @cons x y l h k ih =>
    refine List.nodup_cons.mpr ⟨fun z => ?_, ih⟩
    obtain ⟨l', a, b⟩ := cf_sub k z
    have := cf_det a (.cons h k)
    rw [this, List.length_cons] at b
    omega
theorem nodup_len : ∀ {l m : List Str}, l.Nodup → (∀ x ∈ l, x ∈ m) → l.length ≤ m.length
  | [], _, _, _ => Nat.zero_le _
  | x :: l, m, h, k => by
    have h1 := List.nodup_cons.mp h
    have hm := k x List.mem_cons_self
    have := nodup_len (l := l) (m := m.erase x) h1.2 fun z hz => (List.mem_erase_of_ne fun e => h1.1 (by rw [← e]; exact hz)).mpr (k z (List.mem_cons_of_mem _ hz))
    rw [List.length_erase_of_mem hm] at this
    have : 0 < m.length := List.length_pos_of_mem hm
    rw [List.length_cons]
    omega
theorem cf_keys (h : Cf f x l) : ∃ m : List Str, m.length = l.length ∧ m.Nodup ∧ (∀ z ∈ m, f z ≠ none) ∧ ∀ z ∈ m, z ∈ x :: l := by
  induction h with
  | nil h => exact ⟨[], rfl, List.nodup_nil, fun z h => absurd h (by simp), fun z h => absurd h (by simp)⟩
  | @cons x y l h k ih =>
    obtain ⟨m, h1, h2, h3, h4⟩ := ih
    have nd := List.nodup_cons.mp (cf_nodup (.cons h k))
    refine ⟨x :: m, by rw [List.length_cons, h1, List.length_cons], List.nodup_cons.mpr ⟨fun z => nd.1 (h4 x z), h2⟩, fun z hz => ?_, fun z hz => ?_⟩
    · rcases List.mem_cons.mp hz with rfl | hz
      · rw [h]; exact fun e => by cases e
      · exact h3 z hz
    · rcases List.mem_cons.mp hz with rfl | hz
      · exact List.mem_cons_self
      · exact List.mem_cons_of_mem _ (h4 z hz)
theorem cf_len {ks : List Str} (hk : ∀ x, f x ≠ none → x ∈ ks) (h : Cf f x l) : l.length ≤ ks.length := by
  obtain ⟨m, h1, h2, h3, _⟩ := cf_keys h
  rw [← h1]
  exact nodup_len h2 fun z hz => hk z (h3 z hz)
theorem cf_same {g : Str → Option Str} (h : Cf f x l) : (∀ z ∈ x :: l, g z = f z) → Cf g x l := by
  induction h with
  | nil h => exact fun e => .nil (by rw [e _ List.mem_cons_self]; exact h)
  | cons h k ih => exact fun e => .cons (by rw [e _ List.mem_cons_self]; exact h) (ih fun z hz => e z (List.mem_cons_of_mem _ hz))
/-- n is put at q -/
def atPut (f : Str → Option Str) (n q : Str) : Str → Option Str := fun x => if x = n then some q else f x
theorem cf_put (h : ∀ x, ∃ l, Cf f x l) (hq : q ≠ n) (hl : Cf f q l) (hn : n ∉ l) : ∀ x, ∃ l, Cf (atPut f n q) x l := by
  have hl' : Cf (atPut f n q) q l := cf_same hl fun z hz => by
    unfold atPut
    rw [if_neg fun e => ?_]
    subst e
    rcases List.mem_cons.mp hz with e | hz
    · exact hq e.symm
    · exact hn hz
  intro x
  obtain ⟨lx, hx⟩ := h x
  induction hx with
  | @nil x hx =>
    by_cases e : x = n
    · exact ⟨_, .cons (by unfold atPut; rw [if_pos e]) hl'⟩
    · exact ⟨_, .nil (by unfold atPut; rw [if_neg e]; exact hx)⟩
  | @cons x y l2 hx k ih =>
    by_cases e : x = n
    · exact ⟨_, .cons (by unfold atPut; rw [if_pos e]) hl'⟩
    · obtain ⟨l3, h3⟩ := ih
      exact ⟨_, .cons (by unfold atPut; rw [if_neg e]; exact hx) h3⟩
end
/-! ### maps from names to names -/
abbrev AtM := List (Str × Str)
def atv (M : AtM) (x : Str) : Option Str := (M.find? fun e => decide (e.1 = x)).map Prod.snd
theorem atv_none {M : AtM} {x : Str} : atv M x = none ↔ x ∉ M.map Prod.fst := by
  unfold atv
  rw [Option.map_eq_none_iff, List.find?_eq_none]
  constructor
  · intro h z
    obtain ⟨e, he, rfl⟩ := List.mem_map.mp z
    exact h e he (decide_eq_true rfl)
  · intro h e he z
    exact h (List.mem_map.mpr ⟨e, he, of_decide_eq_true z⟩)
theorem atv_mem {M : AtM} {x y : Str} (h : atv M x = some y) : (x, y) ∈ M := by
  unfold atv at h
  obtain ⟨e, h1, h2⟩ := Option.map_eq_some_iff.mp h
  have := List.mem_of_find?_eq_some h1
  have e1 := List.find?_some h1
  have e2 : e.1 = x := of_decide_eq_true e1
  rw [← e2, ← h2]
  exact this
theorem atv_of {M : AtM} {x y : Str} (nd : (M.map Prod.fst).Nodup) (h : (x, y) ∈ M) : atv M x = some y := by
  induction M with
  | nil => cases h
  | cons e r ih =>
    rw [List.map_cons] at nd
    have nd := List.nodup_cons.mp nd
    unfold atv
    by_cases c : e.1 = x
    · rw [List.find?_cons]
      simp only [decide_eq_true c]
      rcases List.mem_cons.mp h with h | h
      · rw [← h]; rfl
      · exact absurd (List.mem_map.mpr ⟨_, h, c.symm⟩) nd.1
    · rw [List.find?_cons]
      simp only [decide_eq_false c]
      rcases List.mem_cons.mp h with h | h
      · exact absurd (by rw [← h]) c
      · exact ih nd.2 h
theorem atv_snoc {M : AtM} {n q : Str} (h : n ∉ M.map Prod.fst) : atv (M ++ [(n, q)]) = atPut (atv M) n q := by
  funext x
  unfold atPut
  by_cases e : x = n
  · rw [if_pos e]
    subst e
    have hn := atv_none.mpr h
    unfold atv at hn ⊢
    rw [List.find?_append, Option.map_eq_none_iff.mp hn]
    simp
  · rw [if_neg e]
    unfold atv
    rw [List.find?_append]
    cases M.find? fun e => decide (e.1 = x) with
    | some e => rfl
    | none =>
      have : ¬ n = x := fun z => e z.symm
      simp [this]
def dkS (M : AtM) : List (Key × V) := M.map fun e => (.inr e.1, .str e.2)
theorem putS' {M : AtM} {k v : Str} (h : k ∉ M.map Prod.fst) : putK (dkS M) (.inr k) (.str v) = dkS (M ++ [(k, v)]) := by
  rw [putK_new]
  · unfold dkS
    rw [List.map_append]
    rfl
  · refine valV_none' fun p hp => ?_
    obtain ⟨e, he, rfl⟩ := List.mem_map.mp hp
    intro z
    injection z with z
    exact h (List.mem_map.mpr ⟨e, he, z⟩)
/-- what the law asks of a spec -/
structure SpOk (S : Sc) : Prop where
  z : S.rows.length ≤ 20
  nd : (S.rows.map Rw.name).Nodup
  ok : ∀ r ∈ S.rows, OkS r.name
  rm : roomsS S ≠ []
  yu : ∀ r ∈ S.rows, r.kind = "you" ↔ r.name = S.you
  yi : S.you ∈ S.rows.map Rw.name
  kd : ∀ r ∈ S.rows, r.kind ∈ kinds
  mo : ((mostsS S).map Prod.fst).Nodup
  mz : S.marks.length ≤ 10
  mks : ∀ m ∈ S.marks, OkS m.name
def nonroom : List Str := ["plain", "fixed", "box", "lamp", "you"]
def holders3 : List Str := ["room", "box", "you"]
theorem mem_of {S : Sc} {ks : List Str} {n : Str} : n ∈ ofS S ks ↔ ∃ r ∈ S.rows, r.name = n ∧ r.kind ∈ ks := by
  unfold ofS
  constructor
  · intro h
    obtain ⟨r, h1, h2⟩ := List.mem_map.mp h
    have := List.mem_filter.mp h1
    exact ⟨r, this.1, h2, of_decide_eq_true this.2⟩
  · rintro ⟨r, h1, h2, h3⟩
    exact List.mem_map.mpr ⟨r, List.mem_filter.mpr ⟨h1, decide_eq_true h3⟩, h2⟩
theorem mem_rooms {S : Sc} {n : Str} : n ∈ roomsS S ↔ n ∈ ofS S ["room"] := by
  rw [mem_of]
  unfold roomsS
  constructor
  · intro h
    obtain ⟨r, h1, h2⟩ := List.mem_map.mp h
    have := List.mem_filter.mp h1
    exact ⟨r, this.1, h2, by rw [of_decide_eq_true this.2]; exact List.mem_singleton.mpr rfl⟩
  · rintro ⟨r, h1, h2, h3⟩
    exact List.mem_map.mpr ⟨r, List.mem_filter.mpr ⟨h1, decide_eq_true (List.mem_singleton.mp h3)⟩, h2⟩
theorem of_rooms {S : Sc} : ofS S ["room"] = roomsS S := by
  unfold ofS roomsS
  congr 1
  refine List.filter_congr fun r _ => ?_
  by_cases c : r.kind = "room"
  · rw [decide_eq_true c, decide_eq_true (by rw [c]; exact List.mem_singleton.mpr rfl)]
  · rw [decide_eq_false c, decide_eq_false fun z => c (List.mem_singleton.mp z)]
theorem of_nodup {S : Sc} (h : SpOk S) (ks : List Str) : (ofS S ks).Nodup := List.Nodup.sublist ((List.filter_sublist).map _) h.nd
theorem row_eq {S : Sc} (h : SpOk S) {r r' : Rw} (h1 : r ∈ S.rows) (h2 : r' ∈ S.rows) (e : r.name = r'.name) : r = r' := by
  have : ∀ l : List Rw, (l.map Rw.name).Nodup → r ∈ l → r' ∈ l → r = r' := by
    intro l
    induction l with
    | nil => intro _ h; cases h
    | cons x t ih =>
      intro nd a b
      rw [List.map_cons] at nd
      have nd2 := List.nodup_cons.mp nd
      rcases List.mem_cons.mp a with ea | a
      · rcases List.mem_cons.mp b with eb | b
        · rw [ea, eb]
        · exact absurd (List.mem_map.mpr ⟨_, b, by rw [← e, ea]⟩) nd2.1
      · rcases List.mem_cons.mp b with eb | b
        · exact absurd (List.mem_map.mpr ⟨_, a, by rw [e, eb]⟩) nd2.1
        · exact ih nd2.2 a b
  exact this _ h.nd h1 h2
theorem of_disj {S : Sc} (h : SpOk S) {n : Str} {ks ks' : List Str} (h1 : n ∈ ofS S ks) (h2 : n ∈ ofS S ks') : ∃ k, k ∈ ks ∧ k ∈ ks' := by
  obtain ⟨r, a, b, c⟩ := mem_of.mp h1
  obtain ⟨r', a', b', c'⟩ := mem_of.mp h2
  have := row_eq h a a' (b.trans b'.symm)
  subst this
  exact ⟨_, c, c'⟩
theorem of_len {S : Sc} (h : SpOk S) (ks : List Str) : (ofS S ks).length ≤ 20 := by
  unfold ofS
  rw [List.length_map]
  exact Nat.le_trans (List.length_filter_le _ _) h.z
/-- where all things are -/
structure AtOk (S : Sc) (M : AtM) : Prop where
  nd : (M.map Prod.fst).Nodup
  ks : ∀ n, n ∈ M.map Prod.fst ↔ n ∈ ofS S nonroom
  vs : ∀ e ∈ M, e.2 ∈ ofS S holders3
  vy : ∀ e ∈ M, e.1 = S.you → e.2 ∈ roomsS S
  fin : ∀ x, ∃ l, Cf (atv M) x l
/-- a map that is being made: all that is put is put at what can hold already -/
structure Lay (hs : List Str) (M : AtM) : Prop where
  nd : (M.map Prod.fst).Nodup
  vs : ∀ e ∈ M, e.2 ∈ hs
  fin : ∀ x, ∃ l, Cf (atv M) x l
theorem lay_nil {hs : List Str} : Lay hs [] := ⟨List.nodup_nil, fun e h => absurd h (by simp), fun x => ⟨[], .nil rfl⟩⟩
theorem cf_in {M : AtM} {hs : List Str} (h : ∀ e ∈ M, e.2 ∈ hs) {x : Str} {l : List Str} (c : Cf (atv M) x l) : ∀ z ∈ l, z ∈ hs := by
  induction c with
  | nil _ => exact fun z hz => absurd hz (by simp)
  | cons c _ ih =>
    intro z hz
    rcases List.mem_cons.mp hz with rfl | hz
    · exact h _ (atv_mem c)
    · exact ih z hz
theorem lay_snoc {hs hs' : List Str} {M : AtM} {n q : Str} (L : Lay hs M) (hn : n ∉ M.map Prod.fst) (hh : n ∉ hs) (hq : q ∈ hs) (sub : ∀ x ∈ hs, x ∈ hs') : Lay hs' (M ++ [(n, q)]) := by
  refine ⟨?_, fun e he => ?_, ?_⟩
  · rw [List.map_append]
    refine List.nodup_append.mpr ⟨L.nd, by simp, fun a ha b hb => ?_⟩
    have : b = n := by simpa using hb
    rw [this]
    exact fun z => hn (by rw [← z]; exact ha)
  · rcases List.mem_append.mp he with he | he
    · exact sub _ (L.vs e he)
    · rw [List.mem_singleton.mp he]
      exact sub _ hq
  · rw [atv_snoc hn]
    obtain ⟨l, hl⟩ := L.fin q
    exact cf_put L.fin (fun z => hh (by rw [← z]; exact hq)) hl fun z => hh (cf_in L.vs hl n z)
end Tw
set_option maxHeartbeats 4000000
/-! Places and marks, drawn. -/
namespace Tw
open PySem PySem.Spec L2
local macro_rules | `(tactic| walk_at "rd1") => `(tactic| first
  | with_reducible refine x_seq ?_
  | ((with_reducible refine x_var (v := ?vv) ?hh ?_); case hh => exact rfl)
  | with_reducible refine x_c ?_
  | with_reducible refine x_op ?_
  | with_reducible refine x_fld ?_
  | with_reducible refine x_call ?_
  | with_reducible refine x_meth ?_
  | with_reducible refine x_make ?_
  | with_reducible refine x_cb ?_
  | with_reducible refine x_tup ?_
  | with_reducible refine x_lst ?_
  | with_reducible refine x_nil ?_
  | with_reducible refine x_cons ?_
  | with_reducible refine x_asg ?_
  | with_reducible refine x_name ?_
  | with_reducible refine x_ret ?_
  | with_reducible refine x_retN ?_
  | with_reducible refine x_drop ?_
  | with_reducible refine x_ifS ?_
  | with_reducible refine x_if ?_
  | with_reducible refine x_andV ?_
  | with_reducible refine x_orV ?_
  | with_reducible refine x_notV ?_
  | with_reducible refine x_test ?_
  | with_reducible refine x_tB ?_
  | with_reducible refine x_and ?_
  | with_reducible refine x_or ?_
  | with_reducible refine x_not ?_
  | with_reducible refine x_yes ?_
  | with_reducible refine x_next ?_
  | with_reducible refine x_sfld ?_
  | with_reducible refine blK ?_
  | with_reducible refine r_I0 ?_
  | with_reducible refine r_isN ?_
  | with_reducible refine r_notN ?_
  | ((with_reducible refine r_eq ?hh ?_); case hh => exact rfl)
  | ((with_reducible refine r_ne ?hh ?_); case hh => exact rfl)
  | with_reducible refine x_gnil ?_
  | with_reducible refine x_gcons ?_)
local macro_rules | `(tactic| walk_at "rd2") => `(tactic| first
  | walk_at "rd1"
  | with_reducible refine x_lc ?_
  | with_reducible refine x_for ?_
  | with_reducible refine x_itup ?_
  | with_reducible refine x_ilist ?_
  | with_reducible refine x_rng1 ?_
  | with_reducible refine x_bm ?_
  | with_reducible refine x_chain ?_
  | with_reducible refine x_istr ?_
  | with_reducible refine strK ?_
  | with_reducible refine x_sl ?_
  | with_reducible refine x_part ?_
  | with_reducible refine x_noPart ?_
  | with_reducible refine poK ?_
  | ((with_reducible refine ltK ?hh ?_); case hh => exact rfl)
  | ((with_reducible refine ltKx ?hh ?_); case hh => exact rfl)
  | with_reducible refine x_dput ?_
  | with_reducible refine x_dget ?_
  | with_reducible refine iteK_t ?_
  | with_reducible refine iteK_nf ?_
  | with_reducible refine iteK_nt ?_
  | with_reducible refine iteK_f ?_)
local macro_rules | `(tactic| walk_at "go") => `(tactic| repeat (walk_at "rd2"))
local macro_rules | `(tactic| walk_at "rd") => `(tactic| repeat (walk_at "rd1"))
local macro_rules | `(tactic| walk_at "at") => `(tactic| repeat (first | assumption | refine same_at' (by assumption) ?_))
local macro_rules | `(tactic| walk_at "sm") => `(tactic| repeat (first | exact Same.refl _ | assumption | refine Same.trans ?_ (by assumption)))
local macro_rules | `(tactic| walk_at "mk1") => `(tactic| first
  | with_reducible refine mk_new rfl fun _ _ _ _ _ _ => ?_
  | with_reducible refine lstK rfl fun _ _ _ _ _ => ?_
  | with_reducible refine tupK rfl fun _ _ _ _ _ => ?_
  | with_reducible refine mk_rule4 (SqL.of (by walk_at "at")) (SqL.of (by walk_at "at")) fun _ _ _ _ => ?_
  | with_reducible refine mk_rule (SqL.of (by walk_at "at")) (SqL.of (by walk_at "at")) fun _ _ _ _ => ?_
  | with_reducible refine c_refusal (SqL.of (by walk_at "at")) fun _ _ _ _ => ?_)
local macro_rules | `(tactic| walk_at "mk") => `(tactic| repeat (first | walk_at "rd2" | walk_at "mk1"))
local macro_rules | `(tactic| walk_at "ar1") => `(tactic| ((with_reducible refine r_I ?hh ?_); case hh => first | exact (show (0 : Int) < _ from by decide +kernel) | exact And.intro (by decide +kernel) (by decide +kernel) | exact Or.inr (And.intro (by decide +kernel) (by decide +kernel)) | exact Or.inl (And.intro (by decide +kernel) (by decide +kernel)) | exact And.intro (by decide +kernel) (And.intro (by decide +kernel) (by decide +kernel))))
local macro_rules | `(tactic| walk_at "ar") => `(tactic| repeat (first | walk_at "rd2" | walk_at "ar1"))

section
variable {K : PySem.W.Frag} {H : Hp} {Q : VK}
theorem r_popAt {l : Addr} {xs : List V} {i : Int} {y : V} (h : H l = some (.lst xs)) (h0 : 0 ≤ i) (h1 : i < xs.length) (hz : xs.length ≤ 1000) (hy : xs[i.toNat]? = some y) (q : Q y (upd H l (.lst (xs.eraseIdx i.toNat)))) : rPopAt (.ref l) [.int i] H Q := by
  refine ⟨l, xs, i, i.toNat, y, rfl, rfl, h, by omega, by omega, ?_, hy, q⟩
  have e : ¬ i < 0 := by omega
  unfold seqIndex?
  simp only [if_neg e, decide_eq_true h0, decide_eq_true h1, Bool.and_self, if_true]
theorem erase_map (l : List Str) (i : Nat) : (l.map V.str).eraseIdx i = (l.eraseIdx i).map V.str := by
  rw [List.eraseIdx_eq_take_drop_succ, List.eraseIdx_eq_take_drop_succ, List.map_append, List.map_take, List.map_drop]
theorem erase_perm {l : List Str} {i : Nat} {b : Str} (h : l[i]? = some b) : (b :: l.eraseIdx i).Perm l := by
  have e : l = l.take i ++ b :: l.drop (i + 1) := by
    have := List.take_append_drop (i + 1) l
    rw [take_succ' h, List.append_assoc] at this
    exact this.symm
  rw [List.eraseIdx_eq_take_drop_succ]
  conv => rhs; rw [e]
  exact List.perm_middle.symm
theorem strs_dp : ∀ xs : List Str, DpAll K H (xs.map V.str) (xs.map PyData.str)
  | [] => .nil
  | n :: r => .cons (.str n) (strs_dp r)
theorem eqv_snil (xs : List Str) : PyData.eqv (.list (xs.map PyData.str)) (.list []) = xs.isEmpty := by
  cases xs <;> simp [PyData.eqv, PyData.eqvAll]
theorem xs_upd {D a : Addr} {o : HO} (h : XsAt H a) (n : D ≠ a) : XsAt (upd H D o) a := by
  obtain ⟨ns, e1, e2⟩ := h
  exact ⟨ns, by rw [upd_ne (Ne.symm n)]; exact e1, e2⟩
theorem xs_ne {D a : Addr} (h : XsAt H a) (n : H D = none) : D ≠ a := fun z => by
  obtain ⟨ns, e1, _⟩ := h
  rw [← z, n] at e1
  cases e1
theorem ne_new {D p : Addr} {o : HO} (h : H D = some o) (n : H p = none) : p ≠ D := fun z => by
  rw [← z, n] at h
  cases h
end
section
variable {P : Program} {w : World} {K : PySem.W.Frag} {mg : Str → Option Value} {base : Heap}
def spPlaces (K : PySem.W.Frag) : Sp := fun vs H Q _ => ∃ v S a, vs = [v, .ref a] ∧ XsAt H a ∧ SpecAt K (del a H) v S ∧ SpOk S ∧ ∀ p H' M, H p = none → Xst a H H' → del a H' p = some (.dK (dkS M)) → AtOk S M → Q (.ref p) H'
theorem sc_law_places : FnScope ["_law_spec_here", "_law_xs", "_law_at", "_law_holders", "_law_boxes", "_law_box", "_law_name", "_law_rooms"] ["_law_spec_here", "_law_xs"] (defScope s_law_places) := ⟨rfl, rfl, rfl, by decide +kernel, rfl, by decide +kernel, by decide +kernel⟩
theorem ok_law_places (t : T K mg) : C8.Cal P w K mg base 2 "_law_places" (spPlaces K) [] := by
  have c_law_take := ok_law_take (P := P) (w := w) (base := base) t
  have c_law_of := ok_law_of (P := P) (w := w) (base := base) t
  refine cal t.f_law_places t.g_law_places sc_law_places (fun _ _ _ _ _ _ us hl => match us, hl with | [_, _], _ => rfl) (fun vs H Q E h => ?_) fun cdv A outer s H vs Q E hr h => ?_
  · obtain ⟨v, S, a, rfl, _⟩ := h
    rfl
  · obtain ⟨v, S, a, rfl, hx, hS, ok, k⟩ := h
    refine ⟨_, (pss_cons (ps_set (i := 2) sc_law_places.nd rfl (Or.inl rfl) pe_dnewK)
      (pss_cons (ps_set (i := 3) sc_law_places.nd rfl (Or.inl rfl) (C8.pe_c c_law_of hr (by decide) (by rfl) (pa_cons (L2.pv 0) (pa_cons (pe_lst (pa_cons pe_str (pa_cons pe_str pa_nil))) pa_nil))))
      (pss_cons (ps_set (i := 4) sc_law_places.nd rfl (Or.inl rfl) (C8.pe_c c_law_of hr (by decide) (by rfl) (pa_cons (L2.pv 0) (pa_cons (pe_lst (pa_cons pe_str pa_nil)) pa_nil))))
      (pss_cons (ps_while PassesOwn.never (pt_cmpR (op_neD' (K := K) rfl hr.units) (L2.pv 4) (pe_lst pa_nil) (nomark _)) (pss_cons (ps_set (i := 5) sc_law_places.nd rfl (Or.inl rfl) (pe_bm PySem.F.plainAttrs_list PySem.F.slot_list_pop PySem.F.type_list_pop mt_popAt (L2.pv 4) (pa_cons (C8.pe_c c_law_take hr (by decide) (by rfl) (pa_cons (L2.pv 1) (pa_cons (pe_callB (cr_len (K := K) rfl) (by rfl) t.b_len (by decide +kernel) (pa_cons (L2.pv 4) pa_nil)) pa_nil))) pa_nil)))
      (pss_cons (ps_dput (hu_of hr) (L2.pv 2) (L2.pv 5) (pe_ix (ix_list' (K := K) rfl) (L2.pv 3) (C8.pe_c c_law_take hr (by decide) (by rfl) (pa_cons (L2.pv 1) (pa_cons (pe_callB (cr_len (K := K) rfl) (by rfl) t.b_len (by decide +kernel) (pa_cons (L2.pv 3) pa_nil)) pa_nil))) (fun _ _ => rfl)) rfl)
      (pss_one (ps_expr (pe_bm PySem.F.plainAttrs_list PySem.F.slot_list_append PySem.F.type_list_append mt_append (L2.pv 3) (pa_cons (L2.pv 5) pa_nil)))))))
      (pss_cons (ps_for PassesOwn.never (by rfl) (pi_list' (K := K) rfl (C8.pe_c c_law_of hr (by decide) (by rfl) (pa_cons (L2.pv 0) (pa_cons (pe_lst (pa_cons pe_str (pa_cons pe_str (pa_cons pe_str pa_nil)))) pa_nil)))) (pg_name (i := 6) sc_law_places.nd rfl (Or.inl rfl)) (pss_one (ps_dput (hu_of hr) (L2.pv 2) (L2.pv 6) (pe_ix (ix_list' (K := K) rfl) (L2.pv 3) (C8.pe_c c_law_take hr (by decide) (by rfl) (pa_cons (L2.pv 1) (pa_cons (pe_callB (cr_len (K := K) rfl) (by rfl) t.b_len (by decide +kernel) (pa_cons (L2.pv 3) pa_nil)) pa_nil))) (fun _ _ => rfl)) rfl)))
      (pss_cons (ps_set (i := 7) sc_law_places.nd rfl (Or.inl rfl) (C8.pe_c c_law_of hr (by decide) (by rfl) (pa_cons (L2.pv 0) (pa_cons (pe_lst (pa_cons pe_str pa_nil)) pa_nil))))
      (pss_cons (ps_dput (hu_of hr) (L2.pv 2) (pe_dget (hu_of hr) (L2.pv 0) pe_str (fun _ _ => rfl)) (pe_ix (ix_list' (K := K) rfl) (L2.pv 7) (C8.pe_c c_law_take hr (by decide) (by rfl) (pa_cons (L2.pv 1) (pa_cons (pe_callB (cr_len (K := K) rfl) (by rfl) t.b_len (by decide +kernel) (pa_cons (L2.pv 7) pa_nil)) pa_nil))) (fun _ _ => rfl)) rfl)
      (pss_one (ps_ret (L2.pv 2)))))))))), ?_⟩
    clear c_law_take c_law_of
    have hSH := spec_mono del_le hS
    walk_at "ar"
    refine x_dnewK fun D H1 nD s1 h1 => ?_
    walk_at "ar"
    refine lstK rfl fun q H2 n2 s2 h2 => ?_
    walk_at "ar"
    refine ⟨v, S, q, ["room", "you"], rfl, spec_mono (s1.trans s2) hSH, ok.z, .of h2, fun L H3 nL s3 h3 => ?_⟩
    walk_at "ar"
    refine lstK rfl fun q4 H4 n4 s4 h4 => ?_
    walk_at "ar"
    refine ⟨v, S, q4, ["box"], rfl, spec_mono (s1.trans (s2.trans (s3.trans s4))) hSH, ok.z, .of h4, fun B H5 nB s5 h5 => ?_⟩
    have S5 := s1.trans (s2.trans (s3.trans (s4.trans s5)))
    have x5 := hx.grow S5
    have hD5 := s5 _ _ (s4 _ _ (s3 _ _ (s2 _ _ h1)))
    have hL5 := s5 _ _ (s4 _ _ h3)
    have aD := xs_ne hx nD
    have aL := xs_ne (hx.grow (s1.trans s2)) nL
    have aB := xs_ne (hx.grow (s1.trans (s2.trans (s3.trans s4)))) nB
    have LD := ne_new (s2 _ _ h1) nL
    have BD := ne_new (s4 _ _ (s3 _ _ (s2 _ _ h1))) nB
    have BL := ne_new (s4 _ _ h3) nB
    have base5 : Same (del a H) (but [a, D, L, B] H5) := by
      have g1 : Same (del a H) (but [a, D] H2) := by
        rw [← but_one (a := a)]
        exact (but_new (L := [a]) nD).trans ((but_sub (by simp)).trans (but_mono (s1.trans s2)))
      have g2 : Same (but [a, D] H2) (but [a, D, L] H4) := (but_new (L := [a, D]) nL).trans ((but_sub (by simp)).trans (but_mono (s3.trans s4)))
      have g3 : Same (but [a, D, L] H4) (but [a, D, L, B] H5) := (but_new (L := [a, D, L]) nB).trans ((but_sub (by simp)).trans (but_mono s5))
      exact g1.trans (g2.trans g3)
    clear s1 s2 s3 s4 s5 h1 h2 h3 h4 n2 n4 nL nB
    have hr0 : (ofS S ["room"]) ≠ [] := by rw [of_rooms]; exact ok.rm
    have l0 := of_len ok ["room", "you"]
    have lb := of_len ok ["box"]
    have h0pos : 1 ≤ (ofS S ["room", "you"]).length := by
      cases hq : roomsS S with
      | nil => exact absurd hq ok.rm
      | cons r0 _ =>
        obtain ⟨r, e1, e2, e3⟩ := mem_of.mp (mem_rooms.mp (show r0 ∈ roomsS S by rw [hq]; exact List.mem_cons_self))
        exact List.length_pos_of_mem (mem_of.mpr ⟨r, e1, e2, by rw [List.mem_singleton.mp e3]; simp⟩)
    have okb : ∀ ks, ∀ x ∈ ofS S ks, OkS x := fun ks x hx => by
      obtain ⟨r, e1, e2, e3⟩ := mem_of.mp hx
      rw [← e2]
      exact ok.ok r e1
    walk_at "ar"
    refine whK (fun m σ H2 => (∃ o, σ = [some v, some (.ref a), some (.ref D), some (.ref L), some (.ref B), o, none, none]) ∧ XsAt H2 a ∧ Same (but [a, D, L, B] H5) (but [a, D, L, B] H2) ∧ ∃ M bs, m = bs.length ∧ H2 D = some (.dK (dkS M)) ∧ H2 L = some (.lst ((ofS S ["room", "you"] ++ M.map Prod.fst).map V.str)) ∧ H2 B = some (.lst (bs.map V.str)) ∧
      Lay (ofS S ["room", "you"] ++ M.map Prod.fst) M ∧ (M.map Prod.fst ++ bs).Perm (ofS S ["box"])) (ofS S ["box"]).length ⟨⟨none, rfl⟩, x5, Same.refl _, [], _, rfl, hD5, by rw [List.map_nil, List.append_nil]; exact hL5, h5, lay_nil, .refl _⟩ ?_
    rintro m σ H6 ⟨⟨o, rfl⟩, x6, sm, M, bs, rfl, hD, hL, hB, lay, pm⟩
    have lpm := pm.length_eq
    rw [List.length_append] at lpm
    rw [List.length_map] at lpm
    walk_at "ar"
    refine lstK rfl fun p7 H7 n7 s7 h7 => ?_
    refine r_neD (.lst (.of (s7 _ _ hB)) (strs_dp bs)) (.lst (.of h7) .nil) (shaped_strs fun x hx => okb ["box"] x (pm.mem_iff.mp (List.mem_append.mpr (.inr hx)))) (by decide +kernel) ?_
    rw [eqv_snil]
    walk_at "ar"
    have x7 := x6.grow s7
    cases hbs : bs with
    | cons b0 bt =>
      refine wh_y rfl ?_
      rw [← hbs]
      have bpos : 0 < bs.length := by rw [hbs]; exact Nat.succ_pos _
      clear hbs b0 bt
      walk_at "ar"
      refine tyK_l (.of (s7 _ _ hB)) ?_
      walk_at "ar"
      refine r_len (.of (s7 _ _ hB)) ?_
      walk_at "ar"
      refine ⟨a, _, rfl, x7, by rw [List.length_map]; omega, fun i H8 x8 i0 i1 => ?_⟩
      rw [List.length_map] at i1
      obtain ⟨b, _, hbm, hbi⟩ := at_some (xs := bs) i0 i1
      have x68 : Xst a H6 H8 := (Xst.of x6 s7).trans x8
      have hB8 := x68.le _ _ (del_at hB aB)
      have hD8 := x68.le _ _ (del_at hD aD)
      have hL8 := x68.le _ _ (del_at hL aL)
      refine r_popAt hB8 i0 (by rw [List.length_map]; exact i1) (by rw [List.length_map]; omega) (y := .str b) (by rw [List.getElem?_map, hbi]; rfl) ?_
      have per := erase_perm hbi
      rw [erase_map]
      have x9 : XsAt (upd H8 B (.lst ((bs.eraseIdx i.toNat).map V.str))) a := xs_upd x8.xs aB
      have hB9 : upd H8 B (.lst ((bs.eraseIdx i.toNat).map V.str)) B = some (.lst ((bs.eraseIdx i.toNat).map V.str)) := upd_same
      have hD9 : upd H8 B (.lst ((bs.eraseIdx i.toNat).map V.str)) D = some (.dK (dkS M)) := by rw [upd_ne (Ne.symm BD)]; exact hD8
      have hL9 : upd H8 B (.lst ((bs.eraseIdx i.toNat).map V.str)) L = some (.lst ((ofS S ["room", "you"] ++ M.map Prod.fst).map V.str)) := by rw [upd_ne (Ne.symm BL)]; exact hL8
      have sm9 : Same (but [a, D, L, B] H5) (but [a, D, L, B] (upd H8 B (.lst ((bs.eraseIdx i.toNat).map V.str)))) := by
        rw [but_upd (by simp)]
        exact sm.trans (but_x (by simp) x68)
      generalize upd H8 B (.lst ((bs.eraseIdx i.toNat).map V.str)) = H9 at x9 hB9 hD9 hL9 sm9
      walk_at "ar"
      refine r_len (.of hL9) ?_
      walk_at "ar"
      refine ⟨a, _, rfl, x9, by rw [List.length_map, List.length_append]; omega, fun j H10 x10 j0 j1 => ?_⟩
      rw [List.length_map] at j1
      have hB10 := x10.le _ _ (del_at hB9 aB)
      have hD10 := x10.le _ _ (del_at hD9 aD)
      have hL10 := x10.le _ _ (del_at hL9 aL)
      obtain ⟨h, hh1, hh2, _⟩ := at_some (xs := ofS S ["room", "you"] ++ M.map Prod.fst) j0 j1
      refine r_ixL (.of hL10) (at_map (f := V.str) hh1) ?_
      walk_at "ar"
      refine dpK_k hD10 (by unfold dkS; rw [List.length_map]; omega) ?_
      have hnd : (M.map Prod.fst ++ bs).Nodup := pm.nodup_iff.mpr (of_nodup ok ["box"])
      have hbM : b ∉ M.map Prod.fst := fun z => (List.nodup_append.mp hnd).2.2 b z b hbm rfl
      have hbh : b ∉ ofS S ["room", "you"] ++ M.map Prod.fst := fun z => by
        rcases List.mem_append.mp z with z | z
        · obtain ⟨k, k1, k2⟩ := of_disj ok z (pm.mem_iff.mp (List.mem_append.mpr (.inr hbm)))
          rw [List.mem_singleton.mp k2] at k1
          exact absurd k1 (by decide +kernel)
        · exact hbM z
      rw [putS' hbM]
      walk_at "ar"
      have hL11 : upd H10 D (.dK (dkS (M ++ [(b, h)]))) L = some (.lst ((ofS S ["room", "you"] ++ M.map Prod.fst).map V.str)) := by rw [upd_ne LD]; exact hL10
      refine tyK_l (.of hL11) ?_
      walk_at "ar"
      refine r_app hL11 (by rw [List.length_map, List.length_append, List.length_map]; omega) ?_
      refine x_next ⟨(bs.eraseIdx i.toNat).length, ?_, ⟨_, rfl⟩, xs_upd (xs_upd x10.xs aD) aL, ?_, M ++ [(b, h)], _, rfl, ?_, ?_, ?_, ?_, ?_⟩
      · have := per.length_eq
        rw [List.length_cons] at this
        omega
      · rw [but_upd (by simp), but_upd (by simp)]
        exact sm9.trans (but_x (by simp) x10)
      · rw [upd_ne (Ne.symm LD)]
        exact upd_same
      · rw [upd_same, List.map_append, List.map_append, List.map_append, List.map_append, List.append_assoc]
        rfl
      · rw [upd_ne BL, upd_ne BD]
        exact hB10
      · rw [List.map_append, ← List.append_assoc]
        exact lay_snoc lay hbM hbh hh2 fun x hx => List.mem_append.mpr (.inl hx)
      · refine List.Perm.trans ?_ pm
        rw [List.map_append, List.append_assoc]
        exact List.Perm.append_left _ per
    | nil =>
      subst hbs
      refine wh_n rfl ?_
      rw [List.append_nil] at pm
      have x67 : Xst a H6 H7 := .of x6 s7
      have hD7 := s7 _ _ hD
      have hL7 := s7 _ _ hL
      have sm7 := sm.trans (but_mono s7)
      have B7 := base5.trans sm7
      clear hB sm x67 hD hL s7 h7 n7 base5
      have hS7 := spec_mono (B7.trans but_le) hS
      walk_at "ar"
      refine lstK rfl fun q8 H8 n8 s8 h8 => ?_
      walk_at "ar"
      refine ⟨v, S, q8, ["plain", "fixed", "lamp"], rfl, spec_mono s8 hS7, ok.z, .of h8, fun PL H9 nP s9 h9 => sqLK (.of h9) ?_⟩
      have x9 := x7.grow (s8.trans s9)
      have hD9 := s9 _ _ (s8 _ _ hD7)
      have hL9 := s9 _ _ (s8 _ _ hL7)
      have PD := ne_new (s8 _ _ hD7) nP
      have aP := xs_ne (x7.grow s8) nP
      have B9 : Same (del a H) (but [a, D, L, B] H9) := B7.trans (but_mono (s8.trans s9))
      have PB9 := del_at (del_at h9 PD) aP
      have lpl := of_len ok ["plain", "fixed", "lamp"]
      have kb : ∀ x, x ∈ M.map Prod.fst ↔ x ∈ ofS S ["box"] := fun x => pm.mem_iff
      have lM := pm.length_eq
      rw [List.length_map] at lM
      have hsm : ∀ x ∈ ofS S ["room", "you"] ++ M.map Prod.fst, x ∈ ofS S holders3 := fun x hx => by
        rcases List.mem_append.mp hx with hx | hx
        · obtain ⟨r, e1, e2, e3⟩ := mem_of.mp hx
          refine mem_of.mpr ⟨r, e1, e2, ?_⟩
          revert e3
          exact (by decide +kernel : ∀ k ∈ (["room", "you"] : List Str), k ∈ holders3) r.kind
        · obtain ⟨r, e1, e2, e3⟩ := mem_of.mp ((kb x).mp hx)
          refine mem_of.mpr ⟨r, e1, e2, ?_⟩
          rw [List.mem_singleton.mp e3]
          decide +kernel
      have lhs : (ofS S ["room", "you"] ++ M.map Prod.fst).length ≤ 40 := by rw [List.length_append, List.length_map]; omega
      have lhp : 1 ≤ (ofS S ["room", "you"] ++ M.map Prod.fst).length := by rw [List.length_append]; omega
      have hp0 : (M.map Prod.fst).Perm (ofS S ["box"] ++ (ofS S ["plain", "fixed", "lamp"]).take 0) := by rw [List.take_zero, List.append_nil]; exact pm
      generalize hH : ofS S ["room", "you"] ++ M.map Prod.fst = hs at hsm lhs lhp lay hL9
      refine forL (xs := (ofS S ["plain", "fixed", "lamp"]).map V.str) (fun i σ H2 => (∃ o', σ = [some v, some (.ref a), some (.ref D), some (.ref L), some (.ref B), o, o', none]) ∧ XsAt H2 a ∧ Same (del a (del D H9)) (del a (del D H2)) ∧ ∃ M, H2 D = some (.dK (dkS M)) ∧ Lay hs M ∧ (M.map Prod.fst).Perm (ofS S ["box"] ++ (ofS S ["plain", "fixed", "lamp"]).take i)) ⟨⟨none, rfl⟩, x9, Same.refl _, M, hD9, lay, hp0⟩
        (fun i σ H2 _ ⟨_, _, sm, _⟩ => .of (del_le _ _ (del_le _ _ (sm _ _ PB9)))) ?_ ?_
      · rintro i x σ H10 hi ⟨⟨o', rfl⟩, x10, sm, M2, hD10, lay2, pm2⟩
        obtain ⟨n, hn, rfl⟩ := map_get hi
        have hlt := get_lt hn
        have hL9' := del_at (del_at hL9 LD) aL
        have hL10 := del_le _ _ (of_del (sm _ _ hL9')).1
        have lM2 := pm2.length_eq
        rw [List.length_map, List.length_append, List.length_take] at lM2
        walk_at "ar"
        refine r_len (.of hL10) ?_
        walk_at "ar"
        refine ⟨a, _, rfl, x10, by rw [List.length_map]; omega, fun j H11 x11 j0 j1 => ?_⟩
        rw [List.length_map] at j1
        have hL11 := x11.le _ _ (del_at hL10 aL)
        have hD11 := x11.le _ _ (del_at hD10 aD)
        obtain ⟨h, hh1, hh2, _⟩ := at_some (xs := hs) j0 j1
        refine r_ixL (.of hL11) (at_map (f := V.str) hh1) ?_
        walk_at "ar"
        refine dpK_k hD11 (by unfold dkS; rw [List.length_map]; omega) ?_
        have hno : n ∈ ofS S ["plain", "fixed", "lamp"] := List.mem_of_getElem? hn
        have hnM : n ∉ M2.map Prod.fst := fun z => by
          rcases List.mem_append.mp (pm2.mem_iff.mp z) with z | z
          · obtain ⟨k, k1, k2⟩ := of_disj ok z hno
            rw [List.mem_singleton.mp k1] at k2
            exact absurd k2 (by decide +kernel)
          · exact nodup_take (of_nodup ok _) hn z
        have hnh : n ∉ hs := fun z => by
          obtain ⟨k, k1, k2⟩ := of_disj ok (hsm n z) hno
          exact absurd k2 ((by decide +kernel : ∀ k ∈ holders3, k ∉ (["plain", "fixed", "lamp"] : List Str)) k k1)
        rw [putS' hnM]
        refine x_next ⟨⟨_, rfl⟩, xs_upd x11.xs aD, ?_, _, upd_same, lay_snoc lay2 hnM hnh hh2 fun _ h => h, ?_⟩
        · have e : del a (del D (upd H11 D (.dK (dkS (M2 ++ [(n, h)]))))) = del a (del D H11) := by rw [del_upd]
          rw [e]
          have sw : ∀ K : Hp, del a (del D K) = del D (del a K) := fun K => by
            funext b
            unfold del
            by_cases c1 : b = a <;> by_cases c2 : b = D <;> simp [c1, c2]
          refine sm.trans ?_
          rw [sw, sw]
          exact del_mono x11.sm
        · rw [List.map_append, take_succ' hn, ← List.append_assoc]
          exact List.Perm.append_right _ pm2
      rintro σ H10 ⟨⟨o', rfl⟩, x10, sm, M2, hD10, lay2, pm2⟩
      rw [List.length_map, List.take_length] at pm2
      have B10 : Same (del a H) (del D (del a H10)) := by
        have sw : ∀ K : Hp, del a (del D K) = del D (del a K) := fun K => by
          funext b
          unfold del
          by_cases c1 : b = a <;> by_cases c2 : b = D <;> simp [c1, c2]
        have h1 : Same (del a H) (del D (del a H9)) := fun b o' h => by
          obtain ⟨g1, g2⟩ := of_but (B9 _ _ h)
          exact del_at (del_at g1 fun z => g2 (by rw [z]; simp)) fun z => g2 (by rw [z]; simp)
        rw [← sw] at h1 ⊢
        exact h1.trans sm
      have hS10 := spec_mono (B10.trans (del_le.trans del_le)) hS
      clear sm PB9 B9 hD9 hL9 hS7 B7 sm7 x9 x7 hL7 hD7
      walk_at "ar"
      refine lstK rfl fun q11 H11 n11 s11 h11 => ?_
      walk_at "ar"
      refine ⟨v, S, q11, ["room"], rfl, spec_mono s11 hS10, ok.z, .of h11, fun R H12 n12 s12 h12 => ?_⟩
      rw [of_rooms] at h12
      have s10 := s11.trans s12
      have x12 := x10.grow s10
      have hD12 := s10 _ _ hD10
      have aR := xs_ne (x10.grow s11) n12
      have rpos : 0 < (roomsS S).length := List.length_pos_iff.mpr ok.rm
      walk_at "ar"
      refine r_len (.of h12) ?_
      walk_at "ar"
      refine ⟨a, _, rfl, x12, by rw [List.length_map]; omega, fun j H13 x13 j0 j1 => ?_⟩
      rw [List.length_map] at j1
      obtain ⟨r, hr1, hr2, _⟩ := at_some (xs := roomsS S) j0 j1
      have hR13 := x13.le _ _ (del_at h12 aR)
      have hD13 := x13.le _ _ (del_at hD12 aD)
      refine r_ixL (.of hR13) (at_map (f := V.str) hr1) ?_
      walk_at "ar"
      have B13 : Same (del a H) (del D (del a H13)) := B10.trans ((del_mono (del_mono s10)).trans (del_mono x13.sm))
      refine sp_you (spec_mono (B13.trans (del_le.trans del_le)) hS) (Same.refl _) ?_
      have lM2 := pm2.length_eq
      rw [List.length_map, List.length_append] at lM2
      refine dpK_k hD13 (by unfold dkS; rw [List.length_map]; omega) ?_
      have hyo : S.you ∈ ofS S ["you"] := by
        obtain ⟨ry, e1, e2⟩ := List.mem_map.mp ok.yi
        exact mem_of.mpr ⟨ry, e1, e2, List.mem_singleton.mpr ((ok.yu ry e1).mpr e2)⟩
      have kM : ∀ x, x ∈ M2.map Prod.fst ↔ x ∈ ofS S ["box"] ∨ x ∈ ofS S ["plain", "fixed", "lamp"] := fun x => by
        rw [pm2.mem_iff, List.mem_append]
      have hyM : S.you ∉ M2.map Prod.fst := fun z => by
        rcases (kM _).mp z with z | z
        · obtain ⟨k, k1, k2⟩ := of_disj ok z hyo
          rw [List.mem_singleton.mp k2] at k1
          exact absurd k1 (by decide +kernel)
        · obtain ⟨k, k1, k2⟩ := of_disj ok z hyo
          rw [List.mem_singleton.mp k2] at k1
          exact absurd k1 (by decide +kernel)
      have hrM : r ∉ M2.map Prod.fst := fun z => by
        have hr3 := mem_rooms.mp hr2
        rcases (kM _).mp z with z | z
        · obtain ⟨k, k1, k2⟩ := of_disj ok z hr3
          rw [List.mem_singleton.mp k2] at k1
          exact absurd k1 (by decide +kernel)
        · obtain ⟨k, k1, k2⟩ := of_disj ok z hr3
          rw [List.mem_singleton.mp k2] at k1
          exact absurd k1 (by decide +kernel)
      have hry : r ≠ S.you := fun z => by
        obtain ⟨k, k1, k2⟩ := of_disj ok (mem_rooms.mp hr2) (by rw [z]; exact hyo)
        rw [List.mem_singleton.mp k1] at k2
        exact absurd k2 (by decide +kernel)
      rw [putS' hyM]
      walk_at "ar"
      refine k D _ (M2 ++ [(S.you, r)]) nD ⟨?_, xs_upd x13.xs aD⟩ ?_ ⟨?_, ?_, ?_, ?_, ?_⟩
      · have e : ∀ K : Hp, Same (del D (del a K)) (del a K) := fun K => del_le
        have g : Same (del a H) (del a H13) := B13.trans del_le
        intro b ob hb
        refine del_at ?_ (of_del hb).2
        rw [upd_ne fun z => ?_]
        · exact (of_del (g _ _ hb)).1
        · have := (of_del hb).1
          rw [z, nD] at this
          cases this
      · exact del_at upd_same aD
      · rw [List.map_append]
        refine List.nodup_append.mpr ⟨lay2.nd, by simp, fun x hx y hy => ?_⟩
        have : y = S.you := by simpa using hy
        rw [this]
        exact fun z => hyM (by rw [← z]; exact hx)
      · intro x
        rw [List.map_append, List.mem_append, kM]
        constructor
        · rintro ((z | z) | z)
          · obtain ⟨r, e1, e2, e3⟩ := mem_of.mp z
            exact mem_of.mpr ⟨r, e1, e2, by rw [List.mem_singleton.mp e3]; decide +kernel⟩
          · obtain ⟨r, e1, e2, e3⟩ := mem_of.mp z
            exact mem_of.mpr ⟨r, e1, e2, (by decide +kernel : ∀ k ∈ (["plain", "fixed", "lamp"] : List Str), k ∈ nonroom) _ e3⟩
          · have : x = S.you := by simpa using z
            rw [this]
            obtain ⟨r, e1, e2, e3⟩ := mem_of.mp hyo
            exact mem_of.mpr ⟨r, e1, e2, by rw [List.mem_singleton.mp e3]; decide +kernel⟩
        · intro z
          obtain ⟨r, e1, e2, e3⟩ := mem_of.mp z
          have : r.kind ∈ (["box"] : List Str) ∨ r.kind ∈ (["plain", "fixed", "lamp"] : List Str) ∨ r.kind = "you" := (by decide +kernel : ∀ k ∈ nonroom, k ∈ (["box"] : List Str) ∨ k ∈ (["plain", "fixed", "lamp"] : List Str) ∨ k = "you") _ e3
          rcases this with c | c | c
          · exact .inl (.inl (mem_of.mpr ⟨r, e1, e2, c⟩))
          · exact .inl (.inr (mem_of.mpr ⟨r, e1, e2, c⟩))
          · refine .inr ?_
            rw [← e2, (ok.yu r e1).mp c]
            simp
      · intro e he
        rcases List.mem_append.mp he with he | he
        · exact hsm _ (lay2.vs e he)
        · rw [List.mem_singleton.mp he]
          obtain ⟨r', e1, e2, e3⟩ := mem_of.mp (mem_rooms.mp hr2)
          exact mem_of.mpr ⟨r', e1, e2, by rw [List.mem_singleton.mp e3]; decide +kernel⟩
      · intro e he ey
        rcases List.mem_append.mp he with he | he
        · exact absurd (List.mem_map.mpr ⟨e, he, ey⟩) hyM
        · rw [List.mem_singleton.mp he]
          exact hr2
      · rw [atv_snoc hyM]
        exact cf_put lay2.fin hry (.nil (atv_none.mpr hrM)) (by simp)
end
end Tw
set_option maxHeartbeats 4000000
/-! Marks, drawn; has it a ring. -/
namespace Tw
open PySem PySem.Spec L2
local macro_rules | `(tactic| walk_at "rd1") => `(tactic| first
  | with_reducible refine x_seq ?_
  | ((with_reducible refine x_var (v := ?vv) ?hh ?_); case hh => exact rfl)
  | with_reducible refine x_c ?_
  | with_reducible refine x_op ?_
  | with_reducible refine x_fld ?_
  | with_reducible refine x_call ?_
  | with_reducible refine x_meth ?_
  | with_reducible refine x_make ?_
  | with_reducible refine x_cb ?_
  | with_reducible refine x_tup ?_
  | with_reducible refine x_lst ?_
  | with_reducible refine x_nil ?_
  | with_reducible refine x_cons ?_
  | with_reducible refine x_asg ?_
  | with_reducible refine x_name ?_
  | with_reducible refine x_ret ?_
  | with_reducible refine x_retN ?_
  | with_reducible refine x_drop ?_
  | with_reducible refine x_ifS ?_
  | with_reducible refine x_if ?_
  | with_reducible refine x_andV ?_
  | with_reducible refine x_orV ?_
  | with_reducible refine x_notV ?_
  | with_reducible refine x_test ?_
  | with_reducible refine x_tB ?_
  | with_reducible refine x_and ?_
  | with_reducible refine x_or ?_
  | with_reducible refine x_not ?_
  | with_reducible refine x_yes ?_
  | with_reducible refine x_next ?_
  | with_reducible refine x_sfld ?_
  | with_reducible refine blK ?_
  | with_reducible refine r_I0 ?_
  | with_reducible refine r_isN ?_
  | with_reducible refine r_notN ?_
  | ((with_reducible refine r_eq ?hh ?_); case hh => exact rfl)
  | ((with_reducible refine r_ne ?hh ?_); case hh => exact rfl)
  | with_reducible refine x_gnil ?_
  | with_reducible refine x_gcons ?_)
local macro_rules | `(tactic| walk_at "rd2") => `(tactic| first
  | walk_at "rd1"
  | with_reducible refine x_lc ?_
  | with_reducible refine x_for ?_
  | with_reducible refine x_itup ?_
  | with_reducible refine x_ilist ?_
  | with_reducible refine x_rng1 ?_
  | with_reducible refine x_bm ?_
  | with_reducible refine x_chain ?_
  | with_reducible refine x_istr ?_
  | with_reducible refine strK ?_
  | with_reducible refine x_sl ?_
  | with_reducible refine x_part ?_
  | with_reducible refine x_noPart ?_
  | with_reducible refine poK ?_
  | ((with_reducible refine ltK ?hh ?_); case hh => exact rfl)
  | ((with_reducible refine ltKx ?hh ?_); case hh => exact rfl)
  | with_reducible refine x_dput ?_
  | with_reducible refine x_dget ?_
  | with_reducible refine iteK_t ?_
  | with_reducible refine iteK_nf ?_
  | with_reducible refine iteK_nt ?_
  | with_reducible refine iteK_f ?_)
local macro_rules | `(tactic| walk_at "go") => `(tactic| repeat (walk_at "rd2"))
local macro_rules | `(tactic| walk_at "rd") => `(tactic| repeat (walk_at "rd1"))
local macro_rules | `(tactic| walk_at "at") => `(tactic| repeat (first | assumption | refine same_at' (by assumption) ?_))
local macro_rules | `(tactic| walk_at "sm") => `(tactic| repeat (first | exact Same.refl _ | assumption | refine Same.trans ?_ (by assumption)))
local macro_rules | `(tactic| walk_at "mk1") => `(tactic| first
  | with_reducible refine mk_new rfl fun _ _ _ _ _ _ => ?_
  | with_reducible refine lstK rfl fun _ _ _ _ _ => ?_
  | with_reducible refine tupK rfl fun _ _ _ _ _ => ?_
  | with_reducible refine mk_rule4 (SqL.of (by walk_at "at")) (SqL.of (by walk_at "at")) fun _ _ _ _ => ?_
  | with_reducible refine mk_rule (SqL.of (by walk_at "at")) (SqL.of (by walk_at "at")) fun _ _ _ _ => ?_
  | with_reducible refine c_refusal (SqL.of (by walk_at "at")) fun _ _ _ _ => ?_)
local macro_rules | `(tactic| walk_at "mk") => `(tactic| repeat (first | walk_at "rd2" | walk_at "mk1"))
local macro_rules | `(tactic| walk_at "ar1") => `(tactic| ((with_reducible refine r_I ?hh ?_); case hh => first | exact (show (0 : Int) < _ from by decide +kernel) | exact And.intro (by decide +kernel) (by decide +kernel) | exact Or.inr (And.intro (by decide +kernel) (by decide +kernel)) | exact Or.inl (And.intro (by decide +kernel) (by decide +kernel)) | exact And.intro (by decide +kernel) (And.intro (by decide +kernel) (by decide +kernel))))
local macro_rules | `(tactic| walk_at "ar") => `(tactic| repeat (first | walk_at "rd2" | walk_at "ar1"))

/-- what is read to a new dict is locked for good -/
def tFz (t : TE) : TE := fun σ H Q => t σ H fun v H1 => ∃ d u, v = .ref d ∧ H1 d = some u ∧ Mut (some u) ∧ ∀ od, Q (.ref d) (upd H1 d (.frz od u))
theorem pe_freeze {X : Cx} {e : Expr} {t : TE} (h : PE X e t) : PE X e (tFz t) := by
  refine ⟨fun pins s σ H Q I hw => ?_⟩
  refine thn (h.run pins s σ _ _ I hw) fun v s1 ⟨x, H1, I1, r, d, u, ex, hd, mu, q⟩ => ?_
  subst ex
  obtain ⟨od, I2⟩ := I1.lock hd mu
  exact ⟨.ref d, _, I2, r, q od⟩
section
variable {σ : L2.St} {H : Hp} {Q : VK} {t td : TE} {v : V}
def FzK (v : V) (H1 : Hp) (Q : VK) : Prop := ∃ d u, v = .ref d ∧ H1 d = some u ∧ Mut (some u) ∧ ∀ od, Q (.ref d) (upd H1 d (.frz od u))
theorem x_fz (q : t σ H fun v H1 => FzK v H1 Q) : tFz t σ H Q := q
theorem fzK {d : Addr} {kvs : List (Key × V)} (h : H d = some (.dK kvs)) (q : ∀ od, Q (.ref d) (upd H d (.frz od (.dK kvs)))) : FzK (.ref d) H Q := ⟨d, _, rfl, h, True.intro, q⟩
def ItemsK (x : V) (H1 : Hp) (R : It → Hp → Prop) : Prop := ∃ d o kvs, x = .ref d ∧ H1 d = some (.frz o (.dK kvs)) ∧ R (Iti d o kvs) H1
theorem x_items {R : It → Hp → Prop} (q : td σ H fun x H1 => ItemsK x H1 R) : iItems td σ H R := q
theorem itemsK {d : Addr} {o : Obj} {kvs : List (Key × V)} {R : It → Hp → Prop} (h : H d = some (.frz o (.dK kvs))) (q : R (Iti d o kvs) H) : ItemsK (.ref d) H R := ⟨d, o, kvs, rfl, h, q⟩
end
section
variable {P : Program} {w : World} {K : PySem.W.Frag} {mg : Str → Option Value} {base : Heap}
def spMarks (K : PySem.W.Frag) : Sp := fun vs H Q _ => ∃ v S a, vs = [v, .ref a] ∧ XsAt H a ∧ SpecAt K (del a H) v S ∧ SpOk S ∧ (∀ e ∈ mostsS S, 0 ≤ e.2) ∧ ∀ p H' MM, H p = none → Xst a H H' → del a H' p = some (.dK (dkI MM)) → MM.map Prod.fst = (mostsS S).map Prod.fst → Q (.ref p) H'
theorem sc_law_marks : FnScope ["_law_spec_here", "_law_xs", "_law_marks_here", "_law_name", "_law_most"] ["_law_spec_here", "_law_xs"] (defScope s_law_marks) := ⟨rfl, rfl, rfl, by decide +kernel, rfl, by decide +kernel, by decide +kernel⟩
theorem ok_law_marks (t : T K mg) : C8.Cal P w K mg base 3 "_law_marks" (spMarks K) [] := by
  have c_law_take := ok_law_take (P := P) (w := w) (base := base) t
  have c_law_mosts := ok_law_mosts (P := P) (w := w) (base := base) t
  refine cal t.f_law_marks t.g_law_marks sc_law_marks (fun _ _ _ _ _ _ us hl => match us, hl with | [_, _], _ => rfl) (fun vs H Q E h => ?_) fun cdv A outer s H vs Q E hr h => ?_
  · obtain ⟨v, S, a, rfl, _⟩ := h
    rfl
  · obtain ⟨v, S, a, rfl, hx, hS, ok, hpos, k⟩ := h
    refine ⟨_, (pss_cons (ps_set (i := 2) sc_law_marks.nd rfl (Or.inl rfl) pe_dnewK)
      (pss_cons (ps_for PassesOwn.never (by rfl) (pi_items (pe_freeze (C8.pe_c c_law_mosts hr (by decide) (by rfl) (pa_cons (L2.pv 0) pa_nil)))) (pg_tup' (K := K) (n := 2) rfl (by rfl) (pgs_cons (pg_name (i := 3) sc_law_marks.nd rfl (Or.inl rfl)) (pgs_cons (pg_name (i := 4) sc_law_marks.nd rfl (Or.inl rfl)) pgs_nil))) (pss_one (ps_dput (hu_of hr) (L2.pv 2) (L2.pv 3) (C8.pe_c c_law_take hr (by decide) (by rfl) (pa_cons (L2.pv 1) (pa_cons (pe_op op_add (L2.pv 4) pe_int) pa_nil))) rfl)))
      (pss_one (ps_ret (L2.pv 2))))), ?_⟩
    clear c_law_take c_law_mosts
    have hSH := spec_mono del_le hS
    walk_at "ar"
    refine x_dnewK fun D H1 nD s1 h1 => ?_
    walk_at "ar"
    refine x_items (x_fz ?_)
    walk_at "ar"
    refine ⟨v, S, rfl, spec_mono s1 hSH, ok.z, ok.mz, ok.mo, fun F H2 nF s2 h2 => fzK h2 fun od => itemsK upd_same ?_⟩
    have aD := xs_ne hx nD
    have aF := xs_ne (hx.grow s1) nF
    have FD := ne_new h1 nF
    have hD2 := s2 _ _ h1
    have lm : (mostsS S).length ≤ 30 := by
      unfold mostsS
      rw [List.length_append, List.length_map, List.length_map]
      have := of_len ok ["box", "lamp"]
      have := ok.mz
      omega
    have base2 : Same (del a H) (but [a, D, F] (upd H2 F (.frz od (.dK (dkI (mostsS S)))))) := by
      rw [but_upd (by simp), ← but_one (a := a)]
      have g1 : Same (but [a] H) (but [a, D] H1) := (but_new (L := [a]) nD).trans ((but_sub (by simp)).trans (but_mono s1))
      exact g1.trans ((but_new (L := [a, D]) nF).trans ((but_sub (by simp)).trans (but_mono s2)))
    refine forW (walk_items (d := F) (o := od) (kvs := dkI (mostsS S))) (fun i σ H' => (∃ o1 o2, σ = [some v, some (.ref a), some (.ref D), o1, o2]) ∧ XsAt H' a ∧ Same (del a H) (but [a, D, F] H') ∧ H' F = some (.frz od (.dK (dkI (mostsS S)))) ∧ ∃ MM, H' D = some (.dK (dkI MM)) ∧ MM.map Prod.fst = ((mostsS S).map Prod.fst).take i)
      ⟨⟨none, none, rfl⟩, xs_upd ((hx.grow s1).grow s2) aF, base2, upd_same, [], by rw [upd_ne (Ne.symm FD)]; exact hD2, rfl⟩ (fun i σ H' _ ⟨_, _, _, h, _⟩ => h) ?_ ?_
    · rintro i x σ H3 H4 hi ⟨⟨o1, o2, rfl⟩, x3, sm, hF, MM, hD, hM⟩ ⟨T, x1, y1, rfl, hT, rfl, hx1, hy1⟩
      have hi : i < (mostsS S).length := by
        unfold dkI at hi
        rwa [List.length_map] at hi
      have hg : (dkI (mostsS S))[i]? = some (.inr (mostsS S)[i].1, .int (mostsS S)[i].2) := by
        unfold dkI
        rw [List.getElem?_map, List.getElem?_eq_getElem hi]
        rfl
      have hx2 : Option.map (fun kv : Key × V => kV kv.1) (dkI (mostsS S))[i]? = some x1 := hx1
      have hy2 : Option.map Prod.snd (dkI (mostsS S))[i]? = some y1 := hy1
      rw [hg] at hx2 hy2
      obtain rfl : V.str (mostsS S)[i].1 = x1 := Option.some.inj hx2
      obtain rfl : V.int (mostsS S)[i].2 = y1 := Option.some.inj hy2
      clear hx1 hy1 hx2 hy2 hg
      have he := hpos _ (List.getElem_mem hi)
      have hn : ((mostsS S).map Prod.fst)[i]? = some (mostsS S)[i].1 := by rw [List.getElem?_map, List.getElem?_eq_getElem hi]; rfl
      generalize (mostsS S)[i] = e at he hn
      have sT := same_new (H := H3) (o := .tup [.str e.1, .int e.2]) hT
      have lM := congrArg List.length hM
      rw [List.length_map, List.length_take, List.length_map] at lM
      refine x_gtup (.of upd_same) rfl ?_
      walk_at "ar"
      refine ⟨a, _, rfl, x3.grow sT, by omega, fun u H5 x5 u0 u1 => ?_⟩
      have x35 : Xst a H3 H5 := (Xst.of x3 sT).trans x5
      have hD5 := x35.le _ _ (del_at hD aD)
      have hF5 := x35.le _ _ (del_at hF aF)
      walk_at "ar"
      refine dpK_k hD5 (by unfold dkI; rw [List.length_map]; omega) ?_
      have hnM : e.1 ∉ MM.map Prod.fst := by
        rw [hM]
        exact nodup_take ok.mo hn
      rw [putI hnM]
      refine x_next ⟨⟨_, _, rfl⟩, xs_upd x5.xs aD, ?_, by rw [upd_ne FD]; exact hF5, _, upd_same, ?_⟩
      · rw [but_upd (by simp)]
        exact sm.trans (but_x (by simp) x35)
      · rw [List.map_append, hM, take_succ' hn]
        rfl
    · rintro σ H3 ⟨⟨o1, o2, rfl⟩, x3, sm, hF, MM, hD, hM⟩
      have e : (dkI (mostsS S)).length = ((mostsS S).map Prod.fst).length := by unfold dkI; rw [List.length_map, List.length_map]
      rw [e, List.take_length] at hM
      walk_at "ar"
      exact k D H3 MM nD ⟨sm.trans (by rw [← but_one]; exact but_sub (by simp)), x3⟩ (del_at hD aD) hM
/-! ### rings -/
end
section
variable {X : Cx} {pins : List (Addr × Obj)} {σ : L2.St} {H : Hp} {s : Shared} {a : Addr} {A : Around} {E : Value → Shared → Prop}
/-- d.get(None), no key None -/
theorem d_getN {kvs : List (Key × V)} {Q : Value → Shared → Prop} (I : Inv X pins σ H s) (e : Rd H a (.dK kvs)) (h : ∀ s', Inv X pins σ H s' → Q .none s') : wpAny (model X.prog X.w) A (call (.builtin "dict.get") [.ref a, .none]) Q E s := by
  obtain ⟨z, hd, vs, rel, dd⟩ := dk_rd I.hok e
  obtain ⟨o, es, ep, ho, hc, hdat, hk, hp, hn⟩ := id dd
  refine call_meetsIn PySem.F.slot_dict_get dd.typeIs PySem.F.entry_dict_get (PySem.F.args_dict_get_2 _ _) (meets_dict_get (PySem.leafKind X.prog X.w) a (k := PySem.Leaf.none) rfl hd) ⟨fun k => findBy (PySem.leafKind X.prog X.w).is es k, ⟨o, es, ep, ho, hc, hdat, fun en hen => ?_, fun _ => rfl⟩, ?_⟩
  · obtain ⟨k, h1, h2⟩ := hk en hen
    rcases keyIs_shape h1 with ⟨i, t, rfl, ev⟩ | ⟨x, t, rfl, ev⟩
    · refine ⟨PySem.Leaf.num i, ?_, h2⟩
      rw [ev]
      exact decide_eq_true rfl
    · refine ⟨PySem.Leaf.text x, ?_, h2⟩
      rw [ev]
      exact (strKind_is X.prog X.w x t)
  · have e0 : findBy (PySem.leafKind X.prog X.w).is es PySem.Leaf.none = none := by
      unfold findBy
      rw [Option.map_eq_none_iff, Array.find?_eq_none]
      intro en hen
      obtain ⟨k, h1, h2⟩ := hk en hen
      rcases keyIs_shape h1 with ⟨i, t, rfl, ev⟩ | ⟨x, t, rfl, ev⟩
      · rw [ev]
        exact Bool.false_ne_true
      · rw [ev]
        exact Bool.false_ne_true
    show Q ((findBy (PySem.leafKind X.prog X.w).is es PySem.Leaf.none).getD .none) _
    rw [e0]
    exact h _ (I.tok _)
end
def DGN (x y : V) (H2 : Hp) (Q : VK) : Prop := ∃ a, x = .ref a ∧ ((∃ kvs, Rd H2 a (.dK kvs) ∧ y = .non ∧ Q .non H2) ∨ (∃ o, DGet H2 a y o ∧ Q (o.getD .non) H2))
def tDGetN (td ty : TE) : TE := fun σ H Q => td σ H fun x H1 => (∃ a, x = .ref a ∧ IsD H1 a) ∧ ty σ H1 fun y H2 => DGN x y H2 Q
theorem pe_dgetN {X : Cx} {o e : Expr} {apos cpos : Pos} {td ty : TE} (hu : X.A.units + 1 < cLine) (ho : PE X o td) (he : PE X e ty) (m : M1 X o "get" apos e cpos) : PE X (.Call (.Attribute o "get" apos) [e] [] cpos) (tDGetN td ty) := by
  refine ⟨fun pins s σ H Q I h => ?_⟩
  refine wpAny_Call_method m.base m.few m.line PySem.F.plainAttrs_dict PySem.F.slot_dict_get PySem.F.type_dict_get (thn (ho.run pins s σ H _ I h) fun u s1 ⟨x, H1, I1, rx, ⟨a, ex, d⟩, q1⟩ => ?_)
  subst ex
  obtain rfl : u = Value.ref a := rx
  obtain ⟨t1, t2, _⟩ := isD_at I1 d
  refine ⟨t1, t2, ?_⟩
  rw [m.trees]
  refine Calls.callWith_builtin rfl (Calls.evalArgs_plain (Calls.spliced_cons (thn (he.run pins s1 σ H1 _ I1 q1) fun iv s2 ⟨y, H2, I2, ry, a', ea, g⟩ => Calls.spliced_nil ?_)))
  cases ea
  rcases g with ⟨kvs, g, ey, q2⟩ | ⟨ov, g, q2⟩
  · subst ey
    cases ry
    exact d_getN I2 g fun s3 I3 => ⟨V.non, H2, I3, rfl, q2⟩
  · exact d_get1 hu I2 g ry fun w' s3 I3 rw' => ⟨_, H2, I3, rw', q2⟩
theorem x_dgetN {σ : L2.St} {H : Hp} {Q : VK} {td ty : TE} (q : td σ H fun x H1 => (∃ a, x = .ref a ∧ IsD H1 a) ∧ ty σ H1 fun y H2 => DGN x y H2 Q) : tDGetN td ty σ H Q := q
theorem valV_dkS (M : AtM) (x : Str) : valV (dkS M) (.inr x) = (atv M x).map V.str := by
  unfold valV atv dkS
  induction M with
  | nil => rfl
  | cons e r ih =>
    rw [List.map_cons, List.find?_cons, List.find?_cons]
    by_cases c : e.1 = x
    · have c2 : (Sum.inr e.1 : Key) = Sum.inr x := by rw [c]
      simp only [decide_eq_true c, decide_eq_true c2]
      rfl
    · have c2 : ¬ (Sum.inr e.1 : Key) = Sum.inr x := fun z => c (by injection z)
      simp only [decide_eq_false c, decide_eq_false c2]
      exact ih
def itr (f : Str → Option Str) : Nat → Option Str → Option Str
  | 0, o => o
  | n + 1, o => (itr f n o).bind f
theorem itr_shift (f : Str → Option Str) : ∀ n o, itr f (n + 1) o = itr f n (o.bind f)
  | 0, _ => rfl
  | n + 1, o => by
    show (itr f (n + 1) o).bind f = (itr f n (o.bind f)).bind f
    rw [itr_shift f n o]
theorem itr_cf {f : Str → Option Str} : ∀ n x, itr f n (some x) = none → ∃ l, Cf f x l
  | 0, _, h => by cases h
  | n + 1, x, h => by
    rw [itr_shift] at h
    cases hx : f x with
    | none => exact ⟨[], .nil hx⟩
    | some y =>
      rw [show (some x).bind f = some y from hx] at h
      obtain ⟨l, hl⟩ := itr_cf n y h
      exact ⟨_, .cons hx hl⟩
section
variable {P : Program} {w : World} {K : PySem.W.Frag} {mg : Str → Option Value} {base : Heap}
def spRing (K : PySem.W.Frag) : Sp := fun vs H Q _ => ∃ v S d M, vs = [v, .ref d] ∧ SpecAt K H v S ∧ SpOk S ∧ H d = some (.dK (dkS M)) ∧ M.length ≤ 100 ∧ ∀ H' (c : Bool), Same H H' → (c = false → ∀ b ∈ ofS S ["box"], ∃ l, Cf (atv M) b l) → Q (.bl c) H'
def rLenD : List V → Hp → VK → Prop := fun xs H Q => ∃ d kvs, xs = [V.ref d] ∧ Rd H d (.dK kvs) ∧ Q (.int kvs.length) H
theorem cr_lenD {X : Cx} : CallR X (.builtin "len") rLenD := by
  intro pins s σ H xs us Q I r h
  obtain ⟨d, kvs, rfl, hd, q⟩ := h
  obtain ⟨u, rfl, rx⟩ := vals1 r
  obtain rfl : u = Value.ref d := rx
  exact d_len I hd fun t s' I' => ⟨V.int kvs.length, H, I', ⟨t, rfl⟩, q⟩
theorem sc_law_has_ring : FnScope ["_law_spec_here", "_law_at", "_law_box", "_law_here", "_law_turn"] ["_law_spec_here", "_law_at"] (defScope s_law_has_ring) := ⟨rfl, rfl, rfl, by decide +kernel, rfl, by decide +kernel, by decide +kernel⟩
theorem ok_law_has_ring (t : T K mg) : C8.Cal P w K mg base 2 "_law_has_ring" (spRing K) [] := by
  have c_law_of := ok_law_of (P := P) (w := w) (base := base) t
  refine cal t.f_law_has_ring t.g_law_has_ring sc_law_has_ring (fun _ _ _ _ _ _ us hl => match us, hl with | [_, _], _ => rfl) (fun vs H Q E h => ?_) fun cdv A outer s H vs Q E hr h => ?_
  · obtain ⟨v, S, d, M, rfl, _⟩ := h
    rfl
  · obtain ⟨v, S, d, M, rfl, hS, ok, hd, hz, k⟩ := h
    refine ⟨_, (pss_cons (ps_for PassesOwn.never (by rfl) (pi_list' (K := K) rfl (C8.pe_c c_law_of hr (by decide) (by rfl) (pa_cons (L2.pv 0) (pa_cons (pe_lst (pa_cons pe_str pa_nil)) pa_nil)))) (pg_name (i := 2) sc_law_has_ring.nd rfl (Or.inl rfl)) (pss_cons (ps_set (i := 3) sc_law_has_ring.nd rfl (Or.inl rfl) (L2.pv 2))
      (pss_cons (ps_for PassesOwn.never (by rfl) (pi_range1 (by rfl) t.b_range (pa_cons (pe_op op_add (pe_callB cr_lenD (by rfl) t.b_len (by decide +kernel) (pa_cons (L2.pv 1) pa_nil)) pe_int) pa_nil)) (pg_name (i := 4) sc_law_has_ring.nd rfl (Or.inl rfl)) (pss_one (ps_set (i := 3) sc_law_has_ring.nd rfl (Or.inl rfl) (pe_dgetN (hu_of hr) (L2.pv 1) (L2.pv 3) ⟨by rfl, by rfl, by rfl, by rfl⟩))))
      (pss_one (ps_if (pt_cmpR op_notN1 (L2.pv 3) pe_non (nomark _)) (pss_one (ps_ret pe_bl)) pss_nil)))))
      (pss_one (ps_ret pe_bl))), ?_⟩
    clear c_law_of
    walk_at "ar"
    refine lstK rfl fun q H1 n1 s1 h1 => ?_
    walk_at "ar"
    refine ⟨v, S, q, ["box"], rfl, spec_mono s1 hS, ok.z, .of h1, fun p H2 n2 s2 h2 => sqLK (.of h2) ?_⟩
    have s12 := s1.trans s2
    refine forL (xs := (ofS S ["box"]).map V.str) (fun i σ H' => (∃ o1 o2 o3, σ = [some v, some (.ref d), o1, o2, o3]) ∧ Same H2 H' ∧ ∀ (j : Nat) b, j < i → (ofS S ["box"])[j]? = some b → ∃ l, Cf (atv M) b l) ⟨⟨none, none, none, rfl⟩, Same.refl _, fun j b hj => absurd hj (Nat.not_lt_zero _)⟩ (fun i σ H' _ ⟨_, s, _⟩ => .of (s _ _ h2)) ?_ ?_
    · rintro i x σ H3 hi ⟨⟨o1, o2, o3, rfl⟩, s3, hc⟩
      obtain ⟨b, hb, rfl⟩ := map_get hi
      walk_at "ar"
      have hd3 := s3 _ _ (s12 _ _ hd)
      refine ⟨d, _, rfl, .inl hd3, ?_⟩
      walk_at "ar"
      have el : (dkS M).length = M.length := by unfold dkS; rw [List.length_map]
      rw [el]
      refine rg1K (by omega) (by omega) ?_
      refine forR (fun j σ H' => (∃ o3, σ = [some v, some (.ref d), some (.str b), some (oS (itr (atv M) j (some b))), o3]) ∧ Same H3 H') ⟨⟨_, rfl⟩, Same.refl _⟩ ?_ ?_
      · rintro j σ H4 hj ⟨⟨o3, rfl⟩, s4⟩
        have hd4 := s4 _ _ hd3
        walk_at "ar"
        refine x_dgetN ?_
        walk_at "ar"
        refine ⟨⟨d, rfl, .inl ⟨_, .inl hd4⟩⟩, ?_⟩
        walk_at "ar"
        cases hy : itr (atv M) j (some b) with
        | none =>
          refine ⟨d, rfl, .inl ⟨_, .inl hd4, rfl, ?_⟩⟩
          refine ⟨⟨some (.int (0 + (j : Int))), ?_⟩, s4⟩
          rw [show itr (atv M) (j + 1) (some b) = none from by show (itr (atv M) j (some b)).bind _ = _; rw [hy]; rfl]
          rfl
        | some y =>
          refine ⟨d, rfl, .inr ⟨_, DGet.k (k := .inr y) hd4, ?_⟩⟩
          refine ⟨⟨some (.int (0 + (j : Int))), ?_⟩, s4⟩
          rw [show itr (atv M) (j + 1) (some b) = atv M y from by show (itr (atv M) j (some b)).bind _ = _; rw [hy]; rfl, valV_dkS]
          cases atv M y <;> rfl
      · rintro σ H4 ⟨⟨o3, rfl⟩, s4⟩
        walk_at "ar"
        cases hy : itr (atv M) ((M.length : Int) + 1).toNat (some b) with
        | none =>
          refine iteK_n (by rfl) ?_
          refine x_next ⟨⟨_, _, _, rfl⟩, s3.trans s4, fun j b' hj hb' => ?_⟩
          by_cases c : j = i
          · subst c
            rw [hb] at hb'
            cases hb'
            exact itr_cf _ _ hy
          · exact hc j b' (by omega) hb'
        | some y =>
          refine iteK_y (by rfl) ?_
          walk_at "ar"
          exact k _ true (s12.trans (s3.trans s4)) fun z => by cases z
    · rintro σ H3 ⟨⟨o1, o2, o3, rfl⟩, s3, hc⟩
      walk_at "ar"
      refine k _ false (s12.trans s3) fun _ b hb => ?_
      obtain ⟨j, hj⟩ := List.mem_iff_getElem?.mp hb
      exact hc j b (by rw [List.length_map]; exact get_lt hj) hj
end
end Tw
set_option maxHeartbeats 4000000
/-! Stands, laid out. -/
namespace Tw
open PySem PySem.Spec L2
local macro_rules | `(tactic| walk_at "rd1") => `(tactic| first
  | with_reducible refine x_seq ?_
  | ((with_reducible refine x_var (v := ?vv) ?hh ?_); case hh => exact rfl)
  | with_reducible refine x_c ?_
  | with_reducible refine x_op ?_
  | with_reducible refine x_fld ?_
  | with_reducible refine x_call ?_
  | with_reducible refine x_meth ?_
  | with_reducible refine x_make ?_
  | with_reducible refine x_cb ?_
  | with_reducible refine x_tup ?_
  | with_reducible refine x_lst ?_
  | with_reducible refine x_nil ?_
  | with_reducible refine x_cons ?_
  | with_reducible refine x_asg ?_
  | with_reducible refine x_name ?_
  | with_reducible refine x_ret ?_
  | with_reducible refine x_retN ?_
  | with_reducible refine x_drop ?_
  | with_reducible refine x_ifS ?_
  | with_reducible refine x_if ?_
  | with_reducible refine x_andV ?_
  | with_reducible refine x_orV ?_
  | with_reducible refine x_notV ?_
  | with_reducible refine x_test ?_
  | with_reducible refine x_tB ?_
  | with_reducible refine x_and ?_
  | with_reducible refine x_or ?_
  | with_reducible refine x_not ?_
  | with_reducible refine x_yes ?_
  | with_reducible refine x_next ?_
  | with_reducible refine x_sfld ?_
  | with_reducible refine blK ?_
  | with_reducible refine r_I0 ?_
  | with_reducible refine r_isN ?_
  | with_reducible refine r_notN ?_
  | ((with_reducible refine r_eq ?hh ?_); case hh => exact rfl)
  | ((with_reducible refine r_ne ?hh ?_); case hh => exact rfl)
  | with_reducible refine x_gnil ?_
  | with_reducible refine x_gcons ?_)
local macro_rules | `(tactic| walk_at "rd2") => `(tactic| first
  | walk_at "rd1"
  | with_reducible refine x_lc ?_
  | with_reducible refine x_for ?_
  | with_reducible refine x_itup ?_
  | with_reducible refine x_ilist ?_
  | with_reducible refine x_rng1 ?_
  | with_reducible refine x_bm ?_
  | with_reducible refine x_chain ?_
  | with_reducible refine x_istr ?_
  | with_reducible refine strK ?_
  | with_reducible refine x_sl ?_
  | with_reducible refine x_part ?_
  | with_reducible refine x_noPart ?_
  | with_reducible refine poK ?_
  | ((with_reducible refine ltK ?hh ?_); case hh => exact rfl)
  | ((with_reducible refine ltKx ?hh ?_); case hh => exact rfl)
  | with_reducible refine x_dput ?_
  | with_reducible refine x_dget ?_
  | with_reducible refine iteK_t ?_
  | with_reducible refine iteK_nf ?_
  | with_reducible refine iteK_nt ?_
  | with_reducible refine iteK_f ?_)
local macro_rules | `(tactic| walk_at "go") => `(tactic| repeat (walk_at "rd2"))
local macro_rules | `(tactic| walk_at "rd") => `(tactic| repeat (walk_at "rd1"))
local macro_rules | `(tactic| walk_at "at") => `(tactic| repeat (first | assumption | refine same_at' (by assumption) ?_))
local macro_rules | `(tactic| walk_at "sm") => `(tactic| repeat (first | exact Same.refl _ | assumption | refine Same.trans ?_ (by assumption)))
local macro_rules | `(tactic| walk_at "mk1") => `(tactic| first
  | with_reducible refine mk_new rfl fun _ _ _ _ _ _ => ?_
  | with_reducible refine lstK rfl fun _ _ _ _ _ => ?_
  | with_reducible refine tupK rfl fun _ _ _ _ _ => ?_
  | with_reducible refine mk_rule4 (SqL.of (by walk_at "at")) (SqL.of (by walk_at "at")) fun _ _ _ _ => ?_
  | with_reducible refine mk_rule (SqL.of (by walk_at "at")) (SqL.of (by walk_at "at")) fun _ _ _ _ => ?_
  | with_reducible refine c_refusal (SqL.of (by walk_at "at")) fun _ _ _ _ => ?_)
local macro_rules | `(tactic| walk_at "mk") => `(tactic| repeat (first | walk_at "rd2" | walk_at "mk1"))
local macro_rules | `(tactic| walk_at "ar1") => `(tactic| ((with_reducible refine r_I ?hh ?_); case hh => first | exact (show (0 : Int) < _ from by decide +kernel) | exact And.intro (by decide +kernel) (by decide +kernel) | exact Or.inr (And.intro (by decide +kernel) (by decide +kernel)) | exact Or.inl (And.intro (by decide +kernel) (by decide +kernel)) | exact And.intro (by decide +kernel) (And.intro (by decide +kernel) (by decide +kernel))))
local macro_rules | `(tactic| walk_at "ar") => `(tactic| repeat (first | walk_at "rd2" | walk_at "ar1"))

section
variable {σ : L2.St} {H H' : Hp} {Q : VK} {D : Ends} {t : TE} {ts : TS} {K : PySem.W.Frag}
def UnK (d : Addr) (u : HO) (od : Obj) (H' : Hp) (R : Hp → Prop) : Prop := H' d = some (.frz od u) ∧ R (upd H' d u)
theorem x_lockE {d : Addr} {kvs : List (Key × V)} (hd : H d = some (.dK kvs)) (q : ∀ od, t σ (upd H d (.frz od (.dK kvs))) fun v H' => UnK d (.dK kvs) od H' (Q v)) : tLockE t σ H Q := ⟨d, _, hd, True.intro, q⟩
theorem x_lockS {d : Addr} {kvs : List (Key × V)} (hd : H d = some (.dK kvs)) (q : ∀ od, ts ⟨fun σ' H' => UnK d (.dK kvs) od H' (D.nx σ'), fun v H' => UnK d (.dK kvs) od H' (D.rt v), fun σ' H' => UnK d (.dK kvs) od H' (D.bk σ'), fun σ' H' => UnK d (.dK kvs) od H' (D.ct σ')⟩ σ (upd H d (.frz od (.dK kvs)))) : tLock ts D σ H :=
  ⟨d, _, hd, True.intro, q⟩
theorem unK {d : Addr} {u : HO} {od : Obj} {R : Hp → Prop} (hd : H d = some u) (s : Same (upd H d (.frz od u)) H') (q : ∀ H2, Same H H2 → (∀ b o, H' b = some o → b ≠ d → H2 b = some o) → R H2) : UnK d u od H' R := by
  refine ⟨s _ _ upd_same, q _ (fun b o h => ?_) fun b o h n => by rw [upd_ne n]; exact h⟩
  by_cases c : b = d
  · rw [c, hd] at h
    cases h
    rw [c]
    exact upd_same
  · rw [upd_ne c]
    exact s _ _ (by rw [upd_ne c]; exact h)
theorem itat_mono {x y : V} {p : Part} (s : Same H H') (h : ItAt H x p y) : ItAt H' x p y := by
  obtain ⟨t, b, e, h1, h2⟩ := h
  exact ⟨t, b, e, s _ _ h1, s _ _ h2⟩
theorem itat_ne {x y : V} {p : Part} {d : Addr} (k : ∀ b o, H b = some o → b ≠ d → H' b = some o) (hd : ∀ xs, H d ≠ some (.tup xs)) (h : ItAt H x p y) : ItAt H' x p y := by
  obtain ⟨t, b, e, h1, h2⟩ := h
  exact ⟨t, b, e, k _ _ h1 fun z => hd _ (by rw [← z]; exact h1), k _ _ h2 fun z => hd _ (by rw [← z]; exact h2)⟩
theorem paired_perm {α β : Type} {G : α → β → Prop} {zs zs' : List α} (p : zs'.Perm zs) : ∀ {l : List β}, Paired G zs l → ∃ l', l'.Perm l ∧ Paired G zs' l' := by
  induction p with
  | nil => exact fun h => ⟨_, .refl _, h⟩
  | cons x _ ih =>
    intro l h
    cases h with
    | cons h t =>
      obtain ⟨l', p1, p2⟩ := ih t
      exact ⟨_, .cons _ p1, .cons h p2⟩
  | swap x y l0 =>
    intro l h
    cases h with
    | cons h t =>
      cases t with
      | cons h2 t2 => exact ⟨_, .swap _ _ _, .cons h2 (.cons h t2)⟩
  | trans _ _ ih1 ih2 =>
    intro l h
    obtain ⟨l1, p1, q1⟩ := ih2 h
    obtain ⟨l2, p2, q2⟩ := ih1 q1
    exact ⟨l2, p2.trans p1, q2⟩
theorem itat_dp {x : V} {e : Part × Vl} (h : ItAt H x e.1 e.2.v) : Dp K H x (pairD e) := by
  obtain ⟨t, b, rfl, h1, h2⟩ := h
  exact .tup (.of h1) (.cons (dp_part h2) (.cons (vl_dp e.2) .nil))
theorem items_dp {xs : List V} {S : Stand} (h : Paired (fun x (e : Part × Vl) => ItAt H x e.1 e.2.v) xs S) : DpAll K H xs (S.map pairD) := by
  induction h with
  | nil => exact .nil
  | cons h t ih => exact .cons (itat_dp h) ih
end
/-- a stand, before it is sorted -/
def stL (M : AtM) (MM : List (Str × Int)) : Stand := (M.map fun e => ((("at", e.1) : Part), Vl.s e.2)) ++ MM.map fun e => ((("mark", e.1) : Part), Vl.n e.2)
theorem stL_keys (M : AtM) (MM : List (Str × Int)) (h1 : (M.map Prod.fst).Nodup) (h2 : (MM.map Prod.fst).Nodup) : ((stL M MM).map Prod.fst).Nodup := by
  unfold stL
  rw [List.map_append, List.map_map, List.map_map]
  have f1 : (M.map (Prod.fst ∘ fun e => ((("at", e.1) : Part), Vl.s e.2))) = (M.map Prod.fst).map fun n => (("at", n) : Part) := by rw [List.map_map]; rfl
  have f2 : (MM.map (Prod.fst ∘ fun e => ((("mark", e.1) : Part), Vl.n e.2))) = (MM.map Prod.fst).map fun n => (("mark", n) : Part) := by rw [List.map_map]; rfl
  rw [f1, f2]
  refine List.nodup_append.mpr ⟨?_, ?_, ?_⟩
  · exact List.Pairwise.map _ (fun a b h e => h (by injection e)) h1
  · exact List.Pairwise.map _ (fun a b h e => h (by injection e)) h2
  · intro a ha b hb e
    obtain ⟨x, _, rfl⟩ := List.mem_map.mp ha
    obtain ⟨y, _, rfl⟩ := List.mem_map.mp hb
    injection e with e _
    exact absurd e (by decide +kernel)
theorem nodup_mem {l : Stand} (nd : (l.map Prod.fst).Nodup) {i j : Nat} {e e' : Part × Vl} (hi : l[i]? = some e) (hj : l[j]? = some e') (h : e.1 = e'.1) : i = j := by
  have h1 : (l.map Prod.fst)[i]? = some e.1 := by rw [List.getElem?_map, hi]; rfl
  have h2 : (l.map Prod.fst)[j]? = some e.1 := by rw [List.getElem?_map, hj, h]; rfl
  have key : ∀ (l : List Part) (i j : Nat) (x : Part), l.Nodup → i < j → l[i]? = some x → l[j]? = some x → False := fun l i j x nd hij a b => by
    have h1 : (l.take (j + 1)).Nodup := List.Nodup.sublist (List.take_sublist _ _) nd
    rw [take_succ' b] at h1
    refine (List.nodup_append.mp h1).2.2 x ?_ x (List.mem_singleton.mpr rfl) rfl
    refine List.mem_of_getElem? (i := i) ?_
    rw [List.getElem?_take_of_lt hij]
    exact a
  rcases Nat.lt_trichotomy i j with c | c | c
  · exact (key _ i j _ nd c h1 h2).elim
  · exact c
  · exact (key _ j i _ nd c h2 h1).elim
section
variable {P : Program} {w : World} {K : PySem.W.Frag} {mg : Str → Option Value} {base : Heap}
theorem cr_sortedI' {X : Cx} (hK : X.K = K) (hu : X.A.units + 64 < cLine) : CallR X (.builtin "sorted") (rSortedI K) := hK ▸ cr_sortedI hu
def spStand (K : PySem.W.Frag) : Sp := fun vs H Q _ => ∃ d1 d2 M MM, vs = [.ref d1, .ref d2] ∧ H d1 = some (.dK (dkS M)) ∧ H d2 = some (.dK (dkI MM)) ∧ M.length ≤ 100 ∧ MM.length ≤ 100 ∧ (M.map Prod.fst).Nodup ∧ (MM.map Prod.fst).Nodup ∧ ∀ v H' S, Same H H' → Dp K H' v (standD S) → S.Perm (stL M MM) → Q v H'
theorem sc_law_stand : FnScope ["_law_at", "_law_marks_here", "_law_pairs", "_law_name", "_law_place_here", "_law_number"] ["_law_at", "_law_marks_here"] (defScope s_law_stand) := ⟨rfl, rfl, rfl, by decide +kernel, rfl, by decide +kernel, by decide +kernel⟩
theorem ok_law_stand (t : T K mg) : C8.Cal P w K mg base 1 "_law_stand" (spStand K) [] := by
  refine cal t.f_law_stand t.g_law_stand sc_law_stand (fun _ _ _ _ _ _ us hl => match us, hl with | [_, _], _ => rfl) (fun vs H Q E h => ?_) fun cdv A outer s H vs Q E hr h => ?_
  · obtain ⟨d1, d2, M, MM, rfl, _⟩ := h
    rfl
  · obtain ⟨d1, d2, M, MM, rfl, h1, h2, z1, z2, n1, n2, k⟩ := h
    refine ⟨_, (pss_cons (ps_lock (ps_setLc (i := 2) (own := [("_law_name", 3), ("_law_place_here", 4)]) (by rfl) sc_law_stand.nd rfl rfl (sw_true rfl rfl rfl (by decide +kernel)) (pi_items (L2.pv 0)) (blkOk_by (own := [("_law_name", 3), ("_law_place_here", 4)]) (N := ["_law_at", "_law_marks_here", "_law_pairs", "_law_name", "_law_place_here", "_law_number"]) (sc := defScope s_law_stand) (by decide +kernel)) (fun _ _ _ _ _ => (pg_tup' (K := K) (n := 2) rfl (by rfl) (pgs_cons (pg_name (i := 3) sc_law_stand.nd rfl (Or.inl rfl)) (pgs_cons (pg_name (i := 4) sc_law_stand.nd rfl (Or.inl rfl)) pgs_nil)))) (fun _ _ _ _ _ => pts_nil) (fun _ _ _ _ _ => (pe_tup (pa_cons (pe_tup (pa_cons pe_str (pa_cons (L2.pv 3) pa_nil))) (pa_cons (L2.pv 4) pa_nil))))))
      (pss_one (ps_ret (pe_callTy (cr_tuple (K := K) rfl) (by rfl) t.b_tuple (by decide +kernel) (pa_cons (pe_callB (cr_sortedI' (K := K) rfl hr.units) (by rfl) t.b_sorted (by decide +kernel) (pa_cons (pe_op op_cat (L2.pv 2) (pe_lock (pe_lc (own := [("_law_name", 3), ("_law_number", 5)]) (by rfl) sc_law_stand.nd (pi_items (L2.pv 1)) (blkOk_by (own := [("_law_name", 3), ("_law_number", 5)]) (N := ["_law_at", "_law_marks_here", "_law_pairs", "_law_name", "_law_place_here", "_law_number"]) (sc := defScope s_law_stand) (by decide +kernel)) (fun _ _ _ _ _ => (pg_tup' (K := K) (n := 2) rfl (by rfl) (pgs_cons (pg_name (i := 3) sc_law_stand.nd rfl (Or.inl rfl)) (pgs_cons (pg_name (i := 5) sc_law_stand.nd rfl (Or.inl rfl)) pgs_nil)))) (fun _ _ _ _ _ => pts_nil) (fun _ _ _ _ _ => (pe_tup (pa_cons (pe_tup (pa_cons pe_str (pa_cons (L2.pv 3) pa_nil))) (pa_cons (L2.pv 5) pa_nil))))))) pa_nil)) pa_nil))))), ?_⟩
    walk_at "ar"
    refine x_lockS h1 fun od => ?_
    walk_at "ar"
    refine x_items ?_
    walk_at "ar"
    refine itemsK upd_same ?_
    refine lcW (walk_items (d := d1) (o := od) (kvs := dkS M)) (fun H' s => s _ _ upd_same) (fun ys i H' => Paired (fun x (e : Part × Vl) => ItAt H' x e.1 e.2.v) ys ((M.take i).map fun e => ((("at", e.1) : Part), Vl.s e.2))) .nil (fun _ _ _ => .nil) ?_ ?_
    · rintro D i x ys H2 H3 m f hi ⟨T, x1, y1, rfl, hT, rfl, hx1, hy1⟩
      have hi : i < M.length := by
        unfold dkS at hi
        rwa [List.length_map] at hi
      have hg : (dkS M)[i]? = some (.inr M[i].1, .str M[i].2) := by
        unfold dkS
        rw [List.getElem?_map, List.getElem?_eq_getElem hi]
        rfl
      have hx2 : Option.map (fun kv : Key × V => kV kv.1) (dkS M)[i]? = some x1 := hx1
      have hy2 : Option.map Prod.snd (dkS M)[i]? = some y1 := hy1
      rw [hg] at hx2 hy2
      obtain rfl : V.str M[i].1 = x1 := Option.some.inj hx2
      obtain rfl : V.str M[i].2 = y1 := Option.some.inj hy2
      have hn : M[i]? = some M[i] := List.getElem?_eq_getElem hi
      clear hx1 hy1 hx2 hy2 hg
      generalize M[i] = e at hn
      have sT := same_new (H := H2) (o := .tup [.str e.1, .str e.2]) hT
      have lf := f.length
      rw [List.length_map, List.length_take] at lf
      refine x_gtup (.of upd_same) rfl ?_
      walk_at "ar"
      refine tupK rfl fun p4 H4 n4 s4 h4 => ?_
      walk_at "ar"
      refine tupK rfl fun p5 H5 n5 s5 h5 => ?_
      have S := sT.trans (s4.trans s5)
      have m5 := m.grow S
      refine apK m5 (by omega) ?_
      rw [take_succ' hn, List.map_append]
      have dD : ∀ p xs, H5 p = some (.tup xs) → del D H5 p = some (.tup xs) := fun p xs h => del_at h (ne_of h m5.at_ fun e => by cases e)
      exact paired_app (Paired.mapP f fun _ _ g => itat_mono (del_mono S) g) (.cons ⟨p5, p4, rfl, dD _ _ h5, dD _ _ (s5 _ _ h4)⟩ .nil)
    rintro D1 H2 ys m f
    have el : (dkS M).length = M.length := by unfold dkS; rw [List.length_map]
    rw [el, List.take_length] at f
    have lf := f.length
    rw [List.length_map] at lf
    have ne1 : D1 ≠ d1 := ne_new upd_same m.nw
    walk_at "ar"
    refine unK h1 m.same fun H3 s3 k3 => ?_
    have f3 := Paired.mapP f fun _ _ g => itat_ne k3 (fun xs z => by
      have := m.same _ _ upd_same
      rw [this] at z
      cases z) (itat_mono del_le g)
    have hD3 := k3 _ _ m.at_ ne1
    have n3 : H D1 = none := by
      cases q : H D1 with
      | none => rfl
      | some o =>
        have := m.nw
        rw [upd_ne ne1, q] at this
        cases this
    clear m f k3
    walk_at "ar"
    refine x_lockE (s3 _ _ h2) fun od2 => ?_
    walk_at "ar"
    refine x_items ?_
    walk_at "ar"
    refine itemsK upd_same ?_
    refine lcW (walk_items (d := d2) (o := od2) (kvs := dkI MM)) (fun H' s => s _ _ upd_same) (fun ys i H' => Paired (fun x (e : Part × Vl) => ItAt H' x e.1 e.2.v) ys ((MM.take i).map fun e => ((("mark", e.1) : Part), Vl.n e.2))) .nil (fun _ _ _ => .nil) ?_ ?_
    · rintro D i x ys H4 H5 m f hi ⟨T, x1, y1, rfl, hT, rfl, hx1, hy1⟩
      have hi : i < MM.length := by
        unfold dkI at hi
        rwa [List.length_map] at hi
      have hg : (dkI MM)[i]? = some (.inr MM[i].1, .int MM[i].2) := by
        unfold dkI
        rw [List.getElem?_map, List.getElem?_eq_getElem hi]
        rfl
      have hx2 : Option.map (fun kv : Key × V => kV kv.1) (dkI MM)[i]? = some x1 := hx1
      have hy2 : Option.map Prod.snd (dkI MM)[i]? = some y1 := hy1
      rw [hg] at hx2 hy2
      obtain rfl : V.str MM[i].1 = x1 := Option.some.inj hx2
      obtain rfl : V.int MM[i].2 = y1 := Option.some.inj hy2
      have hn : MM[i]? = some MM[i] := List.getElem?_eq_getElem hi
      clear hx1 hy1 hx2 hy2 hg
      generalize MM[i] = e at hn
      have sT := same_new (H := H4) (o := .tup [.str e.1, .int e.2]) hT
      have lf := f.length
      rw [List.length_map, List.length_take] at lf
      refine x_gtup (.of upd_same) rfl ?_
      walk_at "ar"
      refine tupK rfl fun p4 H6 n4 s4 h4 => ?_
      walk_at "ar"
      refine tupK rfl fun p5 H7 n5 s5 h5 => ?_
      have S := sT.trans (s4.trans s5)
      have m5 := m.grow S
      refine apK m5 (by omega) ?_
      rw [take_succ' hn, List.map_append]
      have dD : ∀ p xs, H7 p = some (.tup xs) → del D H7 p = some (.tup xs) := fun p xs h => del_at h (ne_of h m5.at_ fun e => by cases e)
      exact paired_app (Paired.mapP f fun _ _ g => itat_mono (del_mono S) g) (.cons ⟨p5, p4, rfl, dD _ _ h5, dD _ _ (s5 _ _ h4)⟩ .nil)
    rintro D2 H4 ys2 m f
    have el2 : (dkI MM).length = MM.length := by unfold dkI; rw [List.length_map]
    rw [el2, List.take_length] at f
    have lf2 := f.length
    rw [List.length_map] at lf2
    have ne2 : D2 ≠ d2 := ne_new upd_same m.nw
    refine unK (s3 _ _ h2) m.same fun H5 s5 k5 => ?_
    have f5 := Paired.mapP f fun _ _ g => itat_ne k5 (fun xs z => by
      have := m.same _ _ upd_same
      rw [this] at z
      cases z) (itat_mono del_le g)
    have hD5 := k5 _ _ m.at_ ne2
    refine r_cat (s5 _ _ hD3) hD5 (by omega) fun p6 H6 n6 s6 h6 => ?_
    have fa := paired_app (Paired.mapP f3 fun _ _ g => itat_mono (s5.trans s6) g) (Paired.mapP f5 fun _ _ g => itat_mono s6 g)
    have nd := stL_keys M MM n1 n2
    change Paired (fun x (e : Part × Vl) => ItAt H6 x e.1 e.2.v) (ys ++ ys2) (stL M MM) at fa
    walk_at "ar"
    refine ⟨p6, ys ++ ys2, rfl, .of h6, fun x hx => ?_, fun x x' p y y' hx hx' i1 i2 => ?_, fun zs p7 pm n7 => ?_⟩
    · obtain ⟨i, hi⟩ := List.mem_iff_getElem?.mp hx
      obtain ⟨e, he, g⟩ := paired_get' fa hi
      exact ⟨_, _, g⟩
    · obtain ⟨i, hi⟩ := List.mem_iff_getElem?.mp hx
      obtain ⟨e, he, g⟩ := paired_get' fa hi
      obtain ⟨j, hj⟩ := List.mem_iff_getElem?.mp hx'
      obtain ⟨e', he', g'⟩ := paired_get' fa hj
      have e1 := i1.inj g
      have e2 := i2.inj g'
      have := nodup_mem nd he he' (e1.symm.trans e2)
      subst this
      rw [hi] at hj
      exact Option.some.inj hj
    · obtain ⟨S, hS1, hS2⟩ := paired_perm pm fa
      have s7 := same_new (H := H6) (o := .lst zs) n7
      walk_at "ar"
      refine r_tupL (.of upd_same) fun p8 H8 n8 s8 h8 => ?_
      exact k _ H8 S (s3.trans (s5.trans (s6.trans (s7.trans s8)))) (.tup (.of h8) (items_dp (Paired.mapP hS2 fun _ _ g => itat_mono (s7.trans s8) g))) hS1
end
end Tw
set_option maxHeartbeats 4000000
/-! The third stand. -/
namespace Tw
open PySem PySem.Spec L2
local macro_rules | `(tactic| walk_at "rd1") => `(tactic| first
  | with_reducible refine x_seq ?_
  | ((with_reducible refine x_var (v := ?vv) ?hh ?_); case hh => exact rfl)
  | with_reducible refine x_c ?_
  | with_reducible refine x_op ?_
  | with_reducible refine x_fld ?_
  | with_reducible refine x_call ?_
  | with_reducible refine x_meth ?_
  | with_reducible refine x_make ?_
  | with_reducible refine x_cb ?_
  | with_reducible refine x_tup ?_
  | with_reducible refine x_lst ?_
  | with_reducible refine x_nil ?_
  | with_reducible refine x_cons ?_
  | with_reducible refine x_asg ?_
  | with_reducible refine x_name ?_
  | with_reducible refine x_ret ?_
  | with_reducible refine x_retN ?_
  | with_reducible refine x_drop ?_
  | with_reducible refine x_ifS ?_
  | with_reducible refine x_if ?_
  | with_reducible refine x_andV ?_
  | with_reducible refine x_orV ?_
  | with_reducible refine x_notV ?_
  | with_reducible refine x_test ?_
  | with_reducible refine x_tB ?_
  | with_reducible refine x_and ?_
  | with_reducible refine x_or ?_
  | with_reducible refine x_not ?_
  | with_reducible refine x_yes ?_
  | with_reducible refine x_next ?_
  | with_reducible refine x_sfld ?_
  | with_reducible refine blK ?_
  | with_reducible refine r_I0 ?_
  | with_reducible refine r_isN ?_
  | with_reducible refine r_notN ?_
  | ((with_reducible refine r_eq ?hh ?_); case hh => exact rfl)
  | ((with_reducible refine r_ne ?hh ?_); case hh => exact rfl)
  | with_reducible refine x_gnil ?_
  | with_reducible refine x_gcons ?_)
local macro_rules | `(tactic| walk_at "rd2") => `(tactic| first
  | walk_at "rd1"
  | with_reducible refine x_lc ?_
  | with_reducible refine x_for ?_
  | with_reducible refine x_itup ?_
  | with_reducible refine x_ilist ?_
  | with_reducible refine x_rng1 ?_
  | with_reducible refine x_bm ?_
  | with_reducible refine x_chain ?_
  | with_reducible refine x_istr ?_
  | with_reducible refine strK ?_
  | with_reducible refine x_sl ?_
  | with_reducible refine x_part ?_
  | with_reducible refine x_noPart ?_
  | with_reducible refine poK ?_
  | ((with_reducible refine ltK ?hh ?_); case hh => exact rfl)
  | ((with_reducible refine ltKx ?hh ?_); case hh => exact rfl)
  | with_reducible refine x_dput ?_
  | with_reducible refine x_dget ?_
  | with_reducible refine iteK_t ?_
  | with_reducible refine iteK_nf ?_
  | with_reducible refine iteK_nt ?_
  | with_reducible refine iteK_f ?_)
local macro_rules | `(tactic| walk_at "go") => `(tactic| repeat (walk_at "rd2"))
local macro_rules | `(tactic| walk_at "rd") => `(tactic| repeat (walk_at "rd1"))
local macro_rules | `(tactic| walk_at "at") => `(tactic| repeat (first | assumption | refine same_at' (by assumption) ?_))
local macro_rules | `(tactic| walk_at "sm") => `(tactic| repeat (first | exact Same.refl _ | assumption | refine Same.trans ?_ (by assumption)))
local macro_rules | `(tactic| walk_at "mk1") => `(tactic| first
  | with_reducible refine mk_new rfl fun _ _ _ _ _ _ => ?_
  | with_reducible refine lstK rfl fun _ _ _ _ _ => ?_
  | with_reducible refine tupK rfl fun _ _ _ _ _ => ?_
  | with_reducible refine mk_rule4 (SqL.of (by walk_at "at")) (SqL.of (by walk_at "at")) fun _ _ _ _ => ?_
  | with_reducible refine mk_rule (SqL.of (by walk_at "at")) (SqL.of (by walk_at "at")) fun _ _ _ _ => ?_
  | with_reducible refine c_refusal (SqL.of (by walk_at "at")) fun _ _ _ _ => ?_)
local macro_rules | `(tactic| walk_at "mk") => `(tactic| repeat (first | walk_at "rd2" | walk_at "mk1"))
local macro_rules | `(tactic| walk_at "ar1") => `(tactic| ((with_reducible refine r_I ?hh ?_); case hh => first | exact (show (0 : Int) < _ from by decide +kernel) | exact And.intro (by decide +kernel) (by decide +kernel) | exact Or.inr (And.intro (by decide +kernel) (by decide +kernel)) | exact Or.inl (And.intro (by decide +kernel) (by decide +kernel)) | exact And.intro (by decide +kernel) (And.intro (by decide +kernel) (by decide +kernel))))
local macro_rules | `(tactic| walk_at "ar") => `(tactic| repeat (first | walk_at "rd2" | walk_at "ar1"))

def rInP (K : PySem.W.Frag) : R2 := fun x y H Q => ∃ (p : Part) (qs : List Part), Dp K H x (partD p) ∧ Dp K H y (.tuple (qs.map partD)) ∧ OkP p ∧ (∀ e ∈ qs, OkP e) ∧ Q (.bl (decide (p ∈ qs))) H
theorem lay_parts {qs : List Part} (h : ∀ e ∈ qs, OkP e) : PyData.canLayAll0 (qs.map partD) = true := by
  induction qs with
  | nil => rfl
  | cons p r ih =>
    have h1 := shaped_part (h p List.mem_cons_self)
    have := SeqAt.canLay_of_shaped h1
    rw [List.map_cons]
    simp only [PyData.canLayAll0, this, ih fun e he => h e (List.mem_cons_of_mem _ he)]
    rfl
theorem op_inP {X : Cx} {K : PySem.W.Frag} (hK : X.K = K) (hu : X.A.units + 65 < cLine) : OpR X (compareOp .In) (rInP K) := by
  subst hK
  intro pins s σ H x y v u Q I rx ry h
  obtain ⟨p, qs, hd, he, op, oq, q⟩ := h
  obtain ⟨as, r1⟩ := Dp.reads I _ x v hd rx
  obtain ⟨bs, r2⟩ := Dp.reads I _ y u he ry
  have sd := shaped_part op
  refine SeqAt.in_tuple_reads r2 r1 (lay_parts oq) (SeqAt.canLay_of_shaped sd) (PyProof.Rows.room_in_shaped sd hu) ⟨.bl _, H, I, rfl, ?_⟩
  have : ((qs.map partD).any fun z => PyData.eqv z (partD p)) = decide (p ∈ qs) := by
    rw [List.any_map]
    by_cases c : p ∈ qs
    · rw [decide_eq_true c]
      exact List.any_eq_true.mpr ⟨p, c, by show PyData.eqv (partD p) (partD p) = true; rw [eqv_part]; exact decide_eq_true rfl⟩
    · rw [decide_eq_false c]
      refine List.any_eq_false.mpr fun e he => ?_
      show ¬ PyData.eqv (partD e) (partD p) = true
      rw [eqv_part, decide_eq_true_iff]
      exact fun z => c (by rw [← z]; exact he)
  rw [this]
  exact q
mutual
theorem del_dpK {K : PySem.W.Frag} {H : Hp} {D : Addr} {kvs : List (Key × V)} (hd : H D = some (.dK kvs)) : ∀ {v : V} {d : PyData}, Dp K H v d → Dp K (del D H) v d
  | _, _, .non => .non
  | _, _, .bl b => .bl b
  | _, _, .int i => .int i
  | _, _, .str x => .str x
  | _, _, .lst h a => .lst (by
      rcases h with (h | ⟨ob, h⟩) | h
      · exact .inl (.inl (del_at h (ne_of h hd fun e => by cases e)))
      · exact .inl (.inr ⟨ob, del_at h (ne_of h hd fun e => by cases e)⟩)
      · exact .inr h) (del_dpsK hd a)
  | _, _, .tup h a => .tup (by
      rcases h with (h | ⟨ob, h⟩) | h
      · exact .inl (.inl (del_at h (ne_of h hd fun e => by cases e)))
      · exact .inl (.inr ⟨ob, del_at h (ne_of h hd fun e => by cases e)⟩)
      · exact .inr h) (del_dpsK hd a)
theorem del_dpsK {K : PySem.W.Frag} {H : Hp} {D : Addr} {kvs : List (Key × V)} (hd : H D = some (.dK kvs)) : ∀ {vs : List V} {ds : List PyData}, DpAll K H vs ds → DpAll K (del D H) vs ds
  | _, _, .nil => .nil
  | _, _, .cons h a => .cons (del_dpK hd h) (del_dpsK hd a)
end
/-! ### maps from names to values -/
abbrev VM := List (Str × V)
def dkV (L : VM) : List (Key × V) := L.map fun e => (.inr e.1, e.2)
def vv (L : VM) (x : Str) : Option V := (L.find? fun e => decide (e.1 = x)).map Prod.snd
theorem valV_dkV (M : VM) (x : Str) : valV (dkV M) (.inr x) = vv M x := by
  unfold valV vv dkV
  induction M with
  | nil => rfl
  | cons e r ih =>
    rw [List.map_cons, List.find?_cons, List.find?_cons]
    by_cases c : e.1 = x
    · have c2 : (Sum.inr e.1 : Key) = Sum.inr x := by rw [c]
      simp only [decide_eq_true c, decide_eq_true c2]
      rfl
    · have c2 : ¬ (Sum.inr e.1 : Key) = Sum.inr x := fun z => c (by injection z)
      simp only [decide_eq_false c, decide_eq_false c2]
      exact ih
theorem vv_some {L : VM} {x : Str} (h : x ∈ L.map Prod.fst) : ∃ y, vv L x = some y := by
  cases q : vv L x with
  | some y => exact ⟨y, rfl⟩
  | none =>
    unfold vv at q
    rw [Option.map_eq_none_iff, List.find?_eq_none] at q
    obtain ⟨e, he, rfl⟩ := List.mem_map.mp h
    exact absurd (decide_eq_true rfl) (q e he)
theorem vv_of {M : VM} {x : Str} {y : V} (nd : (M.map Prod.fst).Nodup) (h : (x, y) ∈ M) : vv M x = some y := by
  induction M with
  | nil => cases h
  | cons e r ih =>
    rw [List.map_cons] at nd
    have nd := List.nodup_cons.mp nd
    unfold vv
    by_cases c : e.1 = x
    · rw [List.find?_cons]
      simp only [decide_eq_true c]
      rcases List.mem_cons.mp h with h | h
      · rw [← h]; rfl
      · exact absurd (List.mem_map.mpr ⟨_, h, c.symm⟩) nd.1
    · rw [List.find?_cons]
      simp only [decide_eq_false c]
      rcases List.mem_cons.mp h with h | h
      · exact absurd (by rw [← h]) c
      · exact ih nd.2 h
theorem putV {M : VM} {k : Str} {v : V} (h : k ∉ M.map Prod.fst) : putK (dkV M) (.inr k) v = dkV (M ++ [(k, v)]) := by
  rw [putK_new]
  · unfold dkV
    rw [List.map_append]
    rfl
  · refine valV_none' fun p hp => ?_
    obtain ⟨e, he, rfl⟩ := List.mem_map.mp hp
    intro z
    injection z with z
    exact h (List.mem_map.mpr ⟨e, he, z⟩)
def asS (M : AtM) : VM := M.map fun e => (e.1, .str e.2)
def asI (M : List (Str × Int)) : VM := M.map fun e => (e.1, .int e.2)
theorem dkS_as (M : AtM) : dkS M = dkV (asS M) := by unfold dkS dkV asS; rw [List.map_map]; rfl
theorem dkI_as (M : List (Str × Int)) : dkI M = dkV (asI M) := by unfold dkI dkV asI; rw [List.map_map]; rfl
theorem asS_keys (M : AtM) : (asS M).map Prod.fst = M.map Prod.fst := by unfold asS; rw [List.map_map]; rfl
theorem asI_keys (M : List (Str × Int)) : (asI M).map Prod.fst = M.map Prod.fst := by unfold asI; rw [List.map_map]; rfl
/-- what the third has of a map -/
def thr (sort : Str) (qs : List Part) (L1 L2 : VM) : VM := L1.map fun e => (e.1, if ((sort, e.1) : Part) ∈ qs then e.2 else (vv L2 e.1).getD e.2)
theorem thr_keys (sort : Str) (qs : List Part) (L1 L2 : VM) : (thr sort qs L1 L2).map Prod.fst = L1.map Prod.fst := by unfold thr; rw [List.map_map]; rfl
def thrS (qs : List Part) (M1 M2 : AtM) : AtM := M1.map fun e => (e.1, if (("at", e.1) : Part) ∈ qs then e.2 else (atv M2 e.1).getD e.2)
def ivl (M : List (Str × Int)) (x : Str) : Option Int := (M.find? fun e => decide (e.1 = x)).map Prod.snd
def thrI (qs : List Part) (M1 M2 : List (Str × Int)) : List (Str × Int) := M1.map fun e => (e.1, if (("mark", e.1) : Part) ∈ qs then e.2 else (ivl M2 e.1).getD e.2)
theorem vv_asS (M : AtM) (x : Str) : vv (asS M) x = (atv M x).map V.str := by
  unfold vv atv asS
  induction M with
  | nil => rfl
  | cons e r ih =>
    rw [List.map_cons, List.find?_cons, List.find?_cons]
    by_cases c : e.1 = x
    · simp only [decide_eq_true c]
      rfl
    · simp only [decide_eq_false c]
      exact ih
theorem vv_asI (M : List (Str × Int)) (x : Str) : vv (asI M) x = (ivl M x).map V.int := by
  unfold vv ivl asI
  induction M with
  | nil => rfl
  | cons e r ih =>
    rw [List.map_cons, List.find?_cons, List.find?_cons]
    by_cases c : e.1 = x
    · simp only [decide_eq_true c]
      rfl
    · simp only [decide_eq_false c]
      exact ih
theorem thr_asS (qs : List Part) (M1 M2 : AtM) : thr "at" qs (asS M1) (asS M2) = asS (thrS qs M1 M2) := by
  unfold thr thrS
  conv => lhs; unfold asS
  conv => rhs; unfold asS
  rw [List.map_map, List.map_map]
  refine List.map_congr_left fun e _ => ?_
  show (e.1, _) = (e.1, _)
  congr 1
  show (if (("at", e.1) : Part) ∈ qs then V.str e.2 else (vv (asS M2) e.1).getD (V.str e.2)) = V.str (if (("at", e.1) : Part) ∈ qs then e.2 else (atv M2 e.1).getD e.2)
  rw [vv_asS]
  split
  · rfl
  · cases atv M2 e.1 <;> rfl
theorem thr_asI (qs : List Part) (M1 M2 : List (Str × Int)) : thr "mark" qs (asI M1) (asI M2) = asI (thrI qs M1 M2) := by
  unfold thr thrI
  conv => lhs; unfold asI
  conv => rhs; unfold asI
  rw [List.map_map, List.map_map]
  refine List.map_congr_left fun e _ => ?_
  show (e.1, _) = (e.1, _)
  congr 1
  show (if (("mark", e.1) : Part) ∈ qs then V.int e.2 else (vv (asI M2) e.1).getD (V.int e.2)) = V.int (if (("mark", e.1) : Part) ∈ qs then e.2 else (ivl M2 e.1).getD e.2)
  rw [vv_asI]
  split
  · rfl
  · cases ivl M2 e.1 <;> rfl
theorem thrS_at (qs : List Part) (M1 M2 : AtM) (n : Str) : atv (thrS qs M1 M2) n = (atv M1 n).map fun v => if (("at", n) : Part) ∈ qs then v else (atv M2 n).getD v := by
  unfold thrS
  generalize hg : (fun n v => if (("at", n) : Part) ∈ qs then v else (atv M2 n).getD v) = g
  have e1 : (fun e : Str × Str => (e.1, if (("at", e.1) : Part) ∈ qs then e.2 else (atv M2 e.1).getD e.2)) = fun e => (e.1, g e.1 e.2) := by rw [← hg]
  have e2 : (fun v => if (("at", n) : Part) ∈ qs then v else (atv M2 n).getD v) = g n := by rw [← hg]
  rw [e1, e2]
  unfold atv
  induction M1 with
  | nil => rfl
  | cons e r ih =>
    rw [List.map_cons, List.find?_cons, List.find?_cons]
    by_cases c : e.1 = n
    · simp only [decide_eq_true c]
      rw [← c]
      rfl
    · simp only [decide_eq_false c]
      exact ih
def repl (M : AtM) (x v : Str) : AtM := M.map fun e => if e.1 = x then (e.1, v) else e
theorem repl_keys (M : AtM) (x v : Str) : (repl M x v).map Prod.fst = M.map Prod.fst := by
  unfold repl
  rw [List.map_map]
  refine List.map_congr_left fun e _ => ?_
  show (if e.1 = x then (e.1, v) else e).1 = e.1
  split <;> rfl
theorem repl_at (M : AtM) (x v y : Str) (h : x ∈ M.map Prod.fst) : atv (repl M x v) y = if y = x then some v else atv M y := by
  unfold repl atv
  induction M with
  | nil => cases h
  | cons e r ih =>
    rw [List.map_cons, List.find?_cons, List.find?_cons]
    by_cases c : e.1 = x
    · rw [if_pos c]
      by_cases c2 : e.1 = y
      · simp only [decide_eq_true c2]
        rw [if_pos (by rw [← c2, c])]
        rfl
      · simp only [decide_eq_false c2]
        rw [if_neg fun z => c2 (by rw [c, z])]
        by_cases hr : x ∈ r.map Prod.fst
        · have := ih hr
          rw [if_neg fun z => c2 (by rw [c, z])] at this
          exact this
        · have : (r.map fun e => if e.1 = x then (e.1, v) else e) = r := by
            conv => rhs; rw [← List.map_id r]
            refine List.map_congr_left fun a ha => ?_
            rw [if_neg fun z => hr (List.mem_map.mpr ⟨a, ha, z⟩)]
            rfl
          rw [this]
    · rw [if_neg c]
      by_cases c2 : e.1 = y
      · simp only [decide_eq_true c2]
        rw [if_neg fun z => c (by rw [c2, z])]
      · simp only [decide_eq_false c2]
        refine ih ?_
        rw [List.map_cons] at h
        rcases List.mem_cons.mp h with h | h
        · exact absurd h.symm c
        · exact h
theorem repl_put (M : AtM) (x v : Str) (h : x ∈ M.map Prod.fst) : putK (dkS M) (.inr x) (.str v) = dkS (repl M x v) := by
  unfold putK
  rw [if_pos ?_]
  · unfold dkS repl
    rw [List.map_map, List.map_map]
    refine List.map_congr_left fun e _ => ?_
    show (if (Sum.inr e.1 : Key) = Sum.inr x then ((Sum.inr e.1 : Key), V.str v) else (Sum.inr e.1, V.str e.2)) = (Sum.inr (if e.1 = x then (e.1, v) else e).1, V.str (if e.1 = x then (e.1, v) else e).2)
    by_cases c : e.1 = x
    · rw [if_pos (by rw [c]), if_pos c]
    · rw [if_neg fun z => c (by injection z), if_neg c]
  · obtain ⟨e, he, rfl⟩ := List.mem_map.mp h
    exact List.any_eq_true.mpr ⟨(.inr e.1, .str e.2), List.mem_map.mpr ⟨e, he, rfl⟩, decide_eq_true rfl⟩
section
variable {S : Sc} {M M1 M2 : AtM}
theorem at_you (ok : SpOk S) (hk : ∀ n, n ∈ M.map Prod.fst ↔ n ∈ ofS S nonroom) (hy : ∀ y, atv M S.you = some y → y ∈ roomsS S) : ∃ l, Cf (atv M) S.you l := by
  cases h : atv M S.you with
  | none => exact ⟨[], .nil h⟩
  | some y =>
    refine ⟨[y], .cons h (.nil (atv_none.mpr fun z => ?_))⟩
    obtain ⟨k, k1, k2⟩ := of_disj ok ((hk y).mp z) (mem_rooms.mp (hy y h))
    rw [List.mem_singleton.mp k2] at k1
    exact absurd k1 (by decide +kernel)
theorem at_room (ok : SpOk S) (hk : ∀ n, n ∈ M.map Prod.fst ↔ n ∈ ofS S nonroom) {y : Str} (h : y ∈ roomsS S) : Cf (atv M) y [] := .nil (atv_none.mpr fun z => by
  obtain ⟨k, k1, k2⟩ := of_disj ok ((hk y).mp z) (mem_rooms.mp h)
  rw [List.mem_singleton.mp k2] at k1
  exact absurd k1 (by decide +kernel))
theorem hold3 (ok : SpOk S) {y : Str} (h : y ∈ ofS S holders3) : y ∈ roomsS S ∨ y ∈ ofS S ["box"] ∨ y = S.you := by
  obtain ⟨r, e1, e2, e3⟩ := mem_of.mp h
  have : r.kind = "room" ∨ r.kind = "box" ∨ r.kind = "you" := (by decide +kernel : ∀ k ∈ holders3, k = "room" ∨ k = "box" ∨ k = "you") _ e3
  rcases this with c | c | c
  · exact .inl (mem_rooms.mpr (mem_of.mpr ⟨r, e1, e2, List.mem_singleton.mpr c⟩))
  · exact .inr (.inl (mem_of.mpr ⟨r, e1, e2, List.mem_singleton.mpr c⟩))
  · exact .inr (.inr (by rw [← e2]; exact (ok.yu r e1).mp c))
theorem mix_vals (A1 : AtOk S M1) (A2 : AtOk S M2) (hv : ∀ y, atv M y = atv M1 y ∨ atv M y = atv M2 y) : (∀ x y, atv M x = some y → y ∈ ofS S holders3) ∧ ∀ y, atv M S.you = some y → y ∈ roomsS S := by
  constructor
  · intro x y h
    rcases hv x with e | e
    · rw [e] at h
      exact A1.vs _ (atv_mem h)
    · rw [e] at h
      exact A2.vs _ (atv_mem h)
  · intro y h
    rcases hv S.you with e | e
    · rw [e] at h
      exact A1.vy _ (atv_mem h) rfl
    · rw [e] at h
      exact A2.vy _ (atv_mem h) rfl
theorem at_mix (ok : SpOk S) (A1 : AtOk S M1) (A2 : AtOk S M2) (hk : M.map Prod.fst = M1.map Prod.fst) (hv : ∀ y, atv M y = atv M1 y ∨ atv M y = atv M2 y) (hb : ∀ b ∈ ofS S ["box"], ∃ l, Cf (atv M) b l) : AtOk S M := by
  have nd : (M.map Prod.fst).Nodup := by rw [hk]; exact A1.nd
  have ks : ∀ n, n ∈ M.map Prod.fst ↔ n ∈ ofS S nonroom := fun n => by rw [hk]; exact A1.ks n
  obtain ⟨v1, v2⟩ := mix_vals A1 A2 hv
  refine ⟨nd, ks, fun e he => v1 e.1 e.2 (atv_of nd he), fun e he hy => v2 e.2 (by rw [← hy]; exact atv_of nd he), fun x => ?_⟩
  cases h : atv M x with
  | none => exact ⟨[], .nil h⟩
  | some y =>
    rcases hold3 ok (v1 x y h) with c | c | c
    · exact ⟨_, .cons h (at_room ok ks c)⟩
    · obtain ⟨l, hl⟩ := hb y c
      exact ⟨_, .cons h hl⟩
    · obtain ⟨l, hl⟩ := at_you ok ks v2
      rw [← c] at hl
      exact ⟨_, .cons h hl⟩
theorem at_trans (ok : SpOk S) (A1 : AtOk S M1) (A2 : AtOk S M2) (hk : M.map Prod.fst = M1.map Prod.fst) (hv : ∀ y, atv M y = atv M1 y ∨ atv M y = atv M2 y) (he : ∀ b ∈ ofS S ["box"], atv M b = atv M1 b) : ∀ b ∈ ofS S ["box"], ∃ l, Cf (atv M) b l := by
  have ks : ∀ n, n ∈ M.map Prod.fst ↔ n ∈ ofS S nonroom := fun n => by rw [hk]; exact A1.ks n
  obtain ⟨v1, v2⟩ := mix_vals A1 A2 hv
  intro b hb
  obtain ⟨l, hl⟩ := A1.fin b
  induction hl with
  | nil h => exact ⟨[], .nil (by rw [he _ hb]; exact h)⟩
  | @cons x y l h _ ih =>
    have hx : atv M x = some y := by rw [he _ hb]; exact h
    rcases hold3 ok (v1 x y hx) with c | c | c
    · exact ⟨_, .cons hx (at_room ok ks c)⟩
    · obtain ⟨l', hl'⟩ := ih c
      exact ⟨_, .cons hx hl'⟩
    · obtain ⟨l', hl'⟩ := at_you ok ks v2
      rw [← c] at hl'
      exact ⟨_, .cons hx hl'⟩
end
section
variable {K : PySem.W.Frag} {H : Hp} {σ : L2.St} {td : TE}
def KeysK (x : V) (H1 : Hp) (R : It → Hp → Prop) : Prop := ∃ d o, x = .ref d ∧ ((∃ kvs, H1 d = some (.frz o (.dK kvs)) ∧ R (Itk d o kvs) H1) ∨ ∃ kvs, H1 d = some (.frz o (.dT kvs)) ∧ R (Itkt d o kvs) H1)
theorem x_keys {R : It → Hp → Prop} (q : td σ H fun x H1 => KeysK x H1 R) : iKeys td σ H R := q
theorem keysK {d : Addr} {o : Obj} {kvs : List (Key × V)} {R : It → Hp → Prop} (h : H d = some (.frz o (.dK kvs))) (q : R (Itk d o kvs) H) : KeysK (.ref d) H R := ⟨d, o, rfl, .inl ⟨kvs, h, q⟩⟩
theorem dgRd {a : Addr} {kvs : List (Key × V)} {k : Str} {v : V} {H : Hp} {Q : VK} (e : Rd H a (.dK kvs)) (l : valV kvs (.inr k) = some v) (q : Q v H) : DGK (.ref a) (.str k) H Q :=
  ⟨a, v, rfl, .inl ⟨kvs, .inr k, e, rfl, l.symm⟩, q⟩
end
section
variable {P : Program} {w : World} {K : PySem.W.Frag} {mg : Str → Option Value} {base : Heap}
def sorts : List Str := ["at", "mark"]
def spThird (K : PySem.W.Frag) : Sp := fun vs H Q _ => ∃ (v : V) (S : Sc) (f g : Addr) (rv : V) (qs : List Part) (d1 d2 c1 c2 : Addr) (M1 : AtM) (MM1 : List (Str × Int)) (M2 : AtM) (MM2 : List (Str × Int)), vs = [v, .ref f, .ref g, rv] ∧ SpecAt K H v S ∧ SpOk S ∧ H f = some (.tup [.ref d1, .ref d2]) ∧ H g = some (.tup [.ref c1, .ref c2]) ∧
  H d1 = some (.dK (dkS M1)) ∧ H d2 = some (.dK (dkI MM1)) ∧ H c1 = some (.dK (dkS M2)) ∧ H c2 = some (.dK (dkI MM2)) ∧ AtOk S M1 ∧ AtOk S M2 ∧ (MM1.map Prod.fst).Nodup ∧ MM1.map Prod.fst = MM2.map Prod.fst ∧ MM1.length ≤ 100 ∧
  Dp K H rv (.tuple (qs.map partD)) ∧ (∀ e ∈ qs, OkP e) ∧ (∀ n ∈ MM1.map Prod.fst, OkS n) ∧
  ∀ p H' e1 e2 M3 MM3, Same H H' → H' p = some (.tup [.ref e1, .ref e2]) → H' e1 = some (.dK (dkS M3)) → H' e2 = some (.dK (dkI MM3)) → AtOk S M3 → MM3.map Prod.fst = MM1.map Prod.fst → (∀ n, (("at", n) : Part) ∈ qs → atv M3 n = atv M1 n) → Q (.ref p) H'
theorem sc_law_third : FnScope ["_law_spec_here", "_law_first", "_law_second", "_law_reads", "_law_found", "_law_k", "_law_name", "_law_box"] ["_law_spec_here", "_law_first", "_law_second", "_law_reads"] (defScope s_law_third) := ⟨rfl, rfl, rfl, by decide +kernel, rfl, by decide +kernel, by decide +kernel⟩
theorem ok_law_third (t : T K mg) : C8.Cal P w K mg base 3 "_law_third" (spThird K) [] := by
  have c_law_of := ok_law_of (P := P) (w := w) (base := base) t
  have c_law_has_ring := ok_law_has_ring (P := P) (w := w) (base := base) t
  refine cal t.f_law_third t.g_law_third sc_law_third (fun _ _ _ _ _ _ us hl => match us, hl with | [_, _, _, _], _ => rfl) (fun vs H Q E h => ?_) fun cdv A outer s H vs Q E hr h => ?_
  · obtain ⟨v, S, f, g, rv, qs, d1, d2, c1, c2, M1, MM1, M2, MM2, rfl, _⟩ := h
    rfl
  · obtain ⟨v, S, f, g, rv, qs, d1, d2, c1, c2, M1, MM1, M2, MM2, rfl, hS, ok, hf, hg, hd1, hd2, hc1, hc2, A1, A2, nm1, nm2, zm, hrv, oq, om, k⟩ := h
    refine ⟨_, (pss_cons (ps_set (i := 4) sc_law_third.nd rfl (Or.inl rfl) (pe_tup (pa_cons pe_dnewK (pa_cons pe_dnewK pa_nil))))
      (pss_cons (ps_for PassesOwn.never (by rfl) (pi_range1 (by rfl) t.b_range (pa_cons pe_int pa_nil)) (pg_name (i := 5) sc_law_third.nd rfl (Or.inl rfl)) (pss_one (ps_lock (ps_for PassesOwn.never (by rfl) (pi_keys (pe_ix (ix_tup' (K := K) rfl) (L2.pv 1) (L2.pv 5) (fun _ _ => rfl))) (pg_name (i := 6) sc_law_third.nd rfl (Or.inl rfl)) (pss_one (ps_dput (hu_of hr) (pe_ix (ix_tup' (K := K) rfl) (L2.pv 4) (L2.pv 5) (fun _ _ => rfl)) (L2.pv 6) (pe_dget (hu_of hr) (pe_ix (ix_tup' (K := K) rfl) (pe_ix (ix_list' (K := K) rfl) (pe_lst (pa_cons (L2.pv 2) (pa_cons (L2.pv 1) pa_nil))) (pe_callTy call_int1 (by rfl) t.b_int (by decide +kernel) (pa_cons (pe_cmpR (op_inP (K := K) rfl (u65 hr)) (pe_tup (pa_cons (pe_ix (ix_list' (K := K) rfl) (pe_lst (pa_cons pe_str (pa_cons pe_str pa_nil))) (L2.pv 5) (fun _ _ => rfl)) (pa_cons (L2.pv 6) pa_nil))) (L2.pv 3) (by rfl)) pa_nil)) (fun _ _ => rfl)) (L2.pv 5) (fun _ _ => rfl)) (L2.pv 6) (fun _ _ => rfl)) rfl))))))
      (pss_cons (ps_if (pt_val (C8.pe_c c_law_has_ring hr (by decide) (by rfl) (pa_cons (L2.pv 0) (pa_cons (pe_ix (ix_tup' (K := K) rfl) (L2.pv 4) pe_int (fun _ _ => rfl)) pa_nil)))) (pss_one (ps_for PassesOwn.never (by rfl) (pi_list' (K := K) rfl (C8.pe_c c_law_of hr (by decide) (by rfl) (pa_cons (L2.pv 0) (pa_cons (pe_lst (pa_cons pe_str pa_nil)) pa_nil)))) (pg_name (i := 7) sc_law_third.nd rfl (Or.inl rfl)) (pss_one (ps_dput (hu_of hr) (pe_ix (ix_tup' (K := K) rfl) (L2.pv 4) pe_int (fun _ _ => rfl)) (L2.pv 7) (pe_dget (hu_of hr) (pe_ix (ix_tup' (K := K) rfl) (L2.pv 1) pe_int (fun _ _ => rfl)) (L2.pv 7) (fun _ _ => rfl)) rfl)))) pss_nil)
      (pss_one (ps_ret (L2.pv 4)))))), ?_⟩
    clear c_law_of c_law_has_ring
    rw [dkS_as] at hd1 hc1
    rw [dkI_as] at hd2 hc2
    have nd1 : ((asS M1).map Prod.fst).Nodup := by rw [asS_keys]; exact A1.nd
    have nd2 : ((asI MM1).map Prod.fst).Nodup := by rw [asI_keys]; exact nm1
    have sub1 : ∀ n ∈ (asS M1).map Prod.fst, n ∈ (asS M2).map Prod.fst := fun n hn => by
      rw [asS_keys] at hn ⊢
      exact (A2.ks n).mpr ((A1.ks n).mp hn)
    have sub2 : ∀ n ∈ (asI MM1).map Prod.fst, n ∈ (asI MM2).map Prod.fst := fun n hn => by
      rw [asI_keys] at hn ⊢
      rw [← nm2]
      exact hn
    have ok1 : ∀ n ∈ (asS M1).map Prod.fst, OkS n := fun n hn => by
      rw [asS_keys] at hn
      obtain ⟨r, e1, e2, _⟩ := mem_of.mp ((A1.ks n).mp hn)
      rw [← e2]
      exact ok.ok r e1
    have ok2 : ∀ n ∈ (asI MM1).map Prod.fst, OkS n := fun n hn => om n (by rw [asI_keys] at hn; exact hn)
    have z1 : (asS M1).length ≤ 100 := by
      have h1 := nodup_len A1.nd (m := ofS S nonroom) fun x hx => (A1.ks x).mp hx
      have h2 := of_len ok nonroom
      unfold asS
      rw [List.length_map] at h1 ⊢
      omega
    have z2 : (asI MM1).length ≤ 100 := by unfold asI; rw [List.length_map]; exact zm
    generalize hL1 : asS M1 = La at hd1 nd1 sub1 ok1 z1
    generalize hL2 : asS M2 = Lb at hc1 sub1
    generalize hL3 : asI MM1 = Lc at hd2 nd2 sub2 ok2 z2
    generalize hL4 : asI MM2 = Ld at hc2 sub2
    walk_at "ar"
    refine x_dnewK fun e1 H1 n1 s1 g1 => ?_
    walk_at "ar"
    refine x_dnewK fun e2 H2 n2 s2 g2 => ?_
    walk_at "ar"
    refine tupK rfl fun F H3 n3 s3 g3 => ?_
    have e12 : e2 ≠ e1 := ne_new g1 n2
    have fe1 : F ≠ e1 := ne_new (s2 _ _ g1) n3
    have fe2 : F ≠ e2 := ne_new g2 n3
    have base3 : Same H (but [e1, e2] H3) := fun b o h => by
      have hb1 : b ≠ e1 := ne_of_none h n1
      have hb2 : b ≠ e2 := ne_of_none (s1 _ _ h) n2
      exact but_at (s3 _ _ (s2 _ _ (s1 _ _ h))) (by simp [hb1, hb2])
    walk_at "ar"
    refine rg1K (j := 2) (by decide) (by decide) ?_
    refine forR (fun i σ H' => (∃ o1 o2, σ = [some v, some (.ref f), some (.ref g), some rv, some (.ref F), o1, o2, none]) ∧ H' F = some (.tup [.ref e1, .ref e2]) ∧ Same H (but [e1, e2] H') ∧ H' e1 = some (.dK (dkV (if 0 < i then thr "at" qs La Lb else []))) ∧ H' e2 = some (.dK (dkV (if 1 < i then thr "mark" qs Lc Ld else [])))) ⟨⟨none, none, rfl⟩, g3, base3, s3 _ _ (s2 _ _ g1), s3 _ _ g2⟩ ?_ ?_
    · rintro i σ H4 hi ⟨⟨o1, o2, rfl⟩, hF, sm, he1, he2⟩
      have hi2 : i < 2 := hi
      obtain rfl | rfl : i = 0 ∨ i = 1 := by omega
      · walk_at "ar"
        have hf4 := but_le _ _ (sm _ _ hf)
        have hd4 := but_le _ _ (sm _ _ hd1)
        have ED : e1 ≠ d1 := fun z => (of_but (sm _ _ hd1)).2 (by rw [← z]; simp)
        have fD : f ≠ d1 := ne_of hf4 hd4 fun e => by cases e
        have FD : F ≠ d1 := ne_of hF hd4 fun e => by cases e
        refine x_lockS hd4 fun od => ?_
        walk_at "ar"
        refine x_keys ?_
        walk_at "ar"
        refine r_ixT (v := .ref d1) (.of (by rw [upd_ne fD]; exact hf4)) rfl ?_
        refine keysK upd_same ?_
        refine forW (walk_keys (d := d1) (o := od) (kvs := dkV La)) (fun j σ H' => (∃ o2, σ = [some v, some (.ref f), some (.ref g), some rv, some (.ref F), some (.int (0 + ((0 : Nat) : Int))), o2, none]) ∧ H' d1 = some (.frz od (.dK (dkV La))) ∧ Same (del e1 (upd H4 d1 (.frz od (.dK (dkV La))))) (del e1 H') ∧ H' e1 = some (.dK (dkV ((thr "at" qs La Lb).take j)))) ⟨⟨_, rfl⟩, upd_same, Same.refl _, by rw [upd_ne ED]; exact he1⟩ (fun j σ H' _ ⟨_, h, _⟩ => h) ?_ ?_
        · rintro j x σ H5 H6 hj ⟨⟨o2, rfl⟩, hD5, sm5, hE5⟩ ⟨rfl, kk, vl, hk, hx⟩
          obtain ⟨e, hL, heq⟩ := map_get hk
          cases heq
          have hx : x = V.str e.1 := hx
          subst hx
          have hlt := get_lt hL
          have hmem : e.1 ∈ La.map Prod.fst := List.mem_map.mpr ⟨e, List.mem_of_getElem? hL, rfl⟩
          have up : ∀ b o, H b = some o → b ≠ d1 → H6 b = some o := fun b o h hb => by
            have q := of_but (sm _ _ h)
            exact (of_del (sm5 _ _ (del_at (by rw [upd_ne hb]; exact q.1) fun z => q.2 (by rw [z]; simp)))).1
          have hF5 : H6 F = some (.tup [.ref e1, .ref e2]) := (of_del (sm5 _ _ (del_at (by rw [upd_ne FD]; exact hF) fe1))).1
          have rd : ∀ c M, H c = some (.dK (dkV M)) → Rd H6 c (.dK (dkV M)) := fun c M h => by
            by_cases q : c = d1
            · rw [q] at h ⊢
              rw [hd1] at h
              have h2 : dkV La = dkV M := by
                injection h with h
                injection h
              rw [← h2]
              exact .inr ⟨od, hD5⟩
            · exact .inl (up _ _ h q)
          have gD : g ≠ d1 := ne_of hg hd1 fun e => by cases e
          have hf5 := up _ _ hf fD
          have hg5 := up _ _ hg gD
          have hrv5 : Dp K H6 rv (.tuple (qs.map partD)) := dp_mono (fun b o h => up b o (of_del h).1 (of_del h).2) (del_dpK hd1 hrv)
          walk_at "ar"
          refine lstK rfl fun q6 H7 n7 s7 h7 => ?_
          walk_at "ar"
          refine lstK rfl fun q7 H8 n8 s8 h8 => ?_
          walk_at "ar"
          refine r_ixL (v := .str "at") (.of h8) rfl ?_
          walk_at "ar"
          refine tupK rfl fun p9 H9 n9 s9 h9 => ?_
          have s79 := s7.trans (s8.trans s9)
          walk_at "ar"
          refine ⟨(("at", e.1) : Part), qs, dp_part h9, dp_mono s79 hrv5, ⟨ok_at, ok1 _ hmem⟩, oq, ?_⟩
          walk_at "ar"
          refine .inr ⟨_, rfl, ?_⟩
          have hh7 := s9 _ _ (s8 _ _ h7)
          have rd9 : ∀ c M, H c = some (.dK (dkV M)) → Rd H9 c (.dK (dkV M)) := fun c M h => by
            rcases rd c M h with h | ⟨ob, h⟩
            · exact .inl (s79 _ _ h)
            · exact .inr ⟨ob, s79 _ _ h⟩
          have hE9 := s79 _ _ hE5
          have lt2 : ((thr "at" qs La Lb).take j).length ≤ 100 := by
            rw [List.length_take]
            unfold thr
            rw [List.length_map]
            omega
          have fin : ∀ y : V, y = (if (("at", e.1) : Part) ∈ qs then e.2 else (vv Lb e.1).getD e.2) → DPK (.ref e1) (.str e.1) y H9 fun H' => (∃ o2, [some v, some (.ref f), some (.ref g), some rv, some (.ref F), some (.int (0 + ((0 : Nat) : Int))), some (.str e.1), none] = [some v, some (.ref f), some (.ref g), some rv, some (.ref F), some (.int (0 + ((0 : Nat) : Int))), o2, none]) ∧ H' d1 = some (.frz od (.dK (dkV La))) ∧ Same (del e1 (upd H4 d1 (.frz od (.dK (dkV La))))) (del e1 H') ∧ H' e1 = some (.dK (dkV ((thr "at" qs La Lb).take (j + 1)))) := fun y hy => by
            refine dpK_k hE9 (by unfold dkV; rw [List.length_map]; omega) ⟨⟨_, rfl⟩, by rw [upd_ne (Ne.symm ED)]; exact s79 _ _ hD5, ?_, ?_⟩
            · rw [del_upd]
              exact sm5.trans (del_mono s79)
            · rw [upd_same]
              have ht : (thr "at" qs La Lb)[j]? = some (e.1, y) := by
                unfold thr
                rw [List.getElem?_map, hL, hy]
                rfl
              have hnm : e.1 ∉ ((thr "at" qs La Lb).take j).map Prod.fst := by
                have h1 : ((thr "at" qs La Lb).map Prod.fst).Nodup := by rw [thr_keys]; exact nd1
                have h2 : ((thr "at" qs La Lb).map Prod.fst)[j]? = some e.1 := by rw [List.getElem?_map, ht]; rfl
                rw [List.map_take]
                exact nodup_take h1 h2
              rw [putV hnm, take_succ' ht]
          by_cases hc : (("at", e.1) : Part) ∈ qs
          · rw [decide_eq_true hc]
            refine r_ixL (v := .ref f) (.of hh7) rfl ?_
            walk_at "ar"
            refine r_ixT (v := .ref d1) (.of (s79 _ _ hf5)) rfl ?_
            walk_at "ar"
            refine dgRd (rd9 _ _ hd1) (v := e.2) (by rw [valV_dkV]; exact vv_of nd1 (List.mem_of_getElem? hL)) ?_
            walk_at "ar"
            refine r_ixT (v := .ref e1) (.of (s79 _ _ hF5)) rfl ?_
            walk_at "ar"
            exact fin _ (by rw [if_pos hc])
          · rw [decide_eq_false hc]
            obtain ⟨y2, hy2⟩ := vv_some (sub1 _ hmem)
            refine r_ixL (v := .ref g) (.of hh7) rfl ?_
            walk_at "ar"
            refine r_ixT (v := .ref c1) (.of (s79 _ _ hg5)) rfl ?_
            walk_at "ar"
            refine dgRd (rd9 _ _ hc1) (v := y2) (by rw [valV_dkV]; exact hy2) ?_
            walk_at "ar"
            refine r_ixT (v := .ref e1) (.of (s79 _ _ hF5)) rfl ?_
            walk_at "ar"
            exact fin _ (by rw [if_neg hc, hy2]; rfl)
        · rintro σ H5 ⟨⟨o2, rfl⟩, hD5, sm5, hE5⟩
          have el : (dkV La).length = (thr "at" qs La Lb).length := by unfold dkV thr; rw [List.length_map, List.length_map]
          rw [el, List.take_length] at hE5
          refine ⟨hD5, ⟨_, _, rfl⟩, ?_, ?_, ?_, ?_⟩
          · rw [upd_ne FD]
            exact (of_del (sm5 _ _ (del_at (by rw [upd_ne FD]; exact hF) fe1))).1
          · intro b o h
            have q := of_but (sm _ _ h)
            refine but_at ?_ q.2
            by_cases c : b = d1
            · rw [c, hd1] at h
              cases h
              rw [c]
              exact upd_same
            · rw [upd_ne c]
              exact (of_del (sm5 _ _ (del_at (by rw [upd_ne c]; exact q.1) fun z => q.2 (by rw [z]; simp)))).1
          · rw [upd_ne ED, hE5]
            rfl
          · rw [upd_ne (fun z => (of_but (sm _ _ hd1)).2 (by rw [← z]; simp) : e2 ≠ d1)]
            exact (of_del (sm5 _ _ (del_at (by rw [upd_ne (fun z => (of_but (sm _ _ hd1)).2 (by rw [← z]; simp) : e2 ≠ d1)]; exact he2) e12))).1
      · walk_at "ar"
        have hf4 := but_le _ _ (sm _ _ hf)
        have hd4 := but_le _ _ (sm _ _ hd2)
        have ED : e2 ≠ d2 := fun z => (of_but (sm _ _ hd2)).2 (by rw [← z]; simp)
        have fD : f ≠ d2 := ne_of hf4 hd4 fun e => by cases e
        have FD : F ≠ d2 := ne_of hF hd4 fun e => by cases e
        refine x_lockS hd4 fun od => ?_
        walk_at "ar"
        refine x_keys ?_
        walk_at "ar"
        refine r_ixT (v := .ref d2) (.of (by rw [upd_ne fD]; exact hf4)) rfl ?_
        refine keysK upd_same ?_
        refine forW (walk_keys (d := d2) (o := od) (kvs := dkV Lc)) (fun j σ H' => (∃ o2, σ = [some v, some (.ref f), some (.ref g), some rv, some (.ref F), some (.int (0 + ((1 : Nat) : Int))), o2, none]) ∧ H' d2 = some (.frz od (.dK (dkV Lc))) ∧ Same (del e2 (upd H4 d2 (.frz od (.dK (dkV Lc))))) (del e2 H') ∧ H' e2 = some (.dK (dkV ((thr "mark" qs Lc Ld).take j)))) ⟨⟨_, rfl⟩, upd_same, Same.refl _, by rw [upd_ne ED]; exact he2⟩ (fun j σ H' _ ⟨_, h, _⟩ => h) ?_ ?_
        · rintro j x σ H5 H6 hj ⟨⟨o2, rfl⟩, hD5, sm5, hE5⟩ ⟨rfl, kk, vl, hk, hx⟩
          obtain ⟨e, hL, heq⟩ := map_get hk
          cases heq
          have hx : x = V.str e.1 := hx
          subst hx
          have hlt := get_lt hL
          have hmem : e.1 ∈ Lc.map Prod.fst := List.mem_map.mpr ⟨e, List.mem_of_getElem? hL, rfl⟩
          have up : ∀ b o, H b = some o → b ≠ d2 → H6 b = some o := fun b o h hb => by
            have q := of_but (sm _ _ h)
            exact (of_del (sm5 _ _ (del_at (by rw [upd_ne hb]; exact q.1) fun z => q.2 (by rw [z]; simp)))).1
          have hF5 : H6 F = some (.tup [.ref e1, .ref e2]) := (of_del (sm5 _ _ (del_at (by rw [upd_ne FD]; exact hF) fe2))).1
          have rd : ∀ c M, H c = some (.dK (dkV M)) → Rd H6 c (.dK (dkV M)) := fun c M h => by
            by_cases q : c = d2
            · rw [q] at h ⊢
              rw [hd2] at h
              have h2 : dkV Lc = dkV M := by
                injection h with h
                injection h
              rw [← h2]
              exact .inr ⟨od, hD5⟩
            · exact .inl (up _ _ h q)
          have gD : g ≠ d2 := ne_of hg hd2 fun e => by cases e
          have hf5 := up _ _ hf fD
          have hg5 := up _ _ hg gD
          have hrv5 : Dp K H6 rv (.tuple (qs.map partD)) := dp_mono (fun b o h => up b o (of_del h).1 (of_del h).2) (del_dpK hd2 hrv)
          walk_at "ar"
          refine lstK rfl fun q6 H7 n7 s7 h7 => ?_
          walk_at "ar"
          refine lstK rfl fun q7 H8 n8 s8 h8 => ?_
          walk_at "ar"
          refine r_ixL (v := .str "mark") (.of h8) rfl ?_
          walk_at "ar"
          refine tupK rfl fun p9 H9 n9 s9 h9 => ?_
          have s79 := s7.trans (s8.trans s9)
          walk_at "ar"
          refine ⟨(("mark", e.1) : Part), qs, dp_part h9, dp_mono s79 hrv5, ⟨ok_mark, ok2 _ hmem⟩, oq, ?_⟩
          walk_at "ar"
          refine .inr ⟨_, rfl, ?_⟩
          have hh7 := s9 _ _ (s8 _ _ h7)
          have rd9 : ∀ c M, H c = some (.dK (dkV M)) → Rd H9 c (.dK (dkV M)) := fun c M h => by
            rcases rd c M h with h | ⟨ob, h⟩
            · exact .inl (s79 _ _ h)
            · exact .inr ⟨ob, s79 _ _ h⟩
          have hE9 := s79 _ _ hE5
          have lt2 : ((thr "mark" qs Lc Ld).take j).length ≤ 100 := by
            rw [List.length_take]
            unfold thr
            rw [List.length_map]
            omega
          have fin : ∀ y : V, y = (if (("mark", e.1) : Part) ∈ qs then e.2 else (vv Ld e.1).getD e.2) → DPK (.ref e2) (.str e.1) y H9 fun H' => (∃ o2, [some v, some (.ref f), some (.ref g), some rv, some (.ref F), some (.int (0 + ((1 : Nat) : Int))), some (.str e.1), none] = [some v, some (.ref f), some (.ref g), some rv, some (.ref F), some (.int (0 + ((1 : Nat) : Int))), o2, none]) ∧ H' d2 = some (.frz od (.dK (dkV Lc))) ∧ Same (del e2 (upd H4 d2 (.frz od (.dK (dkV Lc))))) (del e2 H') ∧ H' e2 = some (.dK (dkV ((thr "mark" qs Lc Ld).take (j + 1)))) := fun y hy => by
            refine dpK_k hE9 (by unfold dkV; rw [List.length_map]; omega) ⟨⟨_, rfl⟩, by rw [upd_ne (Ne.symm ED)]; exact s79 _ _ hD5, ?_, ?_⟩
            · rw [del_upd]
              exact sm5.trans (del_mono s79)
            · rw [upd_same]
              have ht : (thr "mark" qs Lc Ld)[j]? = some (e.1, y) := by
                unfold thr
                rw [List.getElem?_map, hL, hy]
                rfl
              have hnm : e.1 ∉ ((thr "mark" qs Lc Ld).take j).map Prod.fst := by
                have h1 : ((thr "mark" qs Lc Ld).map Prod.fst).Nodup := by rw [thr_keys]; exact nd2
                have h2 : ((thr "mark" qs Lc Ld).map Prod.fst)[j]? = some e.1 := by rw [List.getElem?_map, ht]; rfl
                rw [List.map_take]
                exact nodup_take h1 h2
              rw [putV hnm, take_succ' ht]
          by_cases hc : (("mark", e.1) : Part) ∈ qs
          · rw [decide_eq_true hc]
            refine r_ixL (v := .ref f) (.of hh7) rfl ?_
            walk_at "ar"
            refine r_ixT (v := .ref d2) (.of (s79 _ _ hf5)) rfl ?_
            walk_at "ar"
            refine dgRd (rd9 _ _ hd2) (v := e.2) (by rw [valV_dkV]; exact vv_of nd2 (List.mem_of_getElem? hL)) ?_
            walk_at "ar"
            refine r_ixT (v := .ref e2) (.of (s79 _ _ hF5)) rfl ?_
            walk_at "ar"
            exact fin _ (by rw [if_pos hc])
          · rw [decide_eq_false hc]
            obtain ⟨y2, hy2⟩ := vv_some (sub2 _ hmem)
            refine r_ixL (v := .ref g) (.of hh7) rfl ?_
            walk_at "ar"
            refine r_ixT (v := .ref c2) (.of (s79 _ _ hg5)) rfl ?_
            walk_at "ar"
            refine dgRd (rd9 _ _ hc2) (v := y2) (by rw [valV_dkV]; exact hy2) ?_
            walk_at "ar"
            refine r_ixT (v := .ref e2) (.of (s79 _ _ hF5)) rfl ?_
            walk_at "ar"
            exact fin _ (by rw [if_neg hc, hy2]; rfl)
        · rintro σ H5 ⟨⟨o2, rfl⟩, hD5, sm5, hE5⟩
          have el : (dkV Lc).length = (thr "mark" qs Lc Ld).length := by unfold dkV thr; rw [List.length_map, List.length_map]
          rw [el, List.take_length] at hE5
          refine ⟨hD5, ⟨_, _, rfl⟩, ?_, ?_, ?_, ?_⟩
          · rw [upd_ne FD]
            exact (of_del (sm5 _ _ (del_at (by rw [upd_ne FD]; exact hF) fe2))).1
          · intro b o h
            have q := of_but (sm _ _ h)
            refine but_at ?_ q.2
            by_cases c : b = d2
            · rw [c, hd2] at h
              cases h
              rw [c]
              exact upd_same
            · rw [upd_ne c]
              exact (of_del (sm5 _ _ (del_at (by rw [upd_ne c]; exact q.1) fun z => q.2 (by rw [z]; simp)))).1
          · rw [upd_ne (fun z => (of_but (sm _ _ hd2)).2 (by rw [← z]; simp) : e1 ≠ d2)]
            exact (of_del (sm5 _ _ (del_at (by rw [upd_ne (fun z => (of_but (sm _ _ hd2)).2 (by rw [← z]; simp) : e1 ≠ d2)]; exact he1) (Ne.symm e12)))).1
          · rw [upd_ne ED, hE5]
            rfl
    · rintro σ H4 ⟨⟨o1, o2, rfl⟩, hF, sm, he1, he2⟩
      rw [if_pos (by decide), ← hL1, ← hL2, thr_asS, ← dkS_as] at he1
      rw [if_pos (by decide), ← hL3, ← hL4, thr_asI, ← dkI_as] at he2
      have ka : ∀ n, atv (thrS qs M1 M2) n = (atv M1 n).map fun v => if (("at", n) : Part) ∈ qs then v else (atv M2 n).getD v := thrS_at qs M1 M2
      have kk : (thrS qs M1 M2).map Prod.fst = M1.map Prod.fst := by unfold thrS; rw [List.map_map]; rfl
      have ki : (thrI qs MM1 MM2).map Prod.fst = MM1.map Prod.fst := by unfold thrI; rw [List.map_map]; rfl
      have kz : (thrS qs M1 M2).length ≤ 100 := by
        have := congrArg List.length kk
        rw [List.length_map, List.length_map] at this
        rw [← hL1] at z1
        unfold asS at z1
        rw [List.length_map] at z1
        omega
      have kv : ∀ y, atv (thrS qs M1 M2) y = atv M1 y ∨ atv (thrS qs M1 M2) y = atv M2 y := fun y => by
        rw [ka y]
        cases h : atv M1 y with
        | none => exact .inl rfl
        | some v1 =>
          by_cases c : (("at", y) : Part) ∈ qs
          · refine .inl ?_
            show some (if _ then _ else _) = _
            rw [if_pos c]
          · cases h2 : atv M2 y with
            | none =>
              have g1 := atv_none.mp h2
              have g2 : y ∈ M1.map Prod.fst := Decidable.byContradiction fun z => by rw [atv_none.mpr z] at h; cases h
              exact absurd ((A2.ks y).mpr ((A1.ks y).mp g2)) g1
            | some v2 =>
              refine .inr ?_
              show some (if _ then _ else _) = _
              rw [if_neg c]
              rfl
      have kq : ∀ n, (("at", n) : Part) ∈ qs → atv (thrS qs M1 M2) n = atv M1 n := fun n hn => by
        rw [ka n]
        cases atv M1 n with
        | none => rfl
        | some v1 =>
          show some (if _ then _ else _) = _
          rw [if_pos hn]
      generalize thrS qs M1 M2 = M3 at he1 ka kk kz kv kq
      generalize thrI qs MM1 MM2 = MM3 at he2 ki
      clear ka
      have S4 := sm.trans but_le
      walk_at "ar"
      refine r_ixT (v := .ref e1) (.of hF) rfl ?_
      walk_at "ar"
      refine ⟨v, S, e1, M3, rfl, spec_mono S4 hS, ok, he1, kz, fun H5 c s5 hc => ?_⟩
      walk_at "ar"
      refine iteK (fun e => ?_) fun e => ?_
      · walk_at "ar"
        refine lstK rfl fun q6 H6 n6 s6 h6 => ?_
        walk_at "ar"
        have S6 := S4.trans (s5.trans s6)
        refine ⟨v, S, q6, ["box"], rfl, spec_mono S6 hS, ok.z, .of h6, fun B H7 n7 s7 h7 => sqLK (.of h7) ?_⟩
        have s47 := s5.trans (s6.trans s7)
        have he17 := s47 _ _ he1
        have Be : B ≠ e1 := ne_new (s6 _ _ (s5 _ _ he1)) n7
        have hB7 := del_at h7 Be
        have hb0 : ∀ b o, H b = some o → del e1 H7 b = some o := fun b o h => by
          have q := of_but (sm _ _ h)
          exact del_at (s47 _ _ q.1) fun z => q.2 (by rw [z]; simp)
        have hbx : ∀ b ∈ ofS S ["box"], b ∈ M1.map Prod.fst := fun b hb => by
          obtain ⟨r, e1, e2, e3⟩ := mem_of.mp hb
          exact (A1.ks b).mpr (mem_of.mpr ⟨r, e1, e2, by rw [List.mem_singleton.mp e3]; decide +kernel⟩)
        refine forL (xs := (ofS S ["box"]).map V.str) (fun j σ H' => (∃ o, σ = [some v, some (.ref f), some (.ref g), some rv, some (.ref F), o1, o2, o]) ∧ Same (del e1 H7) (del e1 H') ∧ ∃ M, H' e1 = some (.dK (dkS M)) ∧ M.map Prod.fst = M1.map Prod.fst ∧ ∀ y, atv M y = if y ∈ (ofS S ["box"]).take j then atv M1 y else atv M3 y) ⟨⟨none, rfl⟩, Same.refl _, M3, he17, kk, fun y => by rw [List.take_zero]; rfl⟩ (fun j σ H' _ ⟨_, sm, _⟩ => .of (del_le _ _ (sm _ _ hB7))) ?_ ?_
        · rintro j x σ H8 hj ⟨⟨o, rfl⟩, sm8, M, hM, hk, ha⟩
          obtain ⟨b, hb, rfl⟩ := map_get hj
          have hbm := hbx b (List.mem_of_getElem? hb)
          obtain ⟨y, hy⟩ : ∃ y, atv M1 b = some y := by
            cases h : atv M1 b with
            | none => exact absurd hbm (atv_none.mp h)
            | some y => exact ⟨y, rfl⟩
          have up8 : ∀ b o, H b = some o → H8 b = some o := fun b o h => del_le _ _ (sm8 _ _ (hb0 b o h))
          have hF8 : H8 F = some (.tup [.ref e1, .ref e2]) := del_le _ _ (sm8 _ _ (del_at (s47 _ _ hF) fe1))
          walk_at "ar"
          refine r_ixT (v := .ref d1) (.of (up8 _ _ hf)) rfl ?_
          walk_at "ar"
          have hd8 : H8 d1 = some (.dK (dkS M1)) := by
            have := up8 _ _ hd1
            rwa [← hL1, ← dkS_as] at this
          refine dgRd (.inl hd8) (v := .str y) (by rw [valV_dkS, hy]; rfl) ?_
          walk_at "ar"
          refine r_ixT (v := .ref e1) (.of hF8) rfl ?_
          walk_at "ar"
          have lM := congrArg List.length hk
          rw [List.length_map, List.length_map] at lM
          have lM1 : M1.length ≤ 100 := by
            rw [← hL1] at z1
            unfold asS at z1
            rwa [List.length_map] at z1
          refine dpK_k hM (by unfold dkS; rw [List.length_map]; omega) ?_
          have hbk : b ∈ M.map Prod.fst := by rw [hk]; exact hbm
          rw [repl_put M b y hbk]
          refine x_next ⟨⟨_, rfl⟩, by rw [del_upd]; exact sm8, _, upd_same, by rw [repl_keys]; exact hk, fun z => ?_⟩
          rw [repl_at M b y z hbk, take_succ' hb]
          by_cases c : z = b
          · rw [if_pos c, if_pos (by rw [c]; simp), c, hy]
          · rw [if_neg c, ha z]
            by_cases c2 : z ∈ (ofS S ["box"]).take j
            · rw [if_pos c2, if_pos (List.mem_append.mpr (.inl c2))]
            · rw [if_neg c2, if_neg fun z' => ?_]
              rcases List.mem_append.mp z' with z' | z'
              · exact c2 z'
              · exact c (List.mem_singleton.mp z')
        · rintro σ H8 ⟨⟨o, rfl⟩, sm8, M, hM, hk, ha⟩
          rw [List.length_map, List.take_length] at ha
          have hF8 : H8 F = some (.tup [.ref e1, .ref e2]) := del_le _ _ (sm8 _ _ (del_at (s47 _ _ hF) fe1))
          have he28 : H8 e2 = some (.dK (dkI MM3)) := del_le _ _ (sm8 _ _ (del_at (s47 _ _ he2) e12))
          walk_at "ar"
          have hv : ∀ y, atv M y = atv M1 y ∨ atv M y = atv M2 y := fun y => by
            rw [ha y]
            by_cases c : y ∈ ofS S ["box"]
            · rw [if_pos c]; exact .inl rfl
            · rw [if_neg c]; exact kv y
          refine k F H8 e1 e2 M MM3 (fun b o h => del_le _ _ (sm8 _ _ (hb0 b o h))) hF8 hM he28 (at_mix ok A1 A2 hk hv (at_trans ok A1 A2 hk hv fun b hb => by rw [ha b, if_pos hb])) ki fun n hn => ?_
          rw [ha n]
          by_cases c : n ∈ ofS S ["box"]
          · rw [if_pos c]
          · rw [if_neg c]; exact kq n hn
      · walk_at "ar"
        exact k F H5 e1 e2 M3 MM3 (S4.trans s5) (s5 _ _ hF) (s5 _ _ he1) (s5 _ _ he2) (at_mix ok A1 A2 kk kv (hc e)) ki kq
end
end Tw
set_option maxHeartbeats 4000000
/-! Commands and deeds, drawn. -/
namespace Tw
open PySem PySem.Spec L2
local macro_rules | `(tactic| walk_at "rd1") => `(tactic| first
  | with_reducible refine x_seq ?_
  | ((with_reducible refine x_var (v := ?vv) ?hh ?_); case hh => exact rfl)
  | with_reducible refine x_c ?_
  | with_reducible refine x_op ?_
  | with_reducible refine x_fld ?_
  | with_reducible refine x_call ?_
  | with_reducible refine x_meth ?_
  | with_reducible refine x_make ?_
  | with_reducible refine x_cb ?_
  | with_reducible refine x_tup ?_
  | with_reducible refine x_lst ?_
  | with_reducible refine x_nil ?_
  | with_reducible refine x_cons ?_
  | with_reducible refine x_asg ?_
  | with_reducible refine x_name ?_
  | with_reducible refine x_ret ?_
  | with_reducible refine x_retN ?_
  | with_reducible refine x_drop ?_
  | with_reducible refine x_ifS ?_
  | with_reducible refine x_if ?_
  | with_reducible refine x_andV ?_
  | with_reducible refine x_orV ?_
  | with_reducible refine x_notV ?_
  | with_reducible refine x_test ?_
  | with_reducible refine x_tB ?_
  | with_reducible refine x_and ?_
  | with_reducible refine x_or ?_
  | with_reducible refine x_not ?_
  | with_reducible refine x_yes ?_
  | with_reducible refine x_next ?_
  | with_reducible refine x_sfld ?_
  | with_reducible refine blK ?_
  | with_reducible refine r_I0 ?_
  | with_reducible refine r_isN ?_
  | with_reducible refine r_notN ?_
  | ((with_reducible refine r_eq ?hh ?_); case hh => exact rfl)
  | ((with_reducible refine r_ne ?hh ?_); case hh => exact rfl)
  | with_reducible refine x_gnil ?_
  | with_reducible refine x_gcons ?_)
local macro_rules | `(tactic| walk_at "rd2") => `(tactic| first
  | walk_at "rd1"
  | with_reducible refine x_lc ?_
  | with_reducible refine x_for ?_
  | with_reducible refine x_itup ?_
  | with_reducible refine x_ilist ?_
  | with_reducible refine x_rng1 ?_
  | with_reducible refine x_bm ?_
  | with_reducible refine x_chain ?_
  | with_reducible refine x_istr ?_
  | with_reducible refine strK ?_
  | with_reducible refine x_sl ?_
  | with_reducible refine x_part ?_
  | with_reducible refine x_noPart ?_
  | with_reducible refine poK ?_
  | ((with_reducible refine ltK ?hh ?_); case hh => exact rfl)
  | ((with_reducible refine ltKx ?hh ?_); case hh => exact rfl)
  | with_reducible refine x_dput ?_
  | with_reducible refine x_dget ?_
  | with_reducible refine iteK_t ?_
  | with_reducible refine iteK_nf ?_
  | with_reducible refine iteK_nt ?_
  | with_reducible refine iteK_f ?_)
local macro_rules | `(tactic| walk_at "go") => `(tactic| repeat (walk_at "rd2"))
local macro_rules | `(tactic| walk_at "rd") => `(tactic| repeat (walk_at "rd1"))
local macro_rules | `(tactic| walk_at "at") => `(tactic| repeat (first | assumption | refine same_at' (by assumption) ?_))
local macro_rules | `(tactic| walk_at "sm") => `(tactic| repeat (first | exact Same.refl _ | assumption | refine Same.trans ?_ (by assumption)))
local macro_rules | `(tactic| walk_at "mk1") => `(tactic| first
  | with_reducible refine mk_new rfl fun _ _ _ _ _ _ => ?_
  | with_reducible refine lstK rfl fun _ _ _ _ _ => ?_
  | with_reducible refine tupK rfl fun _ _ _ _ _ => ?_
  | with_reducible refine mk_rule4 (SqL.of (by walk_at "at")) (SqL.of (by walk_at "at")) fun _ _ _ _ => ?_
  | with_reducible refine mk_rule (SqL.of (by walk_at "at")) (SqL.of (by walk_at "at")) fun _ _ _ _ => ?_
  | with_reducible refine c_refusal (SqL.of (by walk_at "at")) fun _ _ _ _ => ?_)
local macro_rules | `(tactic| walk_at "mk") => `(tactic| repeat (first | walk_at "rd2" | walk_at "mk1"))
local macro_rules | `(tactic| walk_at "ar1") => `(tactic| ((with_reducible refine r_I ?hh ?_); case hh => first | exact (show (0 : Int) < _ from by decide +kernel) | exact And.intro (by decide +kernel) (by decide +kernel) | exact Or.inr (And.intro (by decide +kernel) (by decide +kernel)) | exact Or.inl (And.intro (by decide +kernel) (by decide +kernel)) | exact And.intro (by decide +kernel) (And.intro (by decide +kernel) (by decide +kernel))))
local macro_rules | `(tactic| walk_at "ar") => `(tactic| repeat (first | walk_at "rd2" | walk_at "ar1"))

def plain4 : List Str := ["plain", "fixed", "box", "lamp"]
inductive CmOk (S : Sc) : Cm → Str → Prop
  | go (x : Str) : CmOk S ⟨"go", some x, none⟩ "way"
  | wait : CmOk S ⟨"wait", none, none⟩ "alone"
  | take {n : Str} : n ∈ ofS S plain4 → CmOk S ⟨"take", some n, none⟩ "one"
  | put {n m : Str} : n ∈ ofS S plain4 → m ∈ ofS S plain4 → CmOk S ⟨"put", some n, some m⟩ "two"
/-- a term of a deed, that means a thing -/
def TmOk (ns : List Str) (fm term : Str) : Prop := term ∈ ns ∨ (term = "it" ∧ (fm = "one" ∨ fm = "two")) ∨ (term = "other" ∧ fm = "two")
inductive DdOk (S : Sc) (fm : Str) : Str → Str → Prop
  | some {t p : Str} : TmOk (ofS S plain4) fm t → (p = "here" ∨ TmOk (ofS S holders3) fm p) → DdOk S fm t p
  | you {p : Str} : p ∈ roomsS S → DdOk S fm S.you p
section
variable {P : Program} {w : World} {K : PySem.W.Frag} {mg : Str → Option Value} {base : Heap}
theorem okS_of {S : Sc} (ok : SpOk S) {ks : List Str} {x : Str} (h : x ∈ ofS S ks) : OkS x := by
  obtain ⟨r, e1, e2, _⟩ := mem_of.mp h
  rw [← e2]
  exact ok.ok r e1
theorem del_tup {a p : Addr} {H H' : Hp} {xs : List V} (hx : XsAt H a) (n : H p = none) (h : H' p = some (.tup xs)) : del a H' p = some (.tup xs) := del_new hx n h
def spCommand (K : PySem.W.Frag) : Sp := fun vs H Q _ => ∃ v S a, vs = [v, .ref a] ∧ XsAt H a ∧ SpecAt K (del a H) v S ∧ SpOk S ∧ ∀ cv H' c fm, Xst a H H' → Dp K (del a H') cv (cmD c) → CmOk S c fm → Q cv H'
theorem sc_law_command : FnScope ["_law_spec_here", "_law_xs", "_law_some", "_law_way", "_law_one"] ["_law_spec_here", "_law_xs"] (defScope s_law_command) := ⟨rfl, rfl, rfl, by decide +kernel, rfl, by decide +kernel, by decide +kernel⟩
theorem ok_law_command (t : T K mg) : C8.Cal P w K mg base 2 "_law_command" (spCommand K) [] := by
  have c_law_take := ok_law_take (P := P) (w := w) (base := base) t
  have c_law_of := ok_law_of (P := P) (w := w) (base := base) t
  refine cal t.f_law_command t.g_law_command sc_law_command (fun _ _ _ _ _ _ us hl => match us, hl with | [_, _], _ => rfl) (fun vs H Q E h => ?_) fun cdv A outer s H vs Q E hr h => ?_
  · obtain ⟨v, S, a, rfl, _⟩ := h
    rfl
  · obtain ⟨v, S, a, rfl, hx, hS, ok, k⟩ := h
    refine ⟨_, (pss_cons (ps_set (i := 2) sc_law_command.nd rfl (Or.inl rfl) (C8.pe_c c_law_of hr (by decide) (by rfl) (pa_cons (L2.pv 0) (pa_cons (pe_lst (pa_cons pe_str (pa_cons pe_str (pa_cons pe_str (pa_cons pe_str pa_nil))))) pa_nil))))
      (pss_cons (ps_set (i := 3) sc_law_command.nd rfl (Or.inl rfl) (C8.pe_c c_law_take hr (by decide) (by rfl) (pa_cons (L2.pv 1) (pa_cons pe_int pa_nil))))
      (pss_cons (ps_if (PW.pt (pw_or (pt_cmpR (op_eqD' (K := K) rfl hr.units) (L2.pv 2) (pe_lst pa_nil) (nomark _)) (pw_or1 (pt_cmpR op_gt (L2.pv 3) pe_int (nomark _))))) (pss_one (ps_ret (pe_ix (ix_list' (K := K) rfl) (pe_lst (pa_cons (pe_tup (pa_cons pe_str (pa_cons (pe_ix (ix_list' (K := K) rfl) (pe_lst (pa_cons pe_str (pa_cons pe_str pa_nil))) (C8.pe_c c_law_take hr (by decide) (by rfl) (pa_cons (L2.pv 1) (pa_cons pe_int pa_nil))) (fun _ _ => rfl)) (pa_cons pe_non pa_nil)))) (pa_cons (pe_tup (pa_cons pe_str (pa_cons pe_non (pa_cons pe_non pa_nil)))) pa_nil))) (pe_op op_mod (L2.pv 3) pe_int) (fun _ _ => rfl)))) pss_nil)
      (pss_cons (ps_set (i := 4) sc_law_command.nd rfl (Or.inl rfl) (pe_ix (ix_list' (K := K) rfl) (L2.pv 2) (C8.pe_c c_law_take hr (by decide) (by rfl) (pa_cons (L2.pv 1) (pa_cons (pe_callB (cr_len (K := K) rfl) (by rfl) t.b_len (by decide +kernel) (pa_cons (L2.pv 2) pa_nil)) pa_nil))) (fun _ _ => rfl)))
      (pss_cons (ps_if (pt_cmpR op_lt (L2.pv 3) pe_int (nomark _)) (pss_one (ps_ret (pe_tup (pa_cons pe_str (pa_cons (L2.pv 4) (pa_cons pe_non pa_nil)))))) pss_nil)
      (pss_one (ps_ret (pe_tup (pa_cons pe_str (pa_cons (L2.pv 4) (pa_cons (pe_ix (ix_list' (K := K) rfl) (L2.pv 2) (C8.pe_c c_law_take hr (by decide) (by rfl) (pa_cons (L2.pv 1) (pa_cons (pe_callB (cr_len (K := K) rfl) (by rfl) t.b_len (by decide +kernel) (pa_cons (L2.pv 2) pa_nil)) pa_nil))) (fun _ _ => rfl)) pa_nil))))))))))), ?_⟩
    clear c_law_take c_law_of
    have hSH := spec_mono del_le hS
    walk_at "ar"
    refine lstK rfl fun q H1 n1 s1 h1 => ?_
    walk_at "ar"
    refine ⟨v, S, q, plain4, rfl, spec_mono s1 hSH, ok.z, .of h1, fun L H2 n2 s2 h2 => ?_⟩
    have x2 := hx.grow (s1.trans s2)
    have hL := del_new (hx.grow s1) n2 h2
    have X2 : Xst a H H2 := .of hx (s1.trans s2)
    have lz := of_len ok plain4
    have okl : ∀ x ∈ ofS S plain4, OkS x := fun x hx => okS_of ok hx
    have mem : ∀ x, x ∈ ofS S plain4 → x ∈ ofS S plain4 := fun _ h => h
    generalize hl : ofS S plain4 = l at hL h2 lz okl
    walk_at "ar"
    refine ⟨a, 8, rfl, x2, by decide, fun wy H3 x3 w0 w1 => ?_⟩
    have hL3 := x3.sm _ _ hL
    have X3 := X2.trans x3
    walk_at "ar"
    refine lstK rfl fun q4 H4 n4 s4 h4 => ?_
    refine r_eqD (.lst (.of (s4 _ _ (del_le _ _ hL3))) (strs_dp _)) (.lst (.of h4) .nil) (shaped_strs okl) (by decide +kernel) ?_
    rw [eqv_snil]
    have hL4 := del_mono (D := a) s4 _ _ hL3
    have X4 := X3.grow s4
    walk_at "ar"
    have alone : ∀ j : Int, 0 ≤ j → j < 2 → ∀ H5 p1 p2 q5 x, Xst a H H5 → del a H5 q5 = some (.lst [.ref p1, .ref p2]) → del a H5 p1 = some (.tup [.str "go", .str x, .non]) → del a H5 p2 = some (.tup [.str "wait", .non, .non]) → rIxL K (.ref q5) (.int j) H5 Q := fun j j0 j1 H5 p1 p2 q5 x X5 hq h1 h2 => by
      obtain rfl | rfl : j = 0 ∨ j = 1 := by omega
      · refine r_ixL (.of (del_le _ _ hq)) rfl ?_
        exact k _ H5 ⟨"go", some x, none⟩ _ X5 (.tup (.of h1) (.cons (.str _) (.cons (.str _) (.cons .non .nil)))) (.go x)
      · refine r_ixL (.of (del_le _ _ hq)) rfl ?_
        exact k _ H5 ⟨"wait", none, none⟩ _ X5 (.tup (.of h2) (.cons (.str _) (.cons .non (.cons .non .nil)))) .wait
    refine iteK (fun e => ?_) fun e => ?_
    · walk_at "ar"
      refine lstK rfl fun q5 H5 n5 s5 h5 => ?_
      have Y5 := X4.grow s5
      have hq5 := del_new X4.xs n5 h5
      walk_at "ar"
      refine ⟨a, 2, rfl, Y5.xs, by decide, fun j H6 x6 j0 j1 => ?_⟩
      have hq6 := x6.sm _ _ hq5
      obtain ⟨wd, hw1, _, _⟩ := at_some (xs := (["north", "up"] : List Str)) j0 j1
      refine r_ixL (.of (del_le _ _ hq6)) (at_map (f := V.str) hw1) ?_
      have Y6 := Y5.trans x6
      walk_at "ar"
      refine tupK rfl fun p7 H7 n7 s7 h7 => ?_
      have g7 := del_new Y6.xs n7 h7
      have Y7 := Y6.grow s7
      walk_at "ar"
      refine tupK rfl fun p8 H8 n8 s8 h8 => ?_
      have g8 := del_new Y7.xs n8 h8
      have Y8 := Y7.grow s8
      walk_at "ar"
      refine lstK rfl fun p9 H9 n9 s9 h9 => ?_
      have g9 := del_new Y8.xs n9 h9
      have Y9 := Y8.grow s9
      walk_at "ar"
      exact alone _ (Int.emod_nonneg _ (by decide)) (Int.emod_lt_of_pos _ (by decide)) H9 p7 p8 p9 wd Y9 g9 (del_mono s9 _ _ (del_mono s8 _ _ g7)) (del_mono s9 _ _ g8)
    · have lpos : 0 < l.length := by
        cases l with
        | nil => cases e
        | cons _ _ => exact Nat.succ_pos _
      walk_at "ar"
      refine iteK (fun e2 => ?_) fun e2 => ?_
      · walk_at "ar"
        refine lstK rfl fun q5 H5 n5 s5 h5 => ?_
        have Y5 := X4.grow s5
        have hq5 := del_new X4.xs n5 h5
        walk_at "ar"
        refine ⟨a, 2, rfl, Y5.xs, by decide, fun j H6 x6 j0 j1 => ?_⟩
        have hq6 := x6.sm _ _ hq5
        obtain ⟨wd, hw1, _, _⟩ := at_some (xs := (["north", "up"] : List Str)) j0 j1
        refine r_ixL (.of (del_le _ _ hq6)) (at_map (f := V.str) hw1) ?_
        have Y6 := Y5.trans x6
        walk_at "ar"
        refine tupK rfl fun p7 H7 n7 s7 h7 => ?_
        have g7 := del_new Y6.xs n7 h7
        have Y7 := Y6.grow s7
        walk_at "ar"
        refine tupK rfl fun p8 H8 n8 s8 h8 => ?_
        have g8 := del_new Y7.xs n8 h8
        have Y8 := Y7.grow s8
        walk_at "ar"
        refine lstK rfl fun p9 H9 n9 s9 h9 => ?_
        have g9 := del_new Y8.xs n9 h9
        have Y9 := Y8.grow s9
        walk_at "ar"
        exact alone _ (Int.emod_nonneg _ (by decide)) (Int.emod_lt_of_pos _ (by decide)) H9 p7 p8 p9 wd Y9 g9 (del_mono s9 _ _ (del_mono s8 _ _ g7)) (del_mono s9 _ _ g8)
      · walk_at "ar"
        refine r_len (.of (del_le _ _ hL4)) ?_
        walk_at "ar"
        refine ⟨a, _, rfl, X4.xs, by rw [List.length_map]; omega, fun j H5 x5 j0 j1 => ?_⟩
        rw [List.length_map] at j1
        have hL5 := x5.sm _ _ hL4
        have X5 := X4.trans x5
        obtain ⟨n, hn1, hn2, _⟩ := at_some (xs := l) j0 j1
        refine r_ixL (.of (del_le _ _ hL5)) (at_map (f := V.str) hn1) ?_
        walk_at "ar"
        refine iteK (fun e3 => ?_) fun e3 => ?_
        · walk_at "ar"
          refine tupK rfl fun p6 H6 n6 s6 h6 => ?_
          have g6 := del_new X5.xs n6 h6
          exact k _ H6 ⟨"take", some n, none⟩ _ (X5.grow s6) (.tup (.of g6) (.cons (.str _) (.cons (.str _) (.cons .non .nil)))) (.take (by rw [hl]; exact hn2))
        · walk_at "ar"
          refine r_len (.of (del_le _ _ hL5)) ?_
          walk_at "ar"
          refine ⟨a, _, rfl, X5.xs, by rw [List.length_map]; omega, fun i H6 x6 i0 i1 => ?_⟩
          rw [List.length_map] at i1
          have hL6 := x6.sm _ _ hL5
          have X6 := X5.trans x6
          obtain ⟨m, hm1, hm2, _⟩ := at_some (xs := l) i0 i1
          refine r_ixL (.of (del_le _ _ hL6)) (at_map (f := V.str) hm1) ?_
          walk_at "ar"
          refine tupK rfl fun p7 H7 n7 s7 h7 => ?_
          have g7 := del_new X6.xs n7 h7
          exact k _ H7 ⟨"put", some n, some m⟩ _ (X6.grow s7) (.tup (.of g7) (.cons (.str _) (.cons (.str _) (.cons (.str _) .nil)))) (.put (by rw [hl]; exact hn2) (by rw [hl]; exact hm2))
/-! ### its form, what is given -/
theorem cm_frm {S : Sc} {c : Cm} {fm : Str} (h : CmOk S c fm) : ∃ b, fVb c.verb = some b ∧ b.form = fm := by
  cases h with
  | go x => exact ⟨⟨"go", "way", none⟩, by kernel_rfl, rfl⟩
  | wait => exact ⟨⟨"wait", "alone", none⟩, by kernel_rfl, rfl⟩
  | take h => exact ⟨⟨"take", "one", none⟩, by kernel_rfl, rfl⟩
  | put h k => exact ⟨⟨"put", "two", some "in"⟩, by kernel_rfl, rfl⟩
def frmK : List (Key × V) := [(.inr "go", .str "way"), (.inr "wait", .str "alone"), (.inr "take", .str "one"), (.inr "put", .str "two")]
def spFrm (K : PySem.W.Frag) : Sp := fun vs H Q _ => ∃ cv c S fm, vs = [cv] ∧ Dp K H cv (cmD c) ∧ CmOk S c fm ∧ ∀ H', Same H H' → Q (.str fm) H'
theorem sc_law_form : FnScope ["_law_command_here"] ["_law_command_here"] (defScope s_law_form) := ⟨rfl, rfl, rfl, by decide +kernel, rfl, by decide +kernel, by decide +kernel⟩
theorem ok_law_form (t : T K mg) : C8.Cal P w K mg base 1 "_law_form" (spFrm K) [] := by
  refine cal t.f_law_form t.g_law_form sc_law_form (fun _ _ _ _ _ _ us hl => match us, hl with | [_], _ => rfl) (fun vs H Q E h => ?_) fun cdv A outer s H vs Q E hr h => ?_
  · obtain ⟨cv, c, S, fm, rfl, _⟩ := h
    rfl
  · obtain ⟨cv, c, S, fm, rfl, hc, hk, k⟩ := h
    obtain ⟨a, rfl, ha⟩ := cm_dp hc
    refine ⟨_, (pss_one (ps_ret (pe_dget (hu_of hr) (pe_disp (pps_cons pe_str pe_str (pps_cons pe_str pe_str (pps_cons pe_str pe_str (pps_cons pe_str pe_str pps_nil)))) (by rfl) (by rfl) (fun z => by cases z) (by decide)) (pe_ix (ix_tup' (K := K) rfl) (L2.pv 0) pe_int (fun _ _ => rfl)) (fun _ _ => rfl)))), ?_⟩
    walk_at "ar"
    refine x_disp fun d H1 nd s1 h1 => ?_
    repeat (first | refine x_pcons ?_ | refine x_pnil ?_ | walk_at "ar1" | walk_at "rd2")
    refine ⟨h1, frmK, rfl, by show (4 : Nat) ≤ 15; decide, ?_⟩
    have mo := (mkO nd s1 h1).upd (o' := .dK (mergeK [] frmK))
    have ek : mergeK [] frmK = frmK := by kernel_rfl
    rw [ek] at mo ⊢
    have S1 := mo.same
    have hd := mo.at_
    generalize upd H1 d (.dK frmK) = H2 at mo S1 hd
    walk_at "ar"
    refine r_ixT (i := 0) (same_sqt S1 ha) rfl ?_
    cases hk with
    | go x => exact dgRd (.inl hd) (v := .str "way") (by kernel_rfl) (k H2 S1)
    | wait => exact dgRd (.inl hd) (v := .str "alone") (by kernel_rfl) (k H2 S1)
    | take h => exact dgRd (.inl hd) (v := .str "one") (by kernel_rfl) (k H2 S1)
    | put h h2 => exact dgRd (.inl hd) (v := .str "two") (by kernel_rfl) (k H2 S1)
/-- it and other as a command gives them -/
def giv (c : Cm) : Option Str × Option Str := if c.verb = "go" then (none, none) else (c.one, c.two)
def spGiven (K : PySem.W.Frag) : Sp := fun vs H Q _ => ∃ cv c, vs = [cv] ∧ Dp K H cv (cmD c) ∧ ∀ p H', Same H H' → H p = none → H' p = some (.tup [oS (giv c).1, oS (giv c).2]) → Q (.ref p) H'
theorem sc_law_given : FnScope ["_law_command_here"] ["_law_command_here"] (defScope s_law_given) := ⟨rfl, rfl, rfl, by decide +kernel, rfl, by decide +kernel, by decide +kernel⟩
theorem ok_law_given (t : T K mg) : C8.Cal P w K mg base 1 "_law_given" (spGiven K) [] := by
  refine cal t.f_law_given t.g_law_given sc_law_given (fun _ _ _ _ _ _ us hl => match us, hl with | [_], _ => rfl) (fun vs H Q E h => ?_) fun cdv A outer s H vs Q E hr h => ?_
  · obtain ⟨cv, c, rfl, _⟩ := h
    rfl
  · obtain ⟨cv, c, rfl, hc, k⟩ := h
    obtain ⟨a, rfl, ha⟩ := cm_dp hc
    refine ⟨_, (pss_cons (ps_if (pt_cmpR op_eq (pe_ix (ix_tup' (K := K) rfl) (L2.pv 0) pe_int (fun _ _ => rfl)) pe_str (nomark _)) (pss_one (ps_ret (pe_tup (pa_cons pe_non (pa_cons pe_non pa_nil))))) pss_nil)
      (pss_one (ps_ret (pe_tup (pa_cons (pe_ix (ix_tup' (K := K) rfl) (L2.pv 0) pe_int (fun _ _ => rfl)) (pa_cons (pe_ix (ix_tup' (K := K) rfl) (L2.pv 0) pe_int (fun _ _ => rfl)) pa_nil)))))), ?_⟩
    unfold giv at k
    walk_at "ar"
    refine r_ixT (i := 0) ha rfl ?_
    walk_at "ar"
    refine iteK (fun e => ?_) fun e => ?_
    · have e : c.verb = "go" := by have := of_decide_eq_true e; injection this
      rw [if_pos e] at k
      walk_at "ar"
      exact tupK rfl fun p H1 np s1 h1 => k p H1 s1 np h1
    · have e : ¬ c.verb = "go" := fun z => of_decide_eq_false e (congrArg V.str z)
      rw [if_neg e] at k
      walk_at "ar"
      refine r_ixT (i := 1) ha rfl ?_
      walk_at "ar"
      refine r_ixT (i := 2) ha rfl ?_
      walk_at "ar"
      exact tupK rfl fun p H1 np s1 h1 => k p H1 s1 np h1
end
end Tw
set_option maxHeartbeats 4000000
/-! Deeds, drawn. -/
namespace Tw
open PySem PySem.Spec L2
local macro_rules | `(tactic| walk_at "rd1") => `(tactic| first
  | with_reducible refine x_seq ?_
  | ((with_reducible refine x_var (v := ?vv) ?hh ?_); case hh => exact rfl)
  | with_reducible refine x_c ?_
  | with_reducible refine x_op ?_
  | with_reducible refine x_fld ?_
  | with_reducible refine x_call ?_
  | with_reducible refine x_meth ?_
  | with_reducible refine x_make ?_
  | with_reducible refine x_cb ?_
  | with_reducible refine x_tup ?_
  | with_reducible refine x_lst ?_
  | with_reducible refine x_nil ?_
  | with_reducible refine x_cons ?_
  | with_reducible refine x_asg ?_
  | with_reducible refine x_name ?_
  | with_reducible refine x_ret ?_
  | with_reducible refine x_retN ?_
  | with_reducible refine x_drop ?_
  | with_reducible refine x_ifS ?_
  | with_reducible refine x_if ?_
  | with_reducible refine x_andV ?_
  | with_reducible refine x_orV ?_
  | with_reducible refine x_notV ?_
  | with_reducible refine x_test ?_
  | with_reducible refine x_tB ?_
  | with_reducible refine x_and ?_
  | with_reducible refine x_or ?_
  | with_reducible refine x_not ?_
  | with_reducible refine x_yes ?_
  | with_reducible refine x_next ?_
  | with_reducible refine x_sfld ?_
  | with_reducible refine blK ?_
  | with_reducible refine r_I0 ?_
  | with_reducible refine r_isN ?_
  | with_reducible refine r_notN ?_
  | ((with_reducible refine r_eq ?hh ?_); case hh => exact rfl)
  | ((with_reducible refine r_ne ?hh ?_); case hh => exact rfl)
  | with_reducible refine x_gnil ?_
  | with_reducible refine x_gcons ?_)
local macro_rules | `(tactic| walk_at "rd2") => `(tactic| first
  | walk_at "rd1"
  | with_reducible refine x_lc ?_
  | with_reducible refine x_for ?_
  | with_reducible refine x_itup ?_
  | with_reducible refine x_ilist ?_
  | with_reducible refine x_rng1 ?_
  | with_reducible refine x_bm ?_
  | with_reducible refine x_chain ?_
  | with_reducible refine x_istr ?_
  | with_reducible refine strK ?_
  | with_reducible refine x_sl ?_
  | with_reducible refine x_part ?_
  | with_reducible refine x_noPart ?_
  | with_reducible refine poK ?_
  | ((with_reducible refine ltK ?hh ?_); case hh => exact rfl)
  | ((with_reducible refine ltKx ?hh ?_); case hh => exact rfl)
  | with_reducible refine x_dput ?_
  | with_reducible refine x_dget ?_
  | with_reducible refine iteK_t ?_
  | with_reducible refine iteK_nf ?_
  | with_reducible refine iteK_nt ?_
  | with_reducible refine iteK_f ?_)
local macro_rules | `(tactic| walk_at "go") => `(tactic| repeat (walk_at "rd2"))
local macro_rules | `(tactic| walk_at "rd") => `(tactic| repeat (walk_at "rd1"))
local macro_rules | `(tactic| walk_at "at") => `(tactic| repeat (first | assumption | refine same_at' (by assumption) ?_))
local macro_rules | `(tactic| walk_at "sm") => `(tactic| repeat (first | exact Same.refl _ | assumption | refine Same.trans ?_ (by assumption)))
local macro_rules | `(tactic| walk_at "mk1") => `(tactic| first
  | with_reducible refine mk_new rfl fun _ _ _ _ _ _ => ?_
  | with_reducible refine lstK rfl fun _ _ _ _ _ => ?_
  | with_reducible refine tupK rfl fun _ _ _ _ _ => ?_
  | with_reducible refine mk_rule4 (SqL.of (by walk_at "at")) (SqL.of (by walk_at "at")) fun _ _ _ _ => ?_
  | with_reducible refine mk_rule (SqL.of (by walk_at "at")) (SqL.of (by walk_at "at")) fun _ _ _ _ => ?_
  | with_reducible refine c_refusal (SqL.of (by walk_at "at")) fun _ _ _ _ => ?_)
local macro_rules | `(tactic| walk_at "mk") => `(tactic| repeat (first | walk_at "rd2" | walk_at "mk1"))
local macro_rules | `(tactic| walk_at "ar1") => `(tactic| ((with_reducible refine r_I ?hh ?_); case hh => first | exact (show (0 : Int) < _ from by decide +kernel) | exact And.intro (by decide +kernel) (by decide +kernel) | exact Or.inr (And.intro (by decide +kernel) (by decide +kernel)) | exact Or.inl (And.intro (by decide +kernel) (by decide +kernel)) | exact And.intro (by decide +kernel) (And.intro (by decide +kernel) (by decide +kernel))))
local macro_rules | `(tactic| walk_at "ar") => `(tactic| repeat (first | walk_at "rd2" | walk_at "ar1"))

section
variable {P : Program} {w : World} {K : PySem.W.Frag} {mg : Str → Option Value} {base : Heap}
theorem Xst.updNew {a L : Addr} {H H' : Hp} {o : HO} (x : Xst a H H') (n : H L = none) (ne : L ≠ a) : Xst a H (upd H' L o) := ⟨fun b ob h => by
  have q := of_del (x.sm _ _ h)
  exact del_at (by rw [upd_ne (ne_of_none (of_del h).1 n)]; exact q.1) q.2, xs_upd x.xs ne⟩
theorem hpos {S : Sc} (ok : SpOk S) : 0 < (ofS S holders3).length := by
  cases hq : roomsS S with
  | nil => exact absurd hq ok.rm
  | cons r0 _ =>
    obtain ⟨r, e1, e2, e3⟩ := mem_of.mp (mem_rooms.mp (show r0 ∈ roomsS S by rw [hq]; exact List.mem_cons_self))
    exact List.length_pos_of_mem (mem_of.mpr ⟨r, e1, e2, by rw [List.mem_singleton.mp e3]; decide +kernel⟩)
def one2 : List Str := ["one", "two"]
theorem one2_mem {fm : Str} : fm ∈ one2 ↔ fm = "one" ∨ fm = "two" := by simp [one2]

def spPlace (K : PySem.W.Frag) : Sp := fun vs H Q _ => ∃ v S fm a, vs = [v, .str fm, .ref a] ∧ XsAt H a ∧ SpecAt K (del a H) v S ∧ SpOk S ∧ ∀ (p : Str) H', Xst a H H' → (p = "here" ∨ TmOk (ofS S holders3) fm p) → Q (.str p) H'
theorem sc_law_place : FnScope ["_law_spec_here", "_law_form_here", "_law_xs", "_law_names_here", "_law_some"] ["_law_spec_here", "_law_form_here", "_law_xs"] (defScope s_law_place) := ⟨rfl, rfl, rfl, by decide +kernel, rfl, by decide +kernel, by decide +kernel⟩
theorem ok_law_place (t : T K mg) : C8.Cal P w K mg base 2 "_law_place" (spPlace K) [] := by
  have c_law_take := ok_law_take (P := P) (w := w) (base := base) t
  have c_law_of := ok_law_of (P := P) (w := w) (base := base) t
  refine cal t.f_law_place t.g_law_place sc_law_place (fun _ _ _ _ _ _ us hl => match us, hl with | [_, _, _], _ => rfl) (fun vs H Q E h => ?_) fun cdv A outer s H vs Q E hr h => ?_
  · obtain ⟨v, S, fm, a, rfl, _⟩ := h
    rfl
  · obtain ⟨v, S, fm, a, rfl, hx, hS, ok, k⟩ := h
    refine ⟨_, (pss_cons (ps_set (i := 3) sc_law_place.nd rfl (Or.inl rfl) (C8.pe_c c_law_of hr (by decide) (by rfl) (pa_cons (L2.pv 0) (pa_cons (pe_lst (pa_cons pe_str (pa_cons pe_str (pa_cons pe_str pa_nil)))) pa_nil))))
      (pss_cons (ps_set (i := 4) sc_law_place.nd rfl (Or.inl rfl) (pe_lst (pa_cons (pe_ix (ix_list' (K := K) rfl) (L2.pv 3) (C8.pe_c c_law_take hr (by decide) (by rfl) (pa_cons (L2.pv 2) (pa_cons (pe_callB (cr_len (K := K) rfl) (by rfl) t.b_len (by decide +kernel) (pa_cons (L2.pv 3) pa_nil)) pa_nil))) (fun _ _ => rfl)) (pa_cons (pe_ix (ix_list' (K := K) rfl) (L2.pv 3) (C8.pe_c c_law_take hr (by decide) (by rfl) (pa_cons (L2.pv 2) (pa_cons (pe_callB (cr_len (K := K) rfl) (by rfl) t.b_len (by decide +kernel) (pa_cons (L2.pv 3) pa_nil)) pa_nil))) (fun _ _ => rfl)) (pa_cons pe_str pa_nil)))))
      (pss_cons (ps_if (pt_cmpR (op_in' (K := K) rfl) (L2.pv 1) (pe_lst (pa_cons pe_str (pa_cons pe_str pa_nil))) (by rfl)) (pss_one (ps_expr (pe_bm PySem.F.plainAttrs_list PySem.F.slot_list_append PySem.F.type_list_append mt_append (L2.pv 4) (pa_cons pe_str pa_nil)))) pss_nil)
      (pss_cons (ps_if (pt_cmpR op_eq (L2.pv 1) pe_str (nomark _)) (pss_one (ps_set (i := 4) sc_law_place.nd rfl (Or.inl rfl) (pe_op op_cat (L2.pv 4) (pe_lst (pa_cons pe_str (pa_cons pe_str pa_nil)))))) pss_nil)
      (pss_one (ps_ret (pe_ix (ix_list' (K := K) rfl) (L2.pv 4) (C8.pe_c c_law_take hr (by decide) (by rfl) (pa_cons (L2.pv 2) (pa_cons (pe_callB (cr_len (K := K) rfl) (by rfl) t.b_len (by decide +kernel) (pa_cons (L2.pv 4) pa_nil)) pa_nil))) (fun _ _ => rfl)))))))), ?_⟩
    clear c_law_take c_law_of
    have hSH := spec_mono del_le hS
    walk_at "ar"
    refine lstK rfl fun q H1 n1 s1 h1 => ?_
    walk_at "ar"
    refine ⟨v, S, q, holders3, rfl, spec_mono s1 hSH, ok.z, .of h1, fun L0 H2 n2 s2 h2 => ?_⟩
    have hL2 := del_new (hx.grow s1) n2 h2
    have X2 : Xst a H H2 := .of hx (s1.trans s2)
    have lz := of_len ok holders3
    have lp := hpos ok
    have hgood : ∀ x ∈ ofS S holders3, x = "here" ∨ TmOk (ofS S holders3) fm x := fun x hx => .inr (.inl hx)
    generalize hl : ofS S holders3 = l0 at hL2 h2 lz lp hgood
    walk_at "ar"
    refine r_len (.of (del_le _ _ hL2)) ?_
    walk_at "ar"
    refine ⟨a, _, rfl, X2.xs, by rw [List.length_map]; omega, fun i H3 x3 i0 i1 => ?_⟩
    rw [List.length_map] at i1
    have hL3 := x3.sm _ _ hL2
    have X3 := X2.trans x3
    obtain ⟨n, a1, a2, _⟩ := at_some (xs := l0) i0 i1
    refine r_ixL (.of (del_le _ _ hL3)) (at_map (f := V.str) a1) ?_
    walk_at "ar"
    refine r_len (.of (del_le _ _ hL3)) ?_
    walk_at "ar"
    refine ⟨a, _, rfl, X3.xs, by rw [List.length_map]; omega, fun j H4 x4 j0 j1 => ?_⟩
    rw [List.length_map] at j1
    have hL4 := x4.sm _ _ hL3
    have X4 := X3.trans x4
    obtain ⟨m, b1, b2, _⟩ := at_some (xs := l0) j0 j1
    refine r_ixL (.of (del_le _ _ hL4)) (at_map (f := V.str) b1) ?_
    walk_at "ar"
    refine lstK rfl fun L H5 n5 s5 h5 => ?_
    have hL5 := del_new X4.xs n5 h5
    have X5 := X4.grow s5
    have nL : H L = none := by
      cases q : H L with
      | none => rfl
      | some o =>
        have La : L ≠ a := xs_ne X4.xs n5
        have := X4.le _ _ (del_at q La)
        rw [n5] at this
        cases this
    have La : L ≠ a := xs_ne X4.xs n5
    walk_at "ar"
    refine lstK rfl fun q6 H6 n6 s6 h6 => r_inL (SqL.of h6) rfl (flat_strs one2) ?_
    rw [if_neg Bool.false_ne_true, show inV (.str fm) [V.str "one", V.str "two"] = decide (fm ∈ one2) from inV_dec fm one2]
    have hL6 := s6 _ _ h5
    have X6 := X5.grow s6
    walk_at "ar"
    have g5 : ∀ x ∈ ([n, m, "here"] : List Str), x = "here" ∨ TmOk l0 fm x := fun x hx => by
      rcases List.mem_cons.mp hx with rfl | hx
      · exact hgood _ a2
      · rcases List.mem_cons.mp hx with rfl | hx
        · exact hgood _ b2
        · exact .inl (List.mem_singleton.mp hx)
    refine iteK (fun e => ?_) fun e => ?_
    · walk_at "ar"
      refine tyK_l (.of hL6) ?_
      walk_at "ar"
      refine r_app hL6 (by simp) ?_
      have Xc := X6.updNew (o := .lst ([.str n, .str m, .str "here"] ++ [.str "it"])) nL La
      have hLc : upd H6 L (.lst ([.str n, .str m, .str "here"] ++ [.str "it"])) L = some (.lst ((([n, m, "here"] : List Str) ++ (["it"] : List Str)).map V.str)) := upd_same
      have gc : ∀ x ∈ (([n, m, "here"] : List Str) ++ (["it"] : List Str)), x = "here" ∨ TmOk l0 fm x := fun x hx => by
        rcases List.mem_append.mp hx with hx | hx
        · exact g5 x hx
        · rw [List.mem_singleton.mp hx]
          exact .inr (.inr (.inl ⟨rfl, one2_mem.mp (of_decide_eq_true e)⟩))
      have lc : 1 ≤ (([n, m, "here"] : List Str) ++ (["it"] : List Str)).length ∧ (([n, m, "here"] : List Str) ++ (["it"] : List Str)).length ≤ 10 := by simp
      generalize (([n, m, "here"] : List Str) ++ (["it"] : List Str)) = lst at hLc gc lc
      generalize upd H6 L (.lst ([.str n, .str m, .str "here"] ++ [.str "it"])) = Hc at Xc hLc
      walk_at "ar"
      refine iteK (fun e2 => ?_) fun e2 => ?_
      · have e2 : fm = "two" := by have := of_decide_eq_true e2; injection this
        walk_at "ar"
        refine lstK rfl fun q7 H7 n7 s7 h7 => ?_
        refine r_cat (s7 _ _ hLc) h7 (by rw [List.length_map]; simp; omega) fun L2 H8 n8 s8 h8 => ?_
        have X8 := Xc.grow (s7.trans s8)
        have g8 : H8 L2 = some (.lst ((lst ++ (["other", "other"] : List Str)).map V.str)) := by rw [List.map_append]; exact h8
        have aL2 := xs_ne (Xc.grow s7).xs n8
        walk_at "ar"
        refine r_len (.of g8) ?_
        walk_at "ar"
        refine ⟨a, _, rfl, X8.xs, by rw [List.length_map, List.length_append]; simp; omega, fun u H9 x9 u0 u1 => ?_⟩
        rw [List.length_map] at u1
        obtain ⟨z, z1, z2, _⟩ := at_some (xs := lst ++ (["other", "other"] : List Str)) u0 u1
        refine r_ixL (.of (x9.le _ _ (del_at g8 aL2))) (at_map (f := V.str) z1) ?_
        refine k _ _ (X8.trans x9) ?_
        rw [hl]
        rcases List.mem_append.mp z2 with z2 | z2
        · exact gc z z2
        · have : z = "other" := by simpa using z2
          exact .inr (.inr (.inr ⟨this, e2⟩))
      · walk_at "ar"
        refine r_len (.of hLc) ?_
        walk_at "ar"
        refine ⟨a, _, rfl, Xc.xs, by rw [List.length_map]; omega, fun u H9 x9 u0 u1 => ?_⟩
        rw [List.length_map] at u1
        obtain ⟨z, z1, z2, _⟩ := at_some (xs := lst) u0 u1
        refine r_ixL (.of (x9.le _ _ (del_at hLc La))) (at_map (f := V.str) z1) ?_
        exact k _ _ (Xc.trans x9) (by rw [hl]; exact gc z z2)
    · have Xc := X6
      have hLc : H6 L = some (.lst ((([n, m, "here"] : List Str)).map V.str)) := hL6
      have gc := g5
      have lc : 1 ≤ (([n, m, "here"] : List Str)).length ∧ (([n, m, "here"] : List Str)).length ≤ 10 := by simp
      generalize (([n, m, "here"] : List Str)) = lst at hLc gc lc
      generalize H6 = Hc at Xc hLc
      walk_at "ar"
      refine iteK (fun e2 => ?_) fun e2 => ?_
      · have e2 : fm = "two" := by have := of_decide_eq_true e2; injection this
        walk_at "ar"
        refine lstK rfl fun q7 H7 n7 s7 h7 => ?_
        refine r_cat (s7 _ _ hLc) h7 (by rw [List.length_map]; simp; omega) fun L2 H8 n8 s8 h8 => ?_
        have X8 := Xc.grow (s7.trans s8)
        have g8 : H8 L2 = some (.lst ((lst ++ (["other", "other"] : List Str)).map V.str)) := by rw [List.map_append]; exact h8
        have aL2 := xs_ne (Xc.grow s7).xs n8
        walk_at "ar"
        refine r_len (.of g8) ?_
        walk_at "ar"
        refine ⟨a, _, rfl, X8.xs, by rw [List.length_map, List.length_append]; simp; omega, fun u H9 x9 u0 u1 => ?_⟩
        rw [List.length_map] at u1
        obtain ⟨z, z1, z2, _⟩ := at_some (xs := lst ++ (["other", "other"] : List Str)) u0 u1
        refine r_ixL (.of (x9.le _ _ (del_at g8 aL2))) (at_map (f := V.str) z1) ?_
        refine k _ _ (X8.trans x9) ?_
        rw [hl]
        rcases List.mem_append.mp z2 with z2 | z2
        · exact gc z z2
        · have : z = "other" := by simpa using z2
          exact .inr (.inr (.inr ⟨this, e2⟩))
      · walk_at "ar"
        refine r_len (.of hLc) ?_
        walk_at "ar"
        refine ⟨a, _, rfl, Xc.xs, by rw [List.length_map]; omega, fun u H9 x9 u0 u1 => ?_⟩
        rw [List.length_map] at u1
        obtain ⟨z, z1, z2, _⟩ := at_some (xs := lst) u0 u1
        refine r_ixL (.of (x9.le _ _ (del_at hLc La))) (at_map (f := V.str) z1) ?_
        exact k _ _ (Xc.trans x9) (by rw [hl]; exact gc z z2)

def spMoved (K : PySem.W.Frag) : Sp := fun vs H Q _ => ∃ v S fm a, vs = [v, .str fm, .ref a] ∧ XsAt H a ∧ SpecAt K (del a H) v S ∧ SpOk S ∧ ∀ q H' (t p : Str), Xst a H H' → del a H' q = some (.tup [.str "move", .str t, .str p]) → DdOk S fm t p → Q (.ref q) H'
theorem sc_law_moved : FnScope ["_law_spec_here", "_law_form_here", "_law_xs", "_law_some", "_law_rooms"] ["_law_spec_here", "_law_form_here", "_law_xs"] (defScope s_law_moved) := ⟨rfl, rfl, rfl, by decide +kernel, rfl, by decide +kernel, by decide +kernel⟩
theorem ok_law_moved (t : T K mg) : C8.Cal P w K mg base 3 "_law_moved" (spMoved K) [] := by
  have c_law_take := ok_law_take (P := P) (w := w) (base := base) t
  have c_law_of := ok_law_of (P := P) (w := w) (base := base) t
  have c_law_place := ok_law_place (P := P) (w := w) (base := base) t
  refine cal t.f_law_moved t.g_law_moved sc_law_moved (fun _ _ _ _ _ _ us hl => match us, hl with | [_, _, _], _ => rfl) (fun vs H Q E h => ?_) fun cdv A outer s H vs Q E hr h => ?_
  · obtain ⟨v, S, fm, a, rfl, _⟩ := h
    rfl
  · obtain ⟨v, S, fm, a, rfl, hx, hS, ok, k⟩ := h
    refine ⟨_, (pss_cons (ps_set (i := 3) sc_law_moved.nd rfl (Or.inl rfl) (C8.pe_c c_law_of hr (by decide) (by rfl) (pa_cons (L2.pv 0) (pa_cons (pe_lst (pa_cons pe_str (pa_cons pe_str (pa_cons pe_str (pa_cons pe_str (pa_cons pe_str pa_nil)))))) pa_nil))))
      (pss_cons (ps_if (pt_cmpR (op_in' (K := K) rfl) (L2.pv 1) (pe_lst (pa_cons pe_str (pa_cons pe_str pa_nil))) (by rfl)) (pss_one (ps_set (i := 3) sc_law_moved.nd rfl (Or.inl rfl) (pe_op op_cat (L2.pv 3) (pe_lst (pa_cons pe_str (pa_cons pe_str (pa_cons pe_str pa_nil))))))) pss_nil)
      (pss_cons (ps_if (pt_cmpR op_eq (L2.pv 1) pe_str (nomark _)) (pss_one (ps_set (i := 3) sc_law_moved.nd rfl (Or.inl rfl) (pe_op op_cat (L2.pv 3) (pe_lst (pa_cons pe_str (pa_cons pe_str pa_nil)))))) pss_nil)
      (pss_cons (ps_if (PW.pt (pw_or (pt_cmpR (op_eqD' (K := K) rfl hr.units) (L2.pv 3) (pe_lst pa_nil) (nomark _)) (pw_or1 (pt_cmpR op_eq (C8.pe_c c_law_take hr (by decide) (by rfl) (pa_cons (L2.pv 2) (pa_cons pe_int pa_nil))) pe_int (nomark _))))) (pss_cons (ps_set (i := 4) sc_law_moved.nd rfl (Or.inl rfl) (C8.pe_c c_law_of hr (by decide) (by rfl) (pa_cons (L2.pv 0) (pa_cons (pe_lst (pa_cons pe_str pa_nil)) pa_nil))))
      (pss_one (ps_ret (pe_tup (pa_cons pe_str (pa_cons (pe_dget (hu_of hr) (L2.pv 0) pe_str (fun _ _ => rfl)) (pa_cons (pe_ix (ix_list' (K := K) rfl) (L2.pv 4) (C8.pe_c c_law_take hr (by decide) (by rfl) (pa_cons (L2.pv 2) (pa_cons (pe_callB (cr_len (K := K) rfl) (by rfl) t.b_len (by decide +kernel) (pa_cons (L2.pv 4) pa_nil)) pa_nil))) (fun _ _ => rfl)) pa_nil))))))) pss_nil)
      (pss_one (ps_ret (pe_tup (pa_cons pe_str (pa_cons (pe_ix (ix_list' (K := K) rfl) (L2.pv 3) (C8.pe_c c_law_take hr (by decide) (by rfl) (pa_cons (L2.pv 2) (pa_cons (pe_callB (cr_len (K := K) rfl) (by rfl) t.b_len (by decide +kernel) (pa_cons (L2.pv 3) pa_nil)) pa_nil))) (fun _ _ => rfl)) (pa_cons (C8.pe_c c_law_place hr (by decide) (by rfl) (pa_cons (L2.pv 0) (pa_cons (L2.pv 1) (pa_cons (L2.pv 2) pa_nil)))) pa_nil)))))))))), ?_⟩
    clear c_law_take c_law_of c_law_place
    have hSH := spec_mono del_le hS
    walk_at "ar"
    refine lstK rfl fun q H1 n1 s1 h1 => ?_
    walk_at "ar"
    refine ⟨v, S, q, ["plain", "fixed", "box", "lamp", "box"], rfl, spec_mono s1 hSH, ok.z, .of h1, fun L0 H2 n2 s2 h2 => ?_⟩
    have s12 := s1.trans s2
    have X2 : Xst a H H2 := .of hx s12
    have l5 : ofS S ["plain", "fixed", "box", "lamp", "box"] = ofS S plain4 := by
      unfold ofS
      congr 1
      refine List.filter_congr fun r _ => ?_
      have : r.kind ∈ (["plain", "fixed", "box", "lamp", "box"] : List Str) ↔ r.kind ∈ plain4 := by
        constructor
        · exact (by decide +kernel : ∀ k ∈ (["plain", "fixed", "box", "lamp", "box"] : List Str), k ∈ plain4) _
        · exact (by decide +kernel : ∀ k ∈ plain4, k ∈ (["plain", "fixed", "box", "lamp", "box"] : List Str)) _
      by_cases c : r.kind ∈ plain4
      · rw [decide_eq_true c, decide_eq_true (this.mpr c)]
      · rw [decide_eq_false c, decide_eq_false fun z => c (this.mp z)]
    rw [l5] at h2
    have lz := of_len ok plain4
    have g0 : ∀ x ∈ ofS S plain4, TmOk (ofS S plain4) fm x := fun x hx => .inl hx
    have o0 : ∀ x ∈ ofS S plain4, OkS x := fun x hx => okS_of ok hx
    have hL2 := del_new (hx.grow s1) n2 h2
    have a0 := xs_ne (hx.grow s1) n2
    walk_at "ar"
    refine lstK rfl fun q6 H6 n6 s6 h6 => r_inL (SqL.of h6) rfl (flat_strs one2) ?_
    rw [if_neg Bool.false_ne_true, show inV (.str fm) [V.str "one", V.str "two"] = decide (fm ∈ one2) from inV_dec fm one2]
    have hL6 := s6 _ _ h2
    have X6 := X2.grow s6
    walk_at "ar"
    refine iteK (fun e => ?_) fun e => ?_
    · walk_at "ar"
      refine lstK rfl fun q7 H7 n7 s7 h7 => ?_
      refine r_cat (s7 _ _ hL6) h7 (by rw [List.length_map]; simp; omega) fun Lc H8 n8 s8 h8 => ?_
      have Xc := X6.grow (s7.trans s8)
      have hLc : H8 Lc = some (.lst ((ofS S plain4 ++ (["it", "it", "it"] : List Str)).map V.str)) := by rw [List.map_append]; exact h8
      have ac := xs_ne (X6.grow s7).xs n8
      have gc : ∀ x ∈ ofS S plain4 ++ (["it", "it", "it"] : List Str), TmOk (ofS S plain4) fm x := fun x hx => by
        rcases List.mem_append.mp hx with hx | hx
        · exact g0 x hx
        · have : x = "it" := by simpa using hx
          exact .inr (.inl ⟨this, one2_mem.mp (of_decide_eq_true e)⟩)
      have oc : ∀ x ∈ ofS S plain4 ++ (["it", "it", "it"] : List Str), OkS x := fun x hx => by
        rcases List.mem_append.mp hx with hx | hx
        · exact o0 x hx
        · have : x = "it" := by simpa using hx
          rw [this]
          decide +kernel
      have lc : (ofS S plain4 ++ (["it", "it", "it"] : List Str)).length ≤ 23 := by rw [List.length_append]; simp; omega
      generalize ofS S plain4 ++ (["it", "it", "it"] : List Str) = lst at hLc gc oc lc
      generalize H8 = Hc at Xc hLc
      walk_at "ar"
      refine iteK (fun e2 => ?_) fun e2 => ?_
      · have e2 : fm = "two" := by have := of_decide_eq_true e2; injection this
        walk_at "ar"
        refine lstK rfl fun q9 H9 n9 s9 h9 => ?_
        refine r_cat (s9 _ _ hLc) h9 (by rw [List.length_map]; simp; omega) fun Ld Hd nd sd hd => ?_
        have Xd := Xc.grow (s9.trans sd)
        have hLd : Hd Ld = some (.lst ((lst ++ (["other", "other"] : List Str)).map V.str)) := by rw [List.map_append]; exact hd
        have ad := xs_ne (Xc.grow s9).xs nd
        have gd : ∀ x ∈ lst ++ (["other", "other"] : List Str), TmOk (ofS S plain4) fm x := fun x hx => by
          rcases List.mem_append.mp hx with hx | hx
          · exact gc x hx
          · have : x = "other" := by simpa using hx
            exact .inr (.inr ⟨this, e2⟩)
        have od : ∀ x ∈ lst ++ (["other", "other"] : List Str), OkS x := fun x hx => by
          rcases List.mem_append.mp hx with hx | hx
          · exact oc x hx
          · have : x = "other" := by simpa using hx
            rw [this]
            decide +kernel
        have ld : (lst ++ (["other", "other"] : List Str)).length ≤ 25 := by rw [List.length_append]; simp; omega
        generalize lst ++ (["other", "other"] : List Str) = ls2 at hLd gd od ld
        walk_at "ar"
        refine lstK rfl fun qa Ha na sa ha => ?_
        refine r_eqD (.lst (.of (sa _ _ hLd)) (strs_dp _)) (.lst (.of ha) .nil) (shaped_strs od) (by decide +kernel) ?_
        rw [eqv_snil]
        have Xa := Xd.grow sa
        have hLa := sa _ _ hLd
        walk_at "ar"
        refine iteK (fun e3 => ?_) fun e3 => ?_
        · walk_at "ar"
          refine lstK rfl fun qr Hr nr sr hr' => ?_
          walk_at "ar"
          have Xr := Xa.grow sr
          have hSr : SpecAt K Hr v S := spec_mono (Xr.sm.trans del_le) hS
          refine ⟨v, S, qr, ["room"], rfl, hSr, ok.z, .of hr', fun LR HR nR sR hR => ?_⟩
          rw [of_rooms] at hR
          have XR := Xr.grow sR
          have aR := xs_ne Xr.xs nR
          walk_at "ar"
          refine sp_you (spec_mono sR hSr) (Same.refl _) ?_
          walk_at "ar"
          refine r_len (.of hR) ?_
          walk_at "ar"
          refine ⟨a, _, rfl, XR.xs, by rw [List.length_map]; have := List.length_pos_iff.mpr ok.rm; omega, fun w' HS xS w0 w1 => ?_⟩
          rw [List.length_map] at w1
          obtain ⟨rm, r1, r2, _⟩ := at_some (xs := roomsS S) w0 w1
          refine r_ixL (.of (xS.le _ _ (del_at hR aR))) (at_map (f := V.str) r1) ?_
          walk_at "ar"
          refine tupK rfl fun pT HT nT sT hT => ?_
          exact k pT HT _ _ ((XR.trans xS).grow sT) (del_new xS.xs nT hT) (.you r2)
        have lpos : 0 < ls2.length := by
          cases ls2 with
          | nil => cases e3
          | cons _ _ => exact Nat.succ_pos _
        walk_at "ar"
        refine ⟨a, 6, rfl, Xa.xs, by decide, fun u Hb xb u0 u1 => ?_⟩
        have Xb := Xa.trans xb
        have hLb := xb.le _ _ (del_at hLa ad)
        walk_at "ar"
        refine iteK (fun e4 => ?_) fun e4 => ?_
        · walk_at "ar"
          refine lstK rfl fun qr Hr nr sr hr' => ?_
          walk_at "ar"
          have Xr := Xb.grow sr
          have hSr : SpecAt K Hr v S := spec_mono (Xr.sm.trans del_le) hS
          refine ⟨v, S, qr, ["room"], rfl, hSr, ok.z, .of hr', fun LR HR nR sR hR => ?_⟩
          rw [of_rooms] at hR
          have XR := Xr.grow sR
          have aR := xs_ne Xr.xs nR
          walk_at "ar"
          refine sp_you (spec_mono sR hSr) (Same.refl _) ?_
          walk_at "ar"
          refine r_len (.of hR) ?_
          walk_at "ar"
          refine ⟨a, _, rfl, XR.xs, by rw [List.length_map]; have := List.length_pos_iff.mpr ok.rm; omega, fun w' HS xS w0 w1 => ?_⟩
          rw [List.length_map] at w1
          obtain ⟨rm, r1, r2, _⟩ := at_some (xs := roomsS S) w0 w1
          refine r_ixL (.of (xS.le _ _ (del_at hR aR))) (at_map (f := V.str) r1) ?_
          walk_at "ar"
          refine tupK rfl fun pT HT nT sT hT => ?_
          exact k pT HT _ _ ((XR.trans xS).grow sT) (del_new xS.xs nT hT) (.you r2)
        walk_at "ar"
        refine r_len (.of hLb) ?_
        walk_at "ar"
        refine ⟨a, _, rfl, Xb.xs, by rw [List.length_map]; omega, fun i Hi xi i0 i1 => ?_⟩
        rw [List.length_map] at i1
        obtain ⟨z, z1, z2, _⟩ := at_some (xs := ls2) i0 i1
        refine r_ixL (.of (xi.le _ _ (del_at hLb ad))) (at_map (f := V.str) z1) ?_
        have Xi := Xb.trans xi
        walk_at "ar"
        refine ⟨v, S, fm, a, rfl, Xi.xs, spec_mono Xi.sm hS, ok, fun p Hj xj gp => ?_⟩
        walk_at "ar"
        refine tupK rfl fun pT HT nT sT hT => ?_
        exact k pT HT _ _ ((Xi.trans xj).grow sT) (del_new xj.xs nT hT) (.some (gd z z2) gp)
      · have Xd := Xc
        have hLd := hLc
        have ad := ac
        have gd := gc
        have od := oc
        have ld : lst.length ≤ 25 := by omega
        generalize lst = ls2 at hLd gd od ld
        generalize Hc = Hd at Xd hLd
        generalize Lc = Ld at hLd ad
        walk_at "ar"
        refine lstK rfl fun qa Ha na sa ha => ?_
        refine r_eqD (.lst (.of (sa _ _ hLd)) (strs_dp _)) (.lst (.of ha) .nil) (shaped_strs od) (by decide +kernel) ?_
        rw [eqv_snil]
        have Xa := Xd.grow sa
        have hLa := sa _ _ hLd
        walk_at "ar"
        refine iteK (fun e3 => ?_) fun e3 => ?_
        · walk_at "ar"
          refine lstK rfl fun qr Hr nr sr hr' => ?_
          walk_at "ar"
          have Xr := Xa.grow sr
          have hSr : SpecAt K Hr v S := spec_mono (Xr.sm.trans del_le) hS
          refine ⟨v, S, qr, ["room"], rfl, hSr, ok.z, .of hr', fun LR HR nR sR hR => ?_⟩
          rw [of_rooms] at hR
          have XR := Xr.grow sR
          have aR := xs_ne Xr.xs nR
          walk_at "ar"
          refine sp_you (spec_mono sR hSr) (Same.refl _) ?_
          walk_at "ar"
          refine r_len (.of hR) ?_
          walk_at "ar"
          refine ⟨a, _, rfl, XR.xs, by rw [List.length_map]; have := List.length_pos_iff.mpr ok.rm; omega, fun w' HS xS w0 w1 => ?_⟩
          rw [List.length_map] at w1
          obtain ⟨rm, r1, r2, _⟩ := at_some (xs := roomsS S) w0 w1
          refine r_ixL (.of (xS.le _ _ (del_at hR aR))) (at_map (f := V.str) r1) ?_
          walk_at "ar"
          refine tupK rfl fun pT HT nT sT hT => ?_
          exact k pT HT _ _ ((XR.trans xS).grow sT) (del_new xS.xs nT hT) (.you r2)
        have lpos : 0 < ls2.length := by
          cases ls2 with
          | nil => cases e3
          | cons _ _ => exact Nat.succ_pos _
        walk_at "ar"
        refine ⟨a, 6, rfl, Xa.xs, by decide, fun u Hb xb u0 u1 => ?_⟩
        have Xb := Xa.trans xb
        have hLb := xb.le _ _ (del_at hLa ad)
        walk_at "ar"
        refine iteK (fun e4 => ?_) fun e4 => ?_
        · walk_at "ar"
          refine lstK rfl fun qr Hr nr sr hr' => ?_
          walk_at "ar"
          have Xr := Xb.grow sr
          have hSr : SpecAt K Hr v S := spec_mono (Xr.sm.trans del_le) hS
          refine ⟨v, S, qr, ["room"], rfl, hSr, ok.z, .of hr', fun LR HR nR sR hR => ?_⟩
          rw [of_rooms] at hR
          have XR := Xr.grow sR
          have aR := xs_ne Xr.xs nR
          walk_at "ar"
          refine sp_you (spec_mono sR hSr) (Same.refl _) ?_
          walk_at "ar"
          refine r_len (.of hR) ?_
          walk_at "ar"
          refine ⟨a, _, rfl, XR.xs, by rw [List.length_map]; have := List.length_pos_iff.mpr ok.rm; omega, fun w' HS xS w0 w1 => ?_⟩
          rw [List.length_map] at w1
          obtain ⟨rm, r1, r2, _⟩ := at_some (xs := roomsS S) w0 w1
          refine r_ixL (.of (xS.le _ _ (del_at hR aR))) (at_map (f := V.str) r1) ?_
          walk_at "ar"
          refine tupK rfl fun pT HT nT sT hT => ?_
          exact k pT HT _ _ ((XR.trans xS).grow sT) (del_new xS.xs nT hT) (.you r2)
        walk_at "ar"
        refine r_len (.of hLb) ?_
        walk_at "ar"
        refine ⟨a, _, rfl, Xb.xs, by rw [List.length_map]; omega, fun i Hi xi i0 i1 => ?_⟩
        rw [List.length_map] at i1
        obtain ⟨z, z1, z2, _⟩ := at_some (xs := ls2) i0 i1
        refine r_ixL (.of (xi.le _ _ (del_at hLb ad))) (at_map (f := V.str) z1) ?_
        have Xi := Xb.trans xi
        walk_at "ar"
        refine ⟨v, S, fm, a, rfl, Xi.xs, spec_mono Xi.sm hS, ok, fun p Hj xj gp => ?_⟩
        walk_at "ar"
        refine tupK rfl fun pT HT nT sT hT => ?_
        exact k pT HT _ _ ((Xi.trans xj).grow sT) (del_new xj.xs nT hT) (.some (gd z z2) gp)
    · have Xc := X6
      have hLc := hL6
      have ac := a0
      have gc := g0
      have oc := o0
      have lc : (ofS S plain4).length ≤ 23 := by omega
      generalize hlst : ofS S plain4 = lst at hLc oc lc
      rw [hlst] at gc
      rw [← hlst] at gc
      have gc : ∀ x ∈ lst, TmOk (ofS S plain4) fm x := fun x hx => gc x (by rw [hlst]; exact hx)
      generalize H6 = Hc at Xc hLc
      generalize L0 = Lc at hLc ac
      walk_at "ar"
      refine iteK (fun e2 => ?_) fun e2 => ?_
      · have e2 : fm = "two" := by have := of_decide_eq_true e2; injection this
        walk_at "ar"
        refine lstK rfl fun q9 H9 n9 s9 h9 => ?_
        refine r_cat (s9 _ _ hLc) h9 (by rw [List.length_map]; simp; omega) fun Ld Hd nd sd hd => ?_
        have Xd := Xc.grow (s9.trans sd)
        have hLd : Hd Ld = some (.lst ((lst ++ (["other", "other"] : List Str)).map V.str)) := by rw [List.map_append]; exact hd
        have ad := xs_ne (Xc.grow s9).xs nd
        have gd : ∀ x ∈ lst ++ (["other", "other"] : List Str), TmOk (ofS S plain4) fm x := fun x hx => by
          rcases List.mem_append.mp hx with hx | hx
          · exact gc x hx
          · have : x = "other" := by simpa using hx
            exact .inr (.inr ⟨this, e2⟩)
        have od : ∀ x ∈ lst ++ (["other", "other"] : List Str), OkS x := fun x hx => by
          rcases List.mem_append.mp hx with hx | hx
          · exact oc x hx
          · have : x = "other" := by simpa using hx
            rw [this]
            decide +kernel
        have ld : (lst ++ (["other", "other"] : List Str)).length ≤ 25 := by rw [List.length_append]; simp; omega
        generalize lst ++ (["other", "other"] : List Str) = ls2 at hLd gd od ld
        walk_at "ar"
        refine lstK rfl fun qa Ha na sa ha => ?_
        refine r_eqD (.lst (.of (sa _ _ hLd)) (strs_dp _)) (.lst (.of ha) .nil) (shaped_strs od) (by decide +kernel) ?_
        rw [eqv_snil]
        have Xa := Xd.grow sa
        have hLa := sa _ _ hLd
        walk_at "ar"
        refine iteK (fun e3 => ?_) fun e3 => ?_
        · walk_at "ar"
          refine lstK rfl fun qr Hr nr sr hr' => ?_
          walk_at "ar"
          have Xr := Xa.grow sr
          have hSr : SpecAt K Hr v S := spec_mono (Xr.sm.trans del_le) hS
          refine ⟨v, S, qr, ["room"], rfl, hSr, ok.z, .of hr', fun LR HR nR sR hR => ?_⟩
          rw [of_rooms] at hR
          have XR := Xr.grow sR
          have aR := xs_ne Xr.xs nR
          walk_at "ar"
          refine sp_you (spec_mono sR hSr) (Same.refl _) ?_
          walk_at "ar"
          refine r_len (.of hR) ?_
          walk_at "ar"
          refine ⟨a, _, rfl, XR.xs, by rw [List.length_map]; have := List.length_pos_iff.mpr ok.rm; omega, fun w' HS xS w0 w1 => ?_⟩
          rw [List.length_map] at w1
          obtain ⟨rm, r1, r2, _⟩ := at_some (xs := roomsS S) w0 w1
          refine r_ixL (.of (xS.le _ _ (del_at hR aR))) (at_map (f := V.str) r1) ?_
          walk_at "ar"
          refine tupK rfl fun pT HT nT sT hT => ?_
          exact k pT HT _ _ ((XR.trans xS).grow sT) (del_new xS.xs nT hT) (.you r2)
        have lpos : 0 < ls2.length := by
          cases ls2 with
          | nil => cases e3
          | cons _ _ => exact Nat.succ_pos _
        walk_at "ar"
        refine ⟨a, 6, rfl, Xa.xs, by decide, fun u Hb xb u0 u1 => ?_⟩
        have Xb := Xa.trans xb
        have hLb := xb.le _ _ (del_at hLa ad)
        walk_at "ar"
        refine iteK (fun e4 => ?_) fun e4 => ?_
        · walk_at "ar"
          refine lstK rfl fun qr Hr nr sr hr' => ?_
          walk_at "ar"
          have Xr := Xb.grow sr
          have hSr : SpecAt K Hr v S := spec_mono (Xr.sm.trans del_le) hS
          refine ⟨v, S, qr, ["room"], rfl, hSr, ok.z, .of hr', fun LR HR nR sR hR => ?_⟩
          rw [of_rooms] at hR
          have XR := Xr.grow sR
          have aR := xs_ne Xr.xs nR
          walk_at "ar"
          refine sp_you (spec_mono sR hSr) (Same.refl _) ?_
          walk_at "ar"
          refine r_len (.of hR) ?_
          walk_at "ar"
          refine ⟨a, _, rfl, XR.xs, by rw [List.length_map]; have := List.length_pos_iff.mpr ok.rm; omega, fun w' HS xS w0 w1 => ?_⟩
          rw [List.length_map] at w1
          obtain ⟨rm, r1, r2, _⟩ := at_some (xs := roomsS S) w0 w1
          refine r_ixL (.of (xS.le _ _ (del_at hR aR))) (at_map (f := V.str) r1) ?_
          walk_at "ar"
          refine tupK rfl fun pT HT nT sT hT => ?_
          exact k pT HT _ _ ((XR.trans xS).grow sT) (del_new xS.xs nT hT) (.you r2)
        walk_at "ar"
        refine r_len (.of hLb) ?_
        walk_at "ar"
        refine ⟨a, _, rfl, Xb.xs, by rw [List.length_map]; omega, fun i Hi xi i0 i1 => ?_⟩
        rw [List.length_map] at i1
        obtain ⟨z, z1, z2, _⟩ := at_some (xs := ls2) i0 i1
        refine r_ixL (.of (xi.le _ _ (del_at hLb ad))) (at_map (f := V.str) z1) ?_
        have Xi := Xb.trans xi
        walk_at "ar"
        refine ⟨v, S, fm, a, rfl, Xi.xs, spec_mono Xi.sm hS, ok, fun p Hj xj gp => ?_⟩
        walk_at "ar"
        refine tupK rfl fun pT HT nT sT hT => ?_
        exact k pT HT _ _ ((Xi.trans xj).grow sT) (del_new xj.xs nT hT) (.some (gd z z2) gp)
      · have Xd := Xc
        have hLd := hLc
        have ad := ac
        have gd := gc
        have od := oc
        have ld : lst.length ≤ 25 := by omega
        generalize lst = ls2 at hLd gd od ld
        generalize Hc = Hd at Xd hLd
        generalize Lc = Ld at hLd ad
        walk_at "ar"
        refine lstK rfl fun qa Ha na sa ha => ?_
        refine r_eqD (.lst (.of (sa _ _ hLd)) (strs_dp _)) (.lst (.of ha) .nil) (shaped_strs od) (by decide +kernel) ?_
        rw [eqv_snil]
        have Xa := Xd.grow sa
        have hLa := sa _ _ hLd
        walk_at "ar"
        refine iteK (fun e3 => ?_) fun e3 => ?_
        · walk_at "ar"
          refine lstK rfl fun qr Hr nr sr hr' => ?_
          walk_at "ar"
          have Xr := Xa.grow sr
          have hSr : SpecAt K Hr v S := spec_mono (Xr.sm.trans del_le) hS
          refine ⟨v, S, qr, ["room"], rfl, hSr, ok.z, .of hr', fun LR HR nR sR hR => ?_⟩
          rw [of_rooms] at hR
          have XR := Xr.grow sR
          have aR := xs_ne Xr.xs nR
          walk_at "ar"
          refine sp_you (spec_mono sR hSr) (Same.refl _) ?_
          walk_at "ar"
          refine r_len (.of hR) ?_
          walk_at "ar"
          refine ⟨a, _, rfl, XR.xs, by rw [List.length_map]; have := List.length_pos_iff.mpr ok.rm; omega, fun w' HS xS w0 w1 => ?_⟩
          rw [List.length_map] at w1
          obtain ⟨rm, r1, r2, _⟩ := at_some (xs := roomsS S) w0 w1
          refine r_ixL (.of (xS.le _ _ (del_at hR aR))) (at_map (f := V.str) r1) ?_
          walk_at "ar"
          refine tupK rfl fun pT HT nT sT hT => ?_
          exact k pT HT _ _ ((XR.trans xS).grow sT) (del_new xS.xs nT hT) (.you r2)
        have lpos : 0 < ls2.length := by
          cases ls2 with
          | nil => cases e3
          | cons _ _ => exact Nat.succ_pos _
        walk_at "ar"
        refine ⟨a, 6, rfl, Xa.xs, by decide, fun u Hb xb u0 u1 => ?_⟩
        have Xb := Xa.trans xb
        have hLb := xb.le _ _ (del_at hLa ad)
        walk_at "ar"
        refine iteK (fun e4 => ?_) fun e4 => ?_
        · walk_at "ar"
          refine lstK rfl fun qr Hr nr sr hr' => ?_
          walk_at "ar"
          have Xr := Xb.grow sr
          have hSr : SpecAt K Hr v S := spec_mono (Xr.sm.trans del_le) hS
          refine ⟨v, S, qr, ["room"], rfl, hSr, ok.z, .of hr', fun LR HR nR sR hR => ?_⟩
          rw [of_rooms] at hR
          have XR := Xr.grow sR
          have aR := xs_ne Xr.xs nR
          walk_at "ar"
          refine sp_you (spec_mono sR hSr) (Same.refl _) ?_
          walk_at "ar"
          refine r_len (.of hR) ?_
          walk_at "ar"
          refine ⟨a, _, rfl, XR.xs, by rw [List.length_map]; have := List.length_pos_iff.mpr ok.rm; omega, fun w' HS xS w0 w1 => ?_⟩
          rw [List.length_map] at w1
          obtain ⟨rm, r1, r2, _⟩ := at_some (xs := roomsS S) w0 w1
          refine r_ixL (.of (xS.le _ _ (del_at hR aR))) (at_map (f := V.str) r1) ?_
          walk_at "ar"
          refine tupK rfl fun pT HT nT sT hT => ?_
          exact k pT HT _ _ ((XR.trans xS).grow sT) (del_new xS.xs nT hT) (.you r2)
        walk_at "ar"
        refine r_len (.of hLb) ?_
        walk_at "ar"
        refine ⟨a, _, rfl, Xb.xs, by rw [List.length_map]; omega, fun i Hi xi i0 i1 => ?_⟩
        rw [List.length_map] at i1
        obtain ⟨z, z1, z2, _⟩ := at_some (xs := ls2) i0 i1
        refine r_ixL (.of (xi.le _ _ (del_at hLb ad))) (at_map (f := V.str) z1) ?_
        have Xi := Xb.trans xi
        walk_at "ar"
        refine ⟨v, S, fm, a, rfl, Xi.xs, spec_mono Xi.sm hS, ok, fun p Hj xj gp => ?_⟩
        walk_at "ar"
        refine tupK rfl fun pT HT nT sT hT => ?_
        exact k pT HT _ _ ((Xi.trans xj).grow sT) (del_new xj.xs nT hT) (.some (gd z z2) gp)
end
end Tw
set_option maxHeartbeats 4000000
/-! Deeds, drawn and made. -/
namespace Tw
open PySem PySem.Spec L2
local macro_rules | `(tactic| walk_at "rd1") => `(tactic| first
  | with_reducible refine x_seq ?_
  | ((with_reducible refine x_var (v := ?vv) ?hh ?_); case hh => exact rfl)
  | with_reducible refine x_c ?_
  | with_reducible refine x_op ?_
  | with_reducible refine x_fld ?_
  | with_reducible refine x_call ?_
  | with_reducible refine x_meth ?_
  | with_reducible refine x_make ?_
  | with_reducible refine x_cb ?_
  | with_reducible refine x_tup ?_
  | with_reducible refine x_lst ?_
  | with_reducible refine x_nil ?_
  | with_reducible refine x_cons ?_
  | with_reducible refine x_asg ?_
  | with_reducible refine x_name ?_
  | with_reducible refine x_ret ?_
  | with_reducible refine x_retN ?_
  | with_reducible refine x_drop ?_
  | with_reducible refine x_ifS ?_
  | with_reducible refine x_if ?_
  | with_reducible refine x_andV ?_
  | with_reducible refine x_orV ?_
  | with_reducible refine x_notV ?_
  | with_reducible refine x_test ?_
  | with_reducible refine x_tB ?_
  | with_reducible refine x_and ?_
  | with_reducible refine x_or ?_
  | with_reducible refine x_not ?_
  | with_reducible refine x_yes ?_
  | with_reducible refine x_next ?_
  | with_reducible refine x_sfld ?_
  | with_reducible refine blK ?_
  | with_reducible refine r_I0 ?_
  | with_reducible refine r_isN ?_
  | with_reducible refine r_notN ?_
  | ((with_reducible refine r_eq ?hh ?_); case hh => exact rfl)
  | ((with_reducible refine r_ne ?hh ?_); case hh => exact rfl)
  | with_reducible refine x_gnil ?_
  | with_reducible refine x_gcons ?_)
local macro_rules | `(tactic| walk_at "rd2") => `(tactic| first
  | walk_at "rd1"
  | with_reducible refine x_lc ?_
  | with_reducible refine x_for ?_
  | with_reducible refine x_itup ?_
  | with_reducible refine x_ilist ?_
  | with_reducible refine x_rng1 ?_
  | with_reducible refine x_bm ?_
  | with_reducible refine x_chain ?_
  | with_reducible refine x_istr ?_
  | with_reducible refine strK ?_
  | with_reducible refine x_sl ?_
  | with_reducible refine x_part ?_
  | with_reducible refine x_noPart ?_
  | with_reducible refine poK ?_
  | ((with_reducible refine ltK ?hh ?_); case hh => exact rfl)
  | ((with_reducible refine ltKx ?hh ?_); case hh => exact rfl)
  | with_reducible refine x_dput ?_
  | with_reducible refine x_dget ?_
  | with_reducible refine iteK_t ?_
  | with_reducible refine iteK_nf ?_
  | with_reducible refine iteK_nt ?_
  | with_reducible refine iteK_f ?_)
local macro_rules | `(tactic| walk_at "go") => `(tactic| repeat (walk_at "rd2"))
local macro_rules | `(tactic| walk_at "rd") => `(tactic| repeat (walk_at "rd1"))
local macro_rules | `(tactic| walk_at "at") => `(tactic| repeat (first | assumption | refine same_at' (by assumption) ?_))
local macro_rules | `(tactic| walk_at "sm") => `(tactic| repeat (first | exact Same.refl _ | assumption | refine Same.trans ?_ (by assumption)))
local macro_rules | `(tactic| walk_at "mk1") => `(tactic| first
  | with_reducible refine mk_new rfl fun _ _ _ _ _ _ => ?_
  | with_reducible refine lstK rfl fun _ _ _ _ _ => ?_
  | with_reducible refine tupK rfl fun _ _ _ _ _ => ?_
  | with_reducible refine mk_rule4 (SqL.of (by walk_at "at")) (SqL.of (by walk_at "at")) fun _ _ _ _ => ?_
  | with_reducible refine mk_rule (SqL.of (by walk_at "at")) (SqL.of (by walk_at "at")) fun _ _ _ _ => ?_
  | with_reducible refine c_refusal (SqL.of (by walk_at "at")) fun _ _ _ _ => ?_)
local macro_rules | `(tactic| walk_at "mk") => `(tactic| repeat (first | walk_at "rd2" | walk_at "mk1"))
local macro_rules | `(tactic| walk_at "ar1") => `(tactic| ((with_reducible refine r_I ?hh ?_); case hh => first | exact (show (0 : Int) < _ from by decide +kernel) | exact And.intro (by decide +kernel) (by decide +kernel) | exact Or.inr (And.intro (by decide +kernel) (by decide +kernel)) | exact Or.inl (And.intro (by decide +kernel) (by decide +kernel)) | exact And.intro (by decide +kernel) (And.intro (by decide +kernel) (by decide +kernel))))
local macro_rules | `(tactic| walk_at "ar") => `(tactic| repeat (first | walk_at "rd2" | walk_at "ar1"))

def rEqD0 : R2 := fun x y H Q => ∃ a b ks, x = .ref a ∧ y = .ref b ∧ H a = some (.dK ks) ∧ H b = some (.dK []) ∧ Q (.bl ks.isEmpty) H
theorem op_eqD0 {X : Cx} (hu : X.A.units < cLine) : OpR X (compareOp .Eq) rEqD0 := by
  intro pins s σ H x y v u Q I rx ry h
  obtain ⟨a, b, ks, rfl, rfl, ea, eb, q⟩ := h
  obtain rfl : v = Value.ref a := rx
  obtain rfl : u = Value.ref b := ry
  obtain ⟨_, ya, va, ra, da⟩ := (show ObjOk X.prog X.w H s.heap a (.dK ks) from I.hok a _ ea)
  obtain ⟨_, yb, vb, rb, db⟩ := (show ObjOk X.prog X.w H s.heap b (.dK []) from I.hok b _ eb)
  have lb : vb.length = 0 := by rw [← rb.length]; rfl
  have la : va.length = ks.length := ra.length.symm
  refine PySem.W.keq_eq (knd := mixKind X.prog X.w) (r := true) ya yb da db hu (fun hl => ?_) (fin_bl I q ?_)
  · have : ks = [] := List.length_eq_zero_iff.mp (by omega)
    subst this
    exact hits_all rb ra fun p hp => by cases hp
  · rw [la, lb]
    cases ks <;> rfl
def mKeys (S : Sc) : List Str := (mostsS S).map Prod.fst
section
variable {P : Program} {w : World} {K : PySem.W.Frag} {mg : Str → Option Value} {base : Heap}
def rSortD : List V → Hp → VK → Prop := fun xs H Q => ∃ (a : Addr) (kvs : List (Key × V)) (ks : List Str), xs = [.ref a] ∧ Rd H a (.dK kvs) ∧ kvs.map (·.1) = ks.map Sum.inr ∧ ks.length < 64 ∧
    ∀ ys p, ys.Perm ks → PyProof.Rows.sortedS ys = true → H p = none → Q (.ref p) (upd H p (.lst (ys.map V.str)))
theorem cr_sortD {X : Cx} (hc : X.calm = true) : CallR X (.builtin "sorted") rSortD := call_sortedD hc
theorem most_len {S : Sc} (ok : SpOk S) : (mostsS S).length ≤ 30 := by
  unfold mostsS
  rw [List.length_append, List.length_map, List.length_map]
  have := of_len ok ["box", "lamp"]
  have := ok.mz
  omega
theorem most_ok {S : Sc} (ok : SpOk S) : ∀ x ∈ mKeys S, OkS x := fun x hx => by
  unfold mKeys mostsS at hx
  rw [List.map_append, List.map_map, List.map_map] at hx
  rcases List.mem_append.mp hx with h | h
  · obtain ⟨n, h1, rfl⟩ := List.mem_map.mp h
    exact okS_of ok h1
  · obtain ⟨m, h1, rfl⟩ := List.mem_map.mp h
    exact ok.mks m h1
def spMarked (K : PySem.W.Frag) : Sp := fun vs H Q _ => ∃ (v : V) (S : Sc) (fm : Str) (a : Addr), vs = [v, .str fm, .ref a] ∧ XsAt H a ∧ SpecAt K (del a H) v S ∧ SpOk S ∧ (∀ e ∈ mostsS S, 0 ≤ e.2) ∧ (fm ∈ one2 ∨ mostsS S ≠ []) ∧
  ∀ q H' (t : Str) (i : Int), Xst a H H' → del a H' q = some (.tup [.str t, .int i]) → TmOk (mKeys S) fm t → Q (.ref q) H'
theorem sc_law_marked : FnScope ["_law_spec_here", "_law_form_here", "_law_xs", "_law_mosts_here", "_law_names_here", "_law_name"] ["_law_spec_here", "_law_form_here", "_law_xs"] (defScope s_law_marked) := ⟨rfl, rfl, rfl, by decide +kernel, rfl, by decide +kernel, by decide +kernel⟩
theorem ok_law_marked (t : T K mg) : C8.Cal P w K mg base 3 "_law_marked" (spMarked K) [] := by
  have c_law_take := ok_law_take (P := P) (w := w) (base := base) t
  have c_law_mosts := ok_law_mosts (P := P) (w := w) (base := base) t
  refine cal t.f_law_marked t.g_law_marked sc_law_marked (fun _ _ _ _ _ _ us hl => match us, hl with | [_, _, _], _ => rfl) (fun vs H Q E h => ?_) fun cdv A outer s H vs Q E hr h => ?_
  · obtain ⟨v, S, fm, a, rfl, _⟩ := h
    rfl
  · obtain ⟨v, S, fm, a, rfl, hx, hS, ok, hp, hne, k⟩ := h
    refine ⟨_, (pss_cons (ps_set (i := 3) sc_law_marked.nd rfl (Or.inl rfl) (C8.pe_c c_law_mosts hr (by decide) (by rfl) (pa_cons (L2.pv 0) pa_nil)))
      (pss_cons (ps_set (i := 4) sc_law_marked.nd rfl (Or.inl rfl) (pe_callB (cr_sortD (by rfl)) (by rfl) t.b_sorted (by decide +kernel) (pa_cons (L2.pv 3) pa_nil)))
      (pss_cons (ps_if (PW.pt (pw_and (pt_cmpR (op_in' (K := K) rfl) (L2.pv 1) (pe_lst (pa_cons pe_str (pa_cons pe_str pa_nil))) (by rfl)) (pw_and1 (PW.pt (pw_or (pt_cmpR (op_eqD' (K := K) rfl hr.units) (L2.pv 4) (pe_lst pa_nil) (nomark _)) (pw_or1 (pt_cmpR op_eq (C8.pe_c c_law_take hr (by decide) (by rfl) (pa_cons (L2.pv 2) (pa_cons pe_int pa_nil))) pe_int (nomark _)))))))) (pss_one (ps_ret (pe_tup (pa_cons (pe_ix (ix_list' (K := K) rfl) (pe_lst (pa_cons pe_str (pa_cons (pe_ix (ix_list' (K := K) rfl) (pe_lst (pa_cons pe_str (pa_cons pe_str pa_nil))) (pe_callTy call_int1 (by rfl) t.b_int (by decide +kernel) (pa_cons (pe_cmpR op_eq (L2.pv 1) pe_str (nomark _)) pa_nil)) (fun _ _ => rfl)) pa_nil))) (C8.pe_c c_law_take hr (by decide) (by rfl) (pa_cons (L2.pv 2) (pa_cons pe_int pa_nil))) (fun _ _ => rfl)) (pa_cons (C8.pe_c c_law_take hr (by decide) (by rfl) (pa_cons (L2.pv 2) (pa_cons pe_int pa_nil))) pa_nil))))) pss_nil)
      (pss_cons (ps_set (i := 5) sc_law_marked.nd rfl (Or.inl rfl) (pe_ix (ix_list' (K := K) rfl) (L2.pv 4) (C8.pe_c c_law_take hr (by decide) (by rfl) (pa_cons (L2.pv 2) (pa_cons (pe_callB (cr_len (K := K) rfl) (by rfl) t.b_len (by decide +kernel) (pa_cons (L2.pv 4) pa_nil)) pa_nil))) (fun _ _ => rfl)))
      (pss_one (ps_ret (pe_tup (pa_cons (L2.pv 5) (pa_cons (C8.pe_c c_law_take hr (by decide) (by rfl) (pa_cons (L2.pv 2) (pa_cons (pe_op op_add (pe_dget (hu_of hr) (L2.pv 3) (L2.pv 5) (fun _ _ => rfl)) pe_int) pa_nil))) pa_nil))))))))), ?_⟩
    clear c_law_take c_law_mosts
    have hSH := spec_mono del_le hS
    walk_at "ar"
    refine ⟨v, S, rfl, hSH, ok.z, ok.mz, ok.mo, fun M H1 n1 s1 h1 => ?_⟩
    walk_at "ar"
    have lm := most_len ok
    refine ⟨M, dkI (mostsS S), mKeys S, rfl, .inl h1, by unfold dkI mKeys; rw [List.map_map, List.map_map]; rfl, by unfold mKeys; rw [List.length_map]; omega, fun ys L pm _ nL => ?_⟩
    have s2 := same_new (H := H1) (o := .lst (ys.map V.str)) nL
    have h2 : upd H1 L (.lst (ys.map V.str)) L = some (.lst (ys.map V.str)) := upd_same
    generalize upd H1 L (.lst (ys.map V.str)) = H2 at s2 h2
    have ly := pm.length_eq
    have lk : (mKeys S).length = (mostsS S).length := by unfold mKeys; rw [List.length_map]
    have aM := xs_ne hx n1
    have aL := xs_ne (hx.grow s1) nL
    have X2 : Xst a H H2 := .of hx (s1.trans s2)
    have hM2 := s2 _ _ h1
    walk_at "ar"
    refine lstK rfl fun q6 H6 n6 s6 h6 => r_inL (SqL.of h6) rfl (flat_strs one2) ?_
    rw [if_neg Bool.false_ne_true, show inV (.str fm) [V.str "one", V.str "two"] = decide (fm ∈ one2) from inV_dec fm one2]
    have X6 := X2.grow s6
    have hL6 := s6 _ _ h2
    have hM6 := s6 _ _ hM2
    walk_at "ar"
    -- the last lines
    have pick : ∀ (H7 : Hp), Xst a H H7 → H7 L = some (.lst (ys.map V.str)) → H7 M = some (.dK (dkI (mostsS S))) → mostsS S ≠ [] → True := fun _ _ _ _ _ => trivial
    clear pick
    refine iteK (fun e => ?_) fun e => ?_
    · have ef : fm ∈ one2 := of_decide_eq_true e
      walk_at "ar"
      refine lstK rfl fun q7 H7 n7 s7 h7 => ?_
      refine r_eqD (.lst (.of (s7 _ _ hL6)) (strs_dp _)) (.lst (.of h7) .nil) (shaped_strs fun x hx => most_ok ok x (pm.mem_iff.mp hx)) (by decide +kernel) ?_
      rw [eqv_snil]
      have X7 := X6.grow s7
      have hL7 := s7 _ _ hL6
      have hM7 := s7 _ _ hM6
      walk_at "ar"
      refine iteK (fun e2 => ?_) fun e2 => ?_
      · walk_at "ar"
        refine lstK rfl fun qa Ha na sa ha => ?_
        walk_at "ar"
        have ed : decide (V.str fm = V.str "two") = decide (fm = "two") := by
          by_cases c : fm = "two"
          · rw [decide_eq_true c, decide_eq_true (congrArg V.str c)]
          · rw [decide_eq_false c, decide_eq_false fun z => c (by injection z)]
        rw [ed]
        refine .inr ⟨_, rfl, ?_⟩
        have fin : ∀ z : Str, TmOk (mKeys S) fm z → ∀ (Q' : VK), (∀ (Hb : Hp), Xst a H Hb → Q' (.str z) Hb → True) → True := fun _ _ _ _ => trivial
        clear fin
        obtain ⟨z2, hz, hz2⟩ : ∃ z2 : Str, atI ((["it", "other"] : List Str).map V.str) (if decide (fm = "two") = true then 1 else 0) = some (.str z2) ∧ TmOk (mKeys S) fm z2 := by
          by_cases c : fm = "two"
          · rw [decide_eq_true c]
            exact ⟨"other", rfl, .inr (.inr ⟨rfl, c⟩)⟩
          · rw [decide_eq_false c]
            exact ⟨"it", rfl, .inr (.inl ⟨rfl, one2_mem.mp ef⟩)⟩
        refine r_ixL (v := .str z2) (.of ha) hz ?_
        walk_at "ar"
        refine lstK rfl fun qb Hb nb sb hb => ?_
        walk_at "ar"
        have Xb := X7.grow (sa.trans sb)
        have ab := xs_ne ((X7.grow sa).xs) nb
        refine ⟨a, 2, rfl, Xb.xs, by decide, fun i Hc xc i0 i1 => ?_⟩
        have hc := xc.le _ _ (del_at hb ab)
        have it0 : TmOk (mKeys S) fm "it" := .inr (.inl ⟨rfl, one2_mem.mp ef⟩)
        obtain ⟨z3, hz3, hz4⟩ : ∃ z3 : Str, atI [V.str "it", V.str z2] i = some (.str z3) ∧ TmOk (mKeys S) fm z3 := by
          obtain rfl | rfl : i = 0 ∨ i = 1 := by omega
          · exact ⟨"it", rfl, it0⟩
          · exact ⟨z2, rfl, hz2⟩
        refine r_ixL (v := .str z3) (.of hc) hz3 ?_
        walk_at "ar"
        refine ⟨a, 4, rfl, xc.xs, by decide, fun j Hd xd j0 j1 => ?_⟩
        walk_at "ar"
        refine tupK rfl fun pT HT nT sT hT => ?_
        exact k pT HT _ _ (((Xb.trans xc).trans xd).grow sT) (del_new xd.xs nT hT) hz4
      · have lpos : 0 < ys.length := by
          cases ys with
          | nil => cases e2
          | cons _ _ => exact Nat.succ_pos _
        walk_at "ar"
        refine ⟨a, 2, rfl, X7.xs, by decide, fun u H8 x8 u0 u1 => ?_⟩
        have X8 := X7.trans x8
        have hL8 := x8.le _ _ (del_at hL7 aL)
        have hM8 := x8.le _ _ (del_at hM7 aM)
        walk_at "ar"
        refine iteK (fun e3 => ?_) fun e3 => ?_
        · walk_at "ar"
          refine lstK rfl fun qa Ha na sa ha => ?_
          walk_at "ar"
          have ed : decide (V.str fm = V.str "two") = decide (fm = "two") := by
            by_cases c : fm = "two"
            · rw [decide_eq_true c, decide_eq_true (congrArg V.str c)]
            · rw [decide_eq_false c, decide_eq_false fun z => c (by injection z)]
          rw [ed]
          refine .inr ⟨_, rfl, ?_⟩
          have fin : ∀ z : Str, TmOk (mKeys S) fm z → ∀ (Q' : VK), (∀ (Hb : Hp), Xst a H Hb → Q' (.str z) Hb → True) → True := fun _ _ _ _ => trivial
          clear fin
          obtain ⟨z2, hz, hz2⟩ : ∃ z2 : Str, atI ((["it", "other"] : List Str).map V.str) (if decide (fm = "two") = true then 1 else 0) = some (.str z2) ∧ TmOk (mKeys S) fm z2 := by
            by_cases c : fm = "two"
            · rw [decide_eq_true c]
              exact ⟨"other", rfl, .inr (.inr ⟨rfl, c⟩)⟩
            · rw [decide_eq_false c]
              exact ⟨"it", rfl, .inr (.inl ⟨rfl, one2_mem.mp ef⟩)⟩
          refine r_ixL (v := .str z2) (.of ha) hz ?_
          walk_at "ar"
          refine lstK rfl fun qb Hb nb sb hb => ?_
          walk_at "ar"
          have Xb := X8.grow (sa.trans sb)
          have ab := xs_ne ((X8.grow sa).xs) nb
          refine ⟨a, 2, rfl, Xb.xs, by decide, fun i Hc xc i0 i1 => ?_⟩
          have hc := xc.le _ _ (del_at hb ab)
          have it0 : TmOk (mKeys S) fm "it" := .inr (.inl ⟨rfl, one2_mem.mp ef⟩)
          obtain ⟨z3, hz3, hz4⟩ : ∃ z3 : Str, atI [V.str "it", V.str z2] i = some (.str z3) ∧ TmOk (mKeys S) fm z3 := by
            obtain rfl | rfl : i = 0 ∨ i = 1 := by omega
            · exact ⟨"it", rfl, it0⟩
            · exact ⟨z2, rfl, hz2⟩
          refine r_ixL (v := .str z3) (.of hc) hz3 ?_
          walk_at "ar"
          refine ⟨a, 4, rfl, xc.xs, by decide, fun j Hd xd j0 j1 => ?_⟩
          walk_at "ar"
          refine tupK rfl fun pT HT nT sT hT => ?_
          exact k pT HT _ _ (((Xb.trans xc).trans xd).grow sT) (del_new xd.xs nT hT) hz4
        · walk_at "ar"
          refine r_len (.of hL8) ?_
          walk_at "ar"
          refine ⟨a, _, rfl, X8.xs, by rw [List.length_map]; omega, fun i Ha xa i0 i1 => ?_⟩
          rw [List.length_map] at i1
          obtain ⟨z, z1, z2, _⟩ := at_some (xs := ys) i0 i1
          have hLa := xa.le _ _ (del_at hL8 aL)
          have hMa := xa.le _ _ (del_at hM8 aM)
          refine r_ixL (.of hLa) (at_map (f := V.str) z1) ?_
          have hzm : z ∈ mKeys S := pm.mem_iff.mp z2
          obtain ⟨e0, he0, rfl⟩ := List.mem_map.mp hzm
          walk_at "ar"
          refine dgRd (.inl hMa) (v := .int e0.2) ?_ ?_
          · rw [dkI_as, valV_dkV]
            exact vv_of (by rw [asI_keys]; exact ok.mo) (List.mem_map.mpr ⟨e0, he0, rfl⟩)
          walk_at "ar"
          have pos := hp e0 he0
          refine ⟨a, _, rfl, xa.xs, by omega, fun j Hb xb j0 j1 => ?_⟩
          walk_at "ar"
          refine tupK rfl fun pT HT nT sT hT => ?_
          exact k pT HT _ _ (((X8.trans xa).trans xb).grow sT) (del_new xb.xs nT hT) (.inl hzm)
    · have ef : ¬ fm ∈ one2 := of_decide_eq_false e
      have lpos : 0 < ys.length := by
        rcases hne with c | c
        · exact absurd c ef
        · rw [ly, lk]
          exact List.length_pos_iff.mpr c
      walk_at "ar"
      refine r_len (.of hL6) ?_
      walk_at "ar"
      refine ⟨a, _, rfl, X6.xs, by rw [List.length_map]; omega, fun i Ha xa i0 i1 => ?_⟩
      rw [List.length_map] at i1
      obtain ⟨z, z1, z2, _⟩ := at_some (xs := ys) i0 i1
      have hLa := xa.le _ _ (del_at hL6 aL)
      have hMa := xa.le _ _ (del_at hM6 aM)
      refine r_ixL (.of hLa) (at_map (f := V.str) z1) ?_
      have hzm : z ∈ mKeys S := pm.mem_iff.mp z2
      obtain ⟨e0, he0, rfl⟩ := List.mem_map.mp hzm
      walk_at "ar"
      refine dgRd (.inl hMa) (v := .int e0.2) ?_ ?_
      · rw [dkI_as, valV_dkV]
        exact vv_of (by rw [asI_keys]; exact ok.mo) (List.mem_map.mpr ⟨e0, he0, rfl⟩)
      walk_at "ar"
      have pos := hp e0 he0
      refine ⟨a, _, rfl, xa.xs, by omega, fun j Hb xb j0 j1 => ?_⟩
      walk_at "ar"
      refine tupK rfl fun pT HT nT sT hT => ?_
      exact k pT HT _ _ (((X6.trans xa).trans xb).grow sT) (del_new xb.xs nT hT) (.inl hzm)
def spPut (K : PySem.W.Frag) : Sp := fun vs H Q _ => ∃ (v : V) (S : Sc) (fm : Str) (a : Addr), vs = [v, .str fm, .ref a] ∧ XsAt H a ∧ SpecAt K (del a H) v S ∧ SpOk S ∧ (∀ e ∈ mostsS S, 0 ≤ e.2) ∧
  (∀ q H' (t p : Str), Xst a H H' → del a H' q = some (.tup [.str "move", .str t, .str p]) → DdOk S fm t p → Q (.ref q) H') ∧
  ∀ q H' (t : Str) (i : Int), Xst a H H' → del a H' q = some (.tup [.str "put", .str t, .int i]) → TmOk (mKeys S) fm t → Q (.ref q) H'
theorem sc_law_put : FnScope ["_law_spec_here", "_law_form_here", "_law_xs", "_law_term", "_law_value_here"] ["_law_spec_here", "_law_form_here", "_law_xs"] (defScope s_law_put) := ⟨rfl, rfl, rfl, by decide +kernel, rfl, by decide +kernel, by decide +kernel⟩
theorem ok_law_put (t : T K mg) : C8.Cal P w K mg base 4 "_law_put" (spPut K) [] := by
  have c_law_mosts := ok_law_mosts (P := P) (w := w) (base := base) t
  have c_law_moved := ok_law_moved (P := P) (w := w) (base := base) t
  have c_law_marked := ok_law_marked (P := P) (w := w) (base := base) t
  refine cal t.f_law_put t.g_law_put sc_law_put (fun _ _ _ _ _ _ us hl => match us, hl with | [_, _, _], _ => rfl) (fun vs H Q E h => ?_) fun cdv A outer s H vs Q E hr h => ?_
  · obtain ⟨v, S, fm, a, rfl, _⟩ := h
    rfl
  · obtain ⟨v, S, fm, a, rfl, hx, hS, ok, hp, km, kp⟩ := h
    refine ⟨_, (pss_cons (ps_if (PW.pt (pw_and (pt_cmpR (op_notIn' (K := K) rfl) (L2.pv 1) (pe_lst (pa_cons pe_str (pa_cons pe_str pa_nil))) (by rfl)) (pw_and1 (pt_cmpR (op_eqD0 (Nat.lt_of_le_of_lt (Nat.le_add_right _ 64) hr.units)) (C8.pe_c c_law_mosts hr (by decide) (by rfl) (pa_cons (L2.pv 0) pa_nil)) pe_dnewK (nomark _))))) (pss_one (ps_ret (C8.pe_c c_law_moved hr (by decide) (by rfl) (pa_cons (L2.pv 0) (pa_cons (L2.pv 1) (pa_cons (L2.pv 2) pa_nil)))))) pss_nil)
      (pss_cons (ps_asg (C8.pe_c c_law_marked hr (by decide) (by rfl) (pa_cons (L2.pv 0) (pa_cons (L2.pv 1) (pa_cons (L2.pv 2) pa_nil)))) (pg_tup' (K := K) (n := 2) rfl (by rfl) (pgs_cons (pg_name (i := 3) sc_law_put.nd rfl (Or.inl rfl)) (pgs_cons (pg_name (i := 4) sc_law_put.nd rfl (Or.inl rfl)) pgs_nil))))
      (pss_one (ps_ret (pe_tup (pa_cons pe_str (pa_cons (L2.pv 3) (pa_cons (L2.pv 4) pa_nil)))))))), ?_⟩
    clear c_law_mosts c_law_moved c_law_marked
    have hSH := spec_mono del_le hS
    walk_at "ar"
    refine lstK rfl fun q6 H6 n6 s6 h6 => r_inL (SqL.of h6) rfl (flat_strs one2) ?_
    rw [if_pos rfl, show inV (.str fm) [V.str "one", V.str "two"] = decide (fm ∈ one2) from inV_dec fm one2]
    have x6 := hx.grow s6
    have X6 : Xst a H H6 := .of hx s6
    walk_at "ar"
    have fin : ∀ H7, Xst a H H7 → (fm ∈ one2 ∨ mostsS S ≠ []) → ∀ Q' : VK, (∀ q H8 (t : Str) (i : Int), Xst a H H8 → del a H8 q = some (.tup [.str t, .int i]) → TmOk (mKeys S) fm t → Q' (.ref q) H8) → spMarked K ([v, .str fm, .ref a] ++ []) H7 Q' C8.E0 := fun H7 X7 hne Q' hq =>
      ⟨v, S, fm, a, rfl, X7.xs, spec_mono X7.sm hS, ok, hp, hne, fun q H' t i x h g => hq q H' t i (X7.trans x) h g⟩
    refine iteK (fun e => ?_) fun e => ?_
    · walk_at "ar"
      refine ⟨v, S, rfl, spec_mono s6 hSH, ok.z, ok.mz, ok.mo, fun M H7 n7 s7 h7 => ?_⟩
      walk_at "ar"
      refine x_dnewK fun E0 H8 n8 s8 h8 => ?_
      refine ⟨M, E0, _, rfl, rfl, s8 _ _ h7, h8, ?_⟩
      have X8 := X6.grow (s7.trans s8)
      walk_at "ar"
      have em : (dkI (mostsS S)).isEmpty = (mostsS S).isEmpty := by unfold dkI; cases mostsS S <;> rfl
      rw [em]
      refine iteK (fun e2 => ?_) fun e2 => ?_
      · walk_at "ar"
        exact ⟨v, S, fm, a, rfl, X8.xs, spec_mono X8.sm hS, ok, fun q H' t p x h g => km q H' t p (X8.trans x) h g⟩
      · walk_at "ar"
        refine fin H8 X8 (.inr fun z => by rw [z] at e2; cases e2) _ fun q H9 t i X9 h9 g => ?_
        refine x_gtup (.of (del_le _ _ h9)) rfl ?_
        walk_at "ar"
        refine tupK rfl fun pT HT nT sT hT => ?_
        exact kp pT HT t i (X9.grow sT) (del_new X9.xs nT hT) g
    · have ef : fm ∈ one2 := by simpa using e
      walk_at "ar"
      refine fin H6 X6 (.inl ef) _ fun q H9 t i X9 h9 g => ?_
      refine x_gtup (.of (del_le _ _ h9)) rfl ?_
      walk_at "ar"
      refine tupK rfl fun pT HT nT sT hT => ?_
      exact kp pT HT t i (X9.grow sT) (del_new X9.xs nT hT) g
/-! ### a def taken out of a list -/
end
def tCallV (f1 f2 : Addr) (sp1 sp2 : Sp) (tf : TE) (t : TA) : TE := fun σ H Q => tf σ H fun v H1 => (v = .ref f1 ∧ t σ H1 fun vs H2 => sp1 (vs ++ []) H2 Q C8.E0) ∨ (v = .ref f2 ∧ t σ H1 fun vs H2 => sp2 (vs ++ []) H2 Q C8.E0)
theorem pe_callV {X : Cx} {k1 k2 j : Nat} {x1 x2 : Str} {f1 f2 : Addr} {sp1 sp2 : Sp} {pos : Pos} {fn e : Expr} {es : List Expr} {tf : TE} {t : TA} (c1 : C8.Cal X.prog X.w X.K X.mg X.base k1 x1 sp1 []) (c2 : C8.Cal X.prog X.w X.K X.mg X.base k2 x2 sp2 [])
    (g1 : X.mg x1 = some (.ref f1)) (g2 : X.mg x2 = some (.ref f2)) (hr : Room j X.A) (hk : k1 ≤ j ∧ k2 ≤ j) (hf : PE X fn tf) (ha : PA X (e :: es) t)
    (hcall : eval (.Call fn (e :: es) [] pos) X.env = (do callWith pos (← eval fn X.env) [] (backTo pos (starEach (e :: es) X.env)) (backToKw pos (keywordEach [] X.env))) := by rfl)
    (he : starEach (e :: es) X.env = (false, eval e X.env) :: starEach es X.env := by rfl) (hpl : (backTo pos (starEach es X.env)).any (·.1) = false := by rfl) : PE X (.Call fn (e :: es) [] pos) (tCallV f1 f2 sp1 sp2 tf t) := by
  refine ⟨fun pins s σ H Q I h => ?_⟩
  refine PyProof.Rows.Call_ (thn (hf.run pins s σ H _ I h) fun u s1 ⟨v, H1, I1, rv, q1⟩ => ?_) hcall
  rcases q1 with ⟨ev, ht⟩ | ⟨ev, ht⟩
  · subst ev
    obtain rfl : u = Value.ref f1 := rv
    obtain ⟨f, fd, ps, ds, F, hm, kp, b, d⟩ := c1.ex
    rw [g1] at hm
    cases hm
    refine PySem.W.callWith_K (h₀ := X.base) I1.ok.mod.kin kp (thn (ha.run pos pins s1 σ _ _ I1 ht) fun us s2 ⟨vs, H2, I2, r, q⟩ => ⟨I2.kIn, ?_⟩) he hpl
    exact run_fn F (hr.mono hk.1) b d C8.pass0 I2 r q
  · subst ev
    obtain rfl : u = Value.ref f2 := rv
    obtain ⟨f, fd, ps, ds, F, hm, kp, b, d⟩ := c2.ex
    rw [g2] at hm
    cases hm
    refine PySem.W.callWith_K (h₀ := X.base) I1.ok.mod.kin kp (thn (ha.run pos pins s1 σ _ _ I1 ht) fun us s2 ⟨vs, H2, I2, r, q⟩ => ⟨I2.kIn, ?_⟩) he hpl
    exact run_fn F (hr.mono hk.2) b d C8.pass0 I2 r q
theorem x_callV {σ : L2.St} {H : Hp} {Q : VK} {f1 f2 : Addr} {sp1 sp2 : Sp} {tf : TE} {t : TA} (q : tf σ H fun v H1 => (v = .ref f1 ∧ t σ H1 fun vs H2 => sp1 (vs ++ []) H2 Q C8.E0) ∨ (v = .ref f2 ∧ t σ H1 fun vs H2 => sp2 (vs ++ []) H2 Q C8.E0)) : tCallV f1 f2 sp1 sp2 tf t σ H Q := q
section
variable {P : Program} {w : World} {K : PySem.W.Frag} {mg : Str → Option Value} {base : Heap}
def spDeed (K : PySem.W.Frag) : Sp := fun vs H Q _ => ∃ (v : V) (S : Sc) (fm : Str) (a : Addr), vs = [v, .str fm, .ref a] ∧ XsAt H a ∧ SpecAt K (del a H) v S ∧ SpOk S ∧ (∀ e ∈ mostsS S, 0 ≤ e.2) ∧
  (∀ x H' (t p : Str), Xst a H H' → MvAt K (del a H') x t p → DdOk S fm t p → Q x H') ∧ ∀ x H' (t : Str) (i : Int), Xst a H H' → PuAt K (del a H') x t i → TmOk (mKeys S) fm t → Q x H'
theorem sc_law_deed : FnScope ["_law_spec_here", "_law_form_here", "_law_xs", "_law_told"] ["_law_spec_here", "_law_form_here", "_law_xs"] (defScope s_law_deed) := ⟨rfl, rfl, rfl, by decide +kernel, rfl, by decide +kernel, by decide +kernel⟩
theorem ok_law_deed (t : T K mg) : C8.Cal P w K mg base 5 "_law_deed" (spDeed K) [] := by
  have c_law_take := ok_law_take (P := P) (w := w) (base := base) t
  have c_law_moved := ok_law_moved (P := P) (w := w) (base := base) t
  have c_law_put := ok_law_put (P := P) (w := w) (base := base) t
  have c_Move := ok_Move (P := P) (w := w) (base := base) t
  have c_Put := ok_Put (P := P) (w := w) (base := base) t
  refine cal t.f_law_deed t.g_law_deed sc_law_deed (fun _ _ _ _ _ _ us hl => match us, hl with | [_, _, _], _ => rfl) (fun vs H Q E h => ?_) fun cdv A outer s H vs Q E hr h => ?_
  · obtain ⟨v, S, fm, a, rfl, _⟩ := h
    rfl
  · obtain ⟨v, S, fm, a, rfl, hx, hS, ok, hp, km, kp⟩ := h
    refine ⟨_, (pss_cons (ps_set (i := 3) sc_law_deed.nd rfl (Or.inl rfl) (pe_callV c_law_moved c_law_put t.g_law_moved t.g_law_put hr (by decide) (pe_ix (ix_list' (K := K) rfl) (pe_lst (pa_cons (C8.pe_gc (by rfl) t.v_law_moved) (pa_cons (C8.pe_gc (by rfl) t.v_law_moved) (pa_cons (C8.pe_gc (by rfl) t.v_law_put) pa_nil)))) (C8.pe_c c_law_take hr (by decide) (by rfl) (pa_cons (L2.pv 2) (pa_cons pe_int pa_nil))) (fun _ _ => rfl)) (pa_cons (L2.pv 0) (pa_cons (L2.pv 1) (pa_cons (L2.pv 2) pa_nil)))))
      (pss_cons (ps_if (pt_cmpR op_eq (pe_ix (ix_tup' (K := K) rfl) (L2.pv 3) pe_int (fun _ _ => rfl)) pe_str (nomark _)) (pss_one (ps_ret (C8.pe_mk c_Move hr (by decide) (by rfl) (pa_cons (pe_ix (ix_tup' (K := K) rfl) (L2.pv 3) pe_int (fun _ _ => rfl)) (pa_cons (pe_ix (ix_tup' (K := K) rfl) (L2.pv 3) pe_int (fun _ _ => rfl)) pa_nil))))) pss_nil)
      (pss_one (ps_ret (C8.pe_mk c_Put hr (by decide) (by rfl) (pa_cons (pe_ix (ix_tup' (K := K) rfl) (L2.pv 3) pe_int (fun _ _ => rfl)) (pa_cons (pe_ix (ix_tup' (K := K) rfl) (L2.pv 3) pe_int (fun _ _ => rfl)) pa_nil))))))), ?_⟩
    clear c_law_take c_law_moved c_law_put c_Move c_Put
    walk_at "ar"
    refine x_callV ?_
    walk_at "ar"
    refine lstK rfl fun q6 H6 n6 s6 h6 => ?_
    have X6 : Xst a H H6 := .of hx s6
    have a6 := xs_ne hx n6
    walk_at "ar"
    refine ⟨a, 3, rfl, X6.xs, by decide, fun u H7 x7 u0 u1 => ?_⟩
    have h7 := x7.le _ _ (del_at h6 a6)
    have X7 := X6.trans x7
    have mv : ∀ q H' (t p : Str), Xst a H H' → del a H' q = some (.tup [.str "move", .str t, .str p]) → DdOk S fm t p → True := fun _ _ _ _ _ _ _ => trivial
    clear mv
    obtain rfl | rfl | rfl : u = 0 ∨ u = 1 ∨ u = 2 := by omega
    · refine r_ixL (.of h7) rfl (.inl ⟨rfl, ?_⟩)
      walk_at "ar"
      refine ⟨v, S, fm, a, rfl, X7.xs, spec_mono X7.sm hS, ok, fun q H8 t p x8 h8 g => ?_⟩
      have X8 := X7.trans x8
      have k8 := del_le _ _ h8
      walk_at "ar"
      refine r_ixT (i := 0) (v := .str "move") (.of k8) rfl ?_
      walk_at "ar"
      refine iteK_y (decide_eq_true rfl) ?_
      walk_at "ar"
      refine r_ixT (i := 1) (.of k8) rfl ?_
      walk_at "ar"
      refine r_ixT (i := 2) (.of k8) rfl ?_
      walk_at "ar"
      refine mk_new rfl fun p9 H9 dx n9 s9 h9 => ?_
      exact km _ H9 t p (X8.grow s9) ⟨p9, dx, rfl, del_new X8.xs n9 h9⟩ g
    · refine r_ixL (.of h7) rfl (.inl ⟨rfl, ?_⟩)
      walk_at "ar"
      refine ⟨v, S, fm, a, rfl, X7.xs, spec_mono X7.sm hS, ok, fun q H8 t p x8 h8 g => ?_⟩
      have X8 := X7.trans x8
      have k8 := del_le _ _ h8
      walk_at "ar"
      refine r_ixT (i := 0) (v := .str "move") (.of k8) rfl ?_
      walk_at "ar"
      refine iteK_y (decide_eq_true rfl) ?_
      walk_at "ar"
      refine r_ixT (i := 1) (.of k8) rfl ?_
      walk_at "ar"
      refine r_ixT (i := 2) (.of k8) rfl ?_
      walk_at "ar"
      refine mk_new rfl fun p9 H9 dx n9 s9 h9 => ?_
      exact km _ H9 t p (X8.grow s9) ⟨p9, dx, rfl, del_new X8.xs n9 h9⟩ g
    · refine r_ixL (.of h7) rfl (.inr ⟨rfl, ?_⟩)
      walk_at "ar"
      refine ⟨v, S, fm, a, rfl, X7.xs, spec_mono X7.sm hS, ok, hp, fun q H8 t p x8 h8 g => ?_, fun q H8 t i x8 h8 g => ?_⟩
      · have X8 := X7.trans x8
        have k8 := del_le _ _ h8
        walk_at "ar"
        refine r_ixT (i := 0) (v := .str "move") (.of k8) rfl ?_
        walk_at "ar"
        refine iteK_y (decide_eq_true rfl) ?_
        walk_at "ar"
        refine r_ixT (i := 1) (.of k8) rfl ?_
        walk_at "ar"
        refine r_ixT (i := 2) (.of k8) rfl ?_
        walk_at "ar"
        refine mk_new rfl fun p9 H9 dx n9 s9 h9 => ?_
        exact km _ H9 t p (X8.grow s9) ⟨p9, dx, rfl, del_new X8.xs n9 h9⟩ g
      · have X8 := X7.trans x8
        have k8 := del_le _ _ h8
        walk_at "ar"
        refine r_ixT (i := 0) (v := .str "put") (.of k8) rfl ?_
        walk_at "ar"
        refine iteK_n (decide_eq_false fun z => by injection z with z; exact absurd z (by decide +kernel)) ?_
        walk_at "ar"
        refine r_ixT (i := 1) (.of k8) rfl ?_
        walk_at "ar"
        refine r_ixT (i := 2) (.of k8) rfl ?_
        walk_at "ar"
        refine mk_new rfl fun p9 H9 dx n9 s9 h9 => ?_
        exact kp _ H9 t i (X8.grow s9) ⟨p9, dx, rfl, del_new X8.xs n9 h9⟩ g
end
end Tw
set_option maxHeartbeats 4000000
/-! Plain law: what deeds do to two stands. -/
namespace Tw
open PySem PySem.Spec L2
def barred3 : List Str := ["here", "it", "other"]
structure SpOk2 (S : Sc) : Prop where
  ok : SpOk S
  wl : S.words.length = S.rows.length
  nb : ∀ x, x ∈ S.rows.map Rw.name ∨ x ∈ mKeys S → x ∉ barred3
  pos : ∀ e ∈ mostsS S, 0 ≤ e.2
  good : GoodW (wdS S)
section
variable {S : Sc}
theorem th_at (ok : SpOk2 S) {i : Nat} {r : Rw} (h : S.rows[i]? = some r) : ∃ h' : Th, (thS S)[i]? = some h' ∧ h'.name = r.name ∧ h'.kind = r.kind := by
  have hlt := get_lt h
  have hlt2 : i < S.words.length := by rw [ok.wl]; exact hlt
  refine ⟨⟨r.name, S.words[i], r.kind, r.start⟩, ?_, rfl, rfl⟩
  unfold thS
  rw [List.getElem?_zipWith, h, List.getElem?_eq_getElem hlt2]
theorem row_th (ok : SpOk2 S) {i : Nat} {h' : Th} (h : (thS S)[i]? = some h') : ∃ r, S.rows[i]? = some r ∧ h'.name = r.name ∧ h'.kind = r.kind := by
  have hlt := get_lt h
  unfold thS at hlt
  rw [List.length_zipWith, ok.wl, Nat.min_self] at hlt
  obtain ⟨h2, e1, e2, e3⟩ := th_at ok (List.getElem?_eq_getElem hlt)
  rw [h] at e1
  cases e1
  exact ⟨_, List.getElem?_eq_getElem hlt, e2, e3⟩
theorem find_row (ok : SpOk2 S) {r : Rw} (hr : r ∈ S.rows) : ∃ h, (wdS S).find r.name = some h ∧ h.kind = r.kind ∧ h.name = r.name := by
  obtain ⟨i, hi⟩ := List.mem_iff_getElem?.mp hr
  obtain ⟨h', e1, e2, e3⟩ := th_at ok hi
  unfold Wd.find
  cases q : (wdS S).things.find? fun h => decide (h.name = r.name) with
  | none =>
    rw [List.find?_eq_none] at q
    exact absurd (decide_eq_true e2) (q h' (List.mem_of_getElem? e1))
  | some h2 =>
    have m := List.mem_of_find?_eq_some q
    have n : h2.name = r.name := by simpa using List.find?_some q
    obtain ⟨j, hj⟩ := List.mem_iff_getElem?.mp m
    obtain ⟨r2, f1, f2, f3⟩ := row_th ok hj
    have := row_eq ok.ok (List.mem_of_getElem? f1) hr (by rw [← f2]; exact n)
    subst this
    exact ⟨h2, rfl, f3, f2⟩
theorem find_of (ok : SpOk2 S) {n : Str} {ks : List Str} (h : n ∈ ofS S ks) : ∃ g, (wdS S).find n = some g ∧ g.kind ∈ ks := by
  obtain ⟨r, e1, e2, e3⟩ := mem_of.mp h
  obtain ⟨g, g1, g2, _⟩ := find_row ok e1
  rw [e2] at g1
  exact ⟨g, g1, by rw [g2]; exact e3⟩
theorem find_back (ok : SpOk2 S) {n : Str} {g : Th} (h : (wdS S).find n = some g) : ∃ r ∈ S.rows, r.name = n ∧ r.kind = g.kind := by
  unfold Wd.find at h
  have m := List.mem_of_find?_eq_some h
  have e : g.name = n := by simpa using List.find?_some h
  obtain ⟨j, hj⟩ := List.mem_iff_getElem?.mp m
  obtain ⟨r, f1, f2, f3⟩ := row_th ok hj
  exact ⟨r, List.mem_of_getElem? f1, by rw [← f2]; exact e, f3.symm⟩
theorem kind_mem (ok : SpOk2 S) {k n : Str} : n ∈ (wdS S).kind k ↔ n ∈ ofS S [k] := by
  unfold Wd.kind
  constructor
  · intro h
    obtain ⟨t, h1, rfl⟩ := List.mem_map.mp h
    have h2 := List.mem_filter.mp h1
    obtain ⟨j, hj⟩ := List.mem_iff_getElem?.mp h2.1
    obtain ⟨r, f1, f2, f3⟩ := row_th ok hj
    exact mem_of.mpr ⟨r, List.mem_of_getElem? f1, f2.symm, by rw [← f3, of_decide_eq_true h2.2]; exact List.mem_singleton.mpr rfl⟩
  · intro h
    obtain ⟨r, e1, e2, e3⟩ := mem_of.mp h
    obtain ⟨i, hi⟩ := List.mem_iff_getElem?.mp e1
    obtain ⟨t, f1, f2, f3⟩ := th_at ok hi
    exact List.mem_map.mpr ⟨t, List.mem_filter.mpr ⟨List.mem_of_getElem? f1, decide_eq_true (by rw [f3]; exact List.mem_singleton.mp e3)⟩, by rw [f2]; exact e2⟩
theorem you_kind (ok : SpOk2 S) : ∃ r, (wdS S).kind "you" = S.you :: r := by
  have h1 := ok.good.y1
  cases q : (wdS S).kind "you" with
  | nil => rw [q] at h1; cases h1
  | cons y r =>
    have : y ∈ (wdS S).kind "you" := by rw [q]; exact List.mem_cons_self
    obtain ⟨r0, e1, e2, e3⟩ := mem_of.mp ((kind_mem ok).mp this)
    rw [← (ok.ok.yu r0 e1).mp (List.mem_singleton.mp e3), e2]
    exact ⟨r, rfl⟩
theorem most_mem (ok : SpOk2 S) {n : Str} {m : Int} (h : (wdS S).most n = some m) : n ∈ mKeys S := by
  unfold Wd.most at h
  unfold mKeys mostsS
  rw [List.map_append, List.map_map, List.map_map]
  refine List.mem_append.mpr ?_
  cases q : (wdS S).marks.find? fun m => decide (m.name = n) with
  | some m0 =>
    have := List.mem_of_find?_eq_some q
    have e : m0.name = n := by simpa using List.find?_some q
    exact .inr (List.mem_map.mpr ⟨m0, this, e⟩)
  | none =>
    rw [q] at h
    dsimp only at h
    cases q2 : (wdS S).find n with
    | none => rw [q2] at h; cases h
    | some g =>
      rw [q2] at h
      dsimp only at h
      obtain ⟨r, e1, e2, e3⟩ := find_back ok q2
      by_cases c : g.marked = true
      · refine .inl (List.mem_map.mpr ⟨n, mem_of.mpr ⟨r, e1, e2, ?_⟩, rfl⟩)
        rw [e3]
        unfold Th.marked at c
        rcases Bool.or_eq_true_iff.mp c with c | c
        · rw [of_decide_eq_true c]; decide +kernel
        · rw [of_decide_eq_true c]; decide +kernel
      · rw [if_neg c] at h
        cases h
end
/-! ### looking -/
theorem look_of {S : Stand} (nd : (S.map Prod.fst).Nodup) {p : Part} {x : Vl} (h : (p, x) ∈ S) : look S p = some x := by
  induction S with
  | nil => cases h
  | cons e r ih =>
    rw [List.map_cons] at nd
    have nd2 := List.nodup_cons.mp nd
    unfold look
    rcases List.mem_cons.mp h with h | h
    · rw [← h, if_pos rfl]
    · rw [if_neg fun z => nd2.1 (by rw [z]; exact List.mem_map.mpr ⟨_, h, rfl⟩)]
      exact ih nd2.2 h
theorem look_no {S : Stand} {p : Part} (h : p ∉ S.map Prod.fst) : look S p = none := look_none fun i e hi z => h (List.mem_map.mpr ⟨e, List.mem_of_getElem? hi, z⟩)
/-- a stand is what these maps say -/
structure StIs (S : Sc) (St : Stand) (M : AtM) (MM : List (Str × Int)) : Prop where
  at_ : AtOk S M
  ks : MM.map Prod.fst = mKeys S
  pm : St.Perm (stL M MM)
section
variable {S : Sc} {St : Stand} {M : AtM} {MM : List (Str × Int)}
theorem StIs.nd (ok : SpOk2 S) (h : StIs S St M MM) : (St.map Prod.fst).Nodup := ((h.pm.map Prod.fst).nodup_iff).mpr (stL_keys M MM h.at_.nd (by rw [h.ks]; exact ok.ok.mo))
theorem StIs.look (ok : SpOk2 S) (h : StIs S St M MM) (x : Str) : look St ("at", x) = (atv M x).map Vl.s := by
  cases q : atv M x with
  | some y => exact look_of (h.nd ok) (h.pm.mem_iff.mpr (List.mem_append.mpr (.inl (List.mem_map.mpr ⟨_, atv_mem q, rfl⟩))))
  | none =>
    refine look_no fun z => ?_
    obtain ⟨e, he, hz⟩ := List.mem_map.mp z
    rcases List.mem_append.mp (h.pm.mem_iff.mp he) with k | k
    · obtain ⟨e', h1, rfl⟩ := List.mem_map.mp k
      injection hz with _ hz
      exact atv_none.mp q (List.mem_map.mpr ⟨e', h1, hz⟩)
    · obtain ⟨e', h1, rfl⟩ := List.mem_map.mp k
      injection hz with hz _
      exact absurd hz (by decide +kernel)
theorem at_len (ok : SpOk2 S) (h : AtOk S M) : M.length ≤ 20 := by
  have h1 := nodup_len h.nd (m := ofS S nonroom) fun x hx => (h.ks x).mp hx
  have := of_len ok.ok nonroom
  rw [List.length_map] at h1
  omega
theorem StIs.len (ok : SpOk2 S) (h : StIs S St M MM) : St.length ≤ 100 := by
  rw [h.pm.length_eq]
  unfold stL
  rw [List.length_append, List.length_map, List.length_map]
  have h1 := at_len ok h.at_
  have h2 := congrArg List.length h.ks
  have h3 := most_len ok.ok
  unfold mKeys at h2
  rw [List.length_map, List.length_map] at h2
  omega
theorem StIs.ok (ok : SpOk2 S) (h : StIs S St M MM) : OkStand St := fun e he => by
  rcases List.mem_append.mp (h.pm.mem_iff.mp he) with k | k
  · obtain ⟨e', h1, rfl⟩ := List.mem_map.mp k
    exact ⟨⟨ok_at, okS_of ok.ok ((h.at_.ks _).mp (List.mem_map.mpr ⟨e', h1, rfl⟩))⟩, okS_of ok.ok (h.at_.vs _ h1)⟩
  · obtain ⟨e', h1, rfl⟩ := List.mem_map.mp k
    exact ⟨⟨ok_mark, most_ok ok.ok _ (by rw [← h.ks]; exact List.mem_map.mpr ⟨e', h1, rfl⟩)⟩, trivial⟩
theorem StIs.ch (ok : SpOk2 S) (h : StIs S St M MM) {x : Str} {l : List Str} (c : Cf (atv M) x l) : Ch St x l := by
  induction c with
  | nil c => exact .nil (by rw [h.look ok, c]; rfl)
  | cons c _ ih => exact .cons (by rw [h.look ok, c]; rfl) (okS_of ok.ok (h.at_.vs _ (atv_mem c))) ih
theorem ch_len (ok : SpOk2 S) (h : AtOk S M) {x : Str} {l : List Str} (c : Cf (atv M) x l) : l.length ≤ 900 := by
  have h1 := cf_len (ks := M.map Prod.fst) (fun x hx => Decidable.byContradiction fun z => hx (atv_none.mpr z)) c
  have := at_len ok h
  rw [List.length_map] at h1
  omega
theorem put_at (M : AtM) (MM : List (Str × Int)) (n q : Str) : putS (stL M MM) (atP n) (.s q) = stL (repl M n q) MM := by
  unfold putS stL repl
  rw [List.map_append, List.map_map, List.map_map, List.map_map]
  refine congr (congrArg _ ?_) ?_
  · refine List.map_congr_left fun e _ => ?_
    show (if (("at", e.1) : Part) = atP n then _ else _) = ((("at", (if e.1 = n then (e.1, q) else e).1) : Part), Vl.s (if e.1 = n then (e.1, q) else e).2)
    by_cases c : e.1 = n
    · rw [if_pos (by rw [c]), if_pos c]
    · rw [if_neg fun z => c (by injection z), if_neg c]
  · refine List.map_congr_left fun e _ => ?_
    show (if (("mark", e.1) : Part) = atP n then ((("mark", e.1) : Part), Vl.s q) else ((("mark", e.1) : Part), Vl.n e.2)) = ((("mark", e.1) : Part), Vl.n e.2)
    rw [if_neg fun z => by
      injection z with z _
      exact absurd z (by decide +kernel)]
def replI (M : List (Str × Int)) (x : Str) (v : Int) : List (Str × Int) := M.map fun e => if e.1 = x then (e.1, v) else e
theorem replI_keys (M : List (Str × Int)) (x : Str) (v : Int) : (replI M x v).map Prod.fst = M.map Prod.fst := by
  unfold replI
  rw [List.map_map]
  refine List.map_congr_left fun e _ => ?_
  show (if e.1 = x then (e.1, v) else e).1 = e.1
  split <;> rfl
theorem put_mark (M : AtM) (MM : List (Str × Int)) (n : Str) (i : Int) : putS (stL M MM) (mkP n) (.n i) = stL M (replI MM n i) := by
  unfold putS stL replI
  rw [List.map_append, List.map_map, List.map_map, List.map_map]
  refine congr (congrArg _ ?_) ?_
  · refine List.map_congr_left fun e _ => ?_
    show (if (("at", e.1) : Part) = mkP n then ((("at", e.1) : Part), Vl.n i) else ((("at", e.1) : Part), Vl.s e.2)) = ((("at", e.1) : Part), Vl.s e.2)
    rw [if_neg fun z => by
      injection z with z _
      exact absurd z (by decide +kernel)]
  · refine List.map_congr_left fun e _ => ?_
    show (if (("mark", e.1) : Part) = mkP n then _ else _) = ((("mark", (if e.1 = n then (e.1, i) else e).1) : Part), Vl.n (if e.1 = n then (e.1, i) else e).2)
    by_cases c : e.1 = n
    · rw [if_pos (by rw [c]), if_pos c]
    · rw [if_neg fun z => c (by injection z), if_neg c]
theorem StIs.putM (h : StIs S St M MM) (n : Str) (i : Int) : StIs S (putS St (mkP n) (.n i)) M (replI MM n i) :=
  ⟨h.at_, by rw [replI_keys]; exact h.ks, by rw [← put_mark]; exact h.pm.map _⟩
theorem StIs.putA (h : StIs S St M MM) {n q : Str} {l : List Str} (hn : n ∈ M.map Prod.fst) (hq : q ≠ n) (hh : q ∈ ofS S holders3) (hy : n = S.you → q ∈ roomsS S) (hl : Cf (atv M) q l) (hnl : n ∉ l) : StIs S (putS St (atP n) (.s q)) (repl M n q) MM := by
  have e : atv (repl M n q) = atPut (atv M) n q := by
    funext y
    rw [repl_at _ _ _ _ hn]
    rfl
  have nd : ((repl M n q).map Prod.fst).Nodup := by rw [repl_keys]; exact h.at_.nd
  have val : ∀ e ∈ repl M n q, (e.1 = n ∧ e.2 = q) ∨ e ∈ M := fun e he => by
    obtain ⟨e0, h0, rfl⟩ := List.mem_map.mp he
    by_cases c : e0.1 = n
    · rw [if_pos c]
      exact .inl ⟨c, rfl⟩
    · rw [if_neg c]
      exact .inr h0
  refine ⟨⟨nd, fun x => by rw [repl_keys]; exact h.at_.ks x, fun e he => ?_, fun e he ey => ?_, ?_⟩, h.ks, by rw [← put_at]; exact h.pm.map _⟩
  · rcases val e he with ⟨_, c⟩ | c
    · rw [c]; exact hh
    · exact h.at_.vs e c
  · rcases val e he with ⟨c1, c⟩ | c
    · rw [c]; exact hy (by rw [← c1]; exact ey)
    · exact h.at_.vy e c ey
  · rw [e]
    exact cf_put h.at_.fin hq hl hnl
/-- boxes that agree have the same box among their holders -/
theorem box_alike {M3 : AtM} (ok : SpOk2 S) (A1 : AtOk S M) (A3 : AtOk S M3) (ag : ∀ b ∈ ofS S ["box"], atv M3 b = atv M b) {n : Str} (hn : n ∈ ofS S ["box"]) {q : Str} {l : List Str} (c : Cf (atv M) q l) : q ∈ ofS S holders3 → ∀ l3, Cf (atv M3) q l3 → n ∈ l → n ∈ l3 := by
  have noroom : ∀ z, z ∈ roomsS S → z ∉ ofS S ["box"] := fun z h1 h2 => by
    obtain ⟨k, k1, k2⟩ := of_disj ok.ok (mem_rooms.mp h1) h2
    rw [List.mem_singleton.mp k1] at k2
    exact absurd (List.mem_singleton.mp k2) (by decide +kernel)
  induction c with
  | nil _ => exact fun _ _ _ h => absurd h (by simp)
  | @cons x y l h k ih =>
    intro hx l3 c3 hm
    rcases hold3 ok.ok hx with r | r | r
    · have := cf_det (at_room ok.ok A1.ks r) (.cons h k)
      cases this
    · have e3 := ag x r
      rw [h] at e3
      cases c3 with
      | nil c => rw [e3] at c; cases c
      | cons c k3 =>
        rw [e3] at c
        cases c
        rcases List.mem_cons.mp hm with rfl | hm
        · exact List.mem_cons_self
        · exact List.mem_cons_of_mem _ (ih (A1.vs _ (atv_mem h)) _ k3 hm)
    · subst r
      have hy := A1.vy _ (atv_mem h) rfl
      have := cf_det (at_room ok.ok A1.ks hy) k
      subst this
      rw [List.mem_singleton.mp hm] at hn
      exact absurd hn (noroom _ hy)
end
/-! ### terms -/
section
variable {S : Sc} {c : Cm} {fm : Str}
theorem term_own {it other : Option Str} {t : Str} (h : t ∉ barred3) : nm it other t = some t ∧ ∀ c fm x, mean c fm x t = some t := by
  have h1 : ¬ t = "here" := fun z => h (by rw [z]; decide +kernel)
  have h2 : ¬ t = "it" := fun z => h (by rw [z]; decide +kernel)
  have h3 : ¬ t = "other" := fun z => h (by rw [z]; decide +kernel)
  unfold nm mean
  rw [if_neg h1, if_neg h2, if_neg h3]
  refine ⟨rfl, fun c fm x => ?_⟩
  rw [if_neg h1, if_neg h2, if_neg h3]
theorem term_ok (ok : SpOk2 S) (hc : CmOk S c fm) {ns : List Str} (hns : ∀ x ∈ ns, x ∈ S.rows.map Rw.name ∨ x ∈ mKeys S) {t : Str} (h : TmOk ns fm t) : ∃ n, nm (giv c).1 (giv c).2 t = some n ∧ (∀ x, mean c fm x t = some n) ∧ (n ∈ ns ∨ n ∈ ofS S plain4) ∧ t ≠ "here" := by
  rcases h with h | ⟨rfl, h⟩ | ⟨rfl, h⟩
  · have hb := ok.nb t (hns t h)
    obtain ⟨a, b⟩ := term_own (it := (giv c).1) (other := (giv c).2) hb
    exact ⟨t, a, fun x => b c fm x, .inl h, fun z => hb (by rw [z]; decide +kernel)⟩
  · cases hc with
    | go x => rcases h with h | h <;> exact absurd h (by decide +kernel)
    | wait => rcases h with h | h <;> exact absurd h (by decide +kernel)
    | @take n hn => exact ⟨n, by unfold nm giv; kernel_rfl, fun x => by kernel_rfl, .inr hn, by decide +kernel⟩
    | @put n m hn hm => exact ⟨n, by kernel_rfl, fun x => by kernel_rfl, .inr hn, by decide +kernel⟩
  · cases hc with
    | go x => exact absurd h (by decide +kernel)
    | wait => exact absurd h (by decide +kernel)
    | take hn => exact absurd h (by decide +kernel)
    | @put n m hn hm => exact ⟨m, by kernel_rfl, fun x => by kernel_rfl, .inr hm, by decide +kernel⟩
end
end Tw
set_option maxHeartbeats 4000000
/-! All but a part; a part's values. -/
namespace Tw
open PySem PySem.Spec L2
local macro_rules | `(tactic| walk_at "rd1") => `(tactic| first
  | with_reducible refine x_seq ?_
  | ((with_reducible refine x_var (v := ?vv) ?hh ?_); case hh => exact rfl)
  | with_reducible refine x_c ?_
  | with_reducible refine x_op ?_
  | with_reducible refine x_fld ?_
  | with_reducible refine x_call ?_
  | with_reducible refine x_meth ?_
  | with_reducible refine x_make ?_
  | with_reducible refine x_cb ?_
  | with_reducible refine x_tup ?_
  | with_reducible refine x_lst ?_
  | with_reducible refine x_nil ?_
  | with_reducible refine x_cons ?_
  | with_reducible refine x_asg ?_
  | with_reducible refine x_name ?_
  | with_reducible refine x_ret ?_
  | with_reducible refine x_retN ?_
  | with_reducible refine x_drop ?_
  | with_reducible refine x_ifS ?_
  | with_reducible refine x_if ?_
  | with_reducible refine x_andV ?_
  | with_reducible refine x_orV ?_
  | with_reducible refine x_notV ?_
  | with_reducible refine x_test ?_
  | with_reducible refine x_tB ?_
  | with_reducible refine x_and ?_
  | with_reducible refine x_or ?_
  | with_reducible refine x_not ?_
  | with_reducible refine x_yes ?_
  | with_reducible refine x_next ?_
  | with_reducible refine x_sfld ?_
  | with_reducible refine blK ?_
  | with_reducible refine r_I0 ?_
  | with_reducible refine r_isN ?_
  | with_reducible refine r_notN ?_
  | ((with_reducible refine r_eq ?hh ?_); case hh => exact rfl)
  | ((with_reducible refine r_ne ?hh ?_); case hh => exact rfl)
  | with_reducible refine x_gnil ?_
  | with_reducible refine x_gcons ?_)
local macro_rules | `(tactic| walk_at "rd2") => `(tactic| first
  | walk_at "rd1"
  | with_reducible refine x_lc ?_
  | with_reducible refine x_for ?_
  | with_reducible refine x_itup ?_
  | with_reducible refine x_ilist ?_
  | with_reducible refine x_rng1 ?_
  | with_reducible refine x_bm ?_
  | with_reducible refine x_chain ?_
  | with_reducible refine x_istr ?_
  | with_reducible refine strK ?_
  | with_reducible refine x_sl ?_
  | with_reducible refine x_part ?_
  | with_reducible refine x_noPart ?_
  | with_reducible refine poK ?_
  | ((with_reducible refine ltK ?hh ?_); case hh => exact rfl)
  | ((with_reducible refine ltKx ?hh ?_); case hh => exact rfl)
  | with_reducible refine x_dput ?_
  | with_reducible refine x_dget ?_
  | with_reducible refine iteK_t ?_
  | with_reducible refine iteK_nf ?_
  | with_reducible refine iteK_nt ?_
  | with_reducible refine iteK_f ?_)
local macro_rules | `(tactic| walk_at "go") => `(tactic| repeat (walk_at "rd2"))
local macro_rules | `(tactic| walk_at "rd") => `(tactic| repeat (walk_at "rd1"))
local macro_rules | `(tactic| walk_at "at") => `(tactic| repeat (first | assumption | refine same_at' (by assumption) ?_))
local macro_rules | `(tactic| walk_at "sm") => `(tactic| repeat (first | exact Same.refl _ | assumption | refine Same.trans ?_ (by assumption)))
local macro_rules | `(tactic| walk_at "mk1") => `(tactic| first
  | with_reducible refine mk_new rfl fun _ _ _ _ _ _ => ?_
  | with_reducible refine lstK rfl fun _ _ _ _ _ => ?_
  | with_reducible refine tupK rfl fun _ _ _ _ _ => ?_
  | with_reducible refine mk_rule4 (SqL.of (by walk_at "at")) (SqL.of (by walk_at "at")) fun _ _ _ _ => ?_
  | with_reducible refine mk_rule (SqL.of (by walk_at "at")) (SqL.of (by walk_at "at")) fun _ _ _ _ => ?_
  | with_reducible refine c_refusal (SqL.of (by walk_at "at")) fun _ _ _ _ => ?_)
local macro_rules | `(tactic| walk_at "mk") => `(tactic| repeat (first | walk_at "rd2" | walk_at "mk1"))
local macro_rules | `(tactic| walk_at "ar1") => `(tactic| ((with_reducible refine r_I ?hh ?_); case hh => first | exact (show (0 : Int) < _ from by decide +kernel) | exact And.intro (by decide +kernel) (by decide +kernel) | exact Or.inr (And.intro (by decide +kernel) (by decide +kernel)) | exact Or.inl (And.intro (by decide +kernel) (by decide +kernel)) | exact And.intro (by decide +kernel) (And.intro (by decide +kernel) (by decide +kernel))))
local macro_rules | `(tactic| walk_at "ar") => `(tactic| repeat (first | walk_at "rd2" | walk_at "ar1"))

def butS (S : Stand) (p : Part) : Stand := S.filter fun e => decide (e.1 ≠ p)
def valS (S : Stand) (p : Part) : List Vl := (S.filter fun e => decide (e.1 = p)).map Prod.snd
theorem but_put (S : Stand) (p : Part) (x : Vl) : butS (putS S p x) p = butS S p := by
  unfold butS putS
  induction S with
  | nil => rfl
  | cons e r ih =>
    rw [List.map_cons, List.filter_cons, List.filter_cons]
    by_cases c : e.1 = p
    · rw [if_pos c, if_neg (by simp [c]), if_neg (by simp [c])]
      exact ih
    · rw [if_neg c, if_pos (by simp [c]), if_pos (by simp [c]), ih]
theorem val_no {S : Stand} {p : Part} {x : Vl} (h : p ∉ S.map Prod.fst) : valS (putS S p x) p = [] := by
  unfold valS putS
  induction S with
  | nil => rfl
  | cons e r ih =>
    rw [List.map_cons] at h
    have c : ¬ e.1 = p := fun z => h (by rw [z]; exact List.mem_cons_self)
    rw [List.map_cons, List.filter_cons, if_neg c, if_neg (by simp [c])]
    exact ih fun z => h (List.mem_cons_of_mem _ z)
theorem val_put {S : Stand} {p : Part} {x : Vl} (nd : (S.map Prod.fst).Nodup) (h : p ∈ S.map Prod.fst) : valS (putS S p x) p = [x] := by
  induction S with
  | nil => cases h
  | cons e r ih =>
    rw [List.map_cons] at nd h
    have nd2 := List.nodup_cons.mp nd
    by_cases c : e.1 = p
    · have := val_no (x := x) (show p ∉ r.map Prod.fst from by rw [← c]; exact nd2.1)
      unfold valS putS at this ⊢
      rw [List.map_cons, List.filter_cons, if_pos c, if_pos (by simp [c]), List.map_cons, this]
    · have := ih nd2.2 (by
        rcases List.mem_cons.mp h with h | h
        · exact absurd h.symm c
        · exact h)
      unfold valS putS at this ⊢
      rw [List.map_cons, List.filter_cons, if_neg c, if_neg (by simp [c])]
      exact this
theorem eqv_pair (e : Part × Vl) : PyData.eqv (pairD e) (pairD e) = true := by
  have h := eqv_part e.1 e.1
  rw [decide_eq_true rfl] at h
  unfold pairD
  cases q : e.2 with
  | s x => simp [PyData.eqv, PyData.eqvAll, h, Vl.d]
  | n i => simp [PyData.eqv, PyData.eqvAll, h, Vl.d]
theorem eqv_pairs (l : Stand) : PyData.eqv (.list (l.map pairD)) (.list (l.map pairD)) = true := by
  have : ∀ l : Stand, PyData.eqvAll (l.map pairD) (l.map pairD) = true := fun l => by
    induction l with
    | nil => simp [PyData.eqvAll]
    | cons e r ih => rw [List.map_cons]; simp [PyData.eqvAll, eqv_pair, ih]
  simp only [PyData.eqv]
  exact this l
theorem shaped_pairs {l : Stand} (h : OkStand l) : SeqAt.shaped (.list (l.map pairD)) = true := by
  have h1 : PyData.canLayAll0 (l.map pairD) = true ∧ PyData.depthAll (l.map pairD) ≤ 8 := by
    induction l with
    | nil => exact ⟨rfl, by simp [PyData.depthAll]⟩
    | cons e r ih =>
      obtain ⟨i1, i2⟩ := ih fun e he => h e (List.mem_cons_of_mem _ he)
      obtain ⟨⟨o1, o2⟩, o3⟩ := h e List.mem_cons_self
      simp only [OkS] at o1 o2
      rw [List.map_cons]
      have : (pairD e).canLay0 = true ∧ (pairD e).depth ≤ 8 := by
        unfold pairD partD
        cases q : e.2 with
        | s x =>
          rw [q] at o3
          have o3 : PyData.strOk x = true := o3
          simp [PyData.canLay0, PyData.canLayAll0, PyData.depth, PyData.depthAll, Vl.d, o1, o2, o3]
        | n i => simp [PyData.canLay0, PyData.canLayAll0, PyData.depth, PyData.depthAll, Vl.d, o1, o2]
      refine ⟨by simp only [PyData.canLayAll0, this.1, i1]; rfl, ?_⟩
      simp only [PyData.depthAll]
      have := this.2
      omega
  simp only [SeqAt.shaped, PyData.canLay0, PyData.depth, h1.1]
  have := h1.2
  simp
  omega
theorem ok_but {S : Stand} (h : OkStand S) (p : Part) : OkStand (butS S p) := fun e he => h e (List.mem_filter.mp he).1
section
variable {P : Program} {w : World} {K : PySem.W.Frag} {mg : Str → Option Value} {base : Heap}
def spBut (K : PySem.W.Frag) : Sp := fun vs H Q _ => ∃ sv pv S p, vs = [sv, pv] ∧ Dp K H sv (standD S) ∧ Dp K H pv (partD p) ∧ OkStand S ∧ OkP p ∧ S.length ≤ 500 ∧ ∀ v H', Same H H' → Dp K H' v (.list ((butS S p).map pairD)) → Q v H'
theorem sc_law_but : FnScope ["_law_stand_here", "_law_part", "_law_pair"] ["_law_stand_here", "_law_part"] (defScope s_law_but) := ⟨rfl, rfl, rfl, by decide +kernel, rfl, by decide +kernel, by decide +kernel⟩
theorem ok_law_but (t : T K mg) : C8.Cal P w K mg base 1 "_law_but" (spBut K) [] := by
  refine cal t.f_law_but t.g_law_but sc_law_but (fun _ _ _ _ _ _ us hl => match us, hl with | [_, _], _ => rfl) (fun vs H Q E h => ?_) fun cdv A outer s H vs Q E hr h => ?_
  · obtain ⟨sv, pv, S, p, rfl, _⟩ := h
    rfl
  · obtain ⟨sv, pv, S, p, rfl, hS, hp, oS, oP, hz, k⟩ := h
    obtain ⟨a, xs, rfl, h1, h2⟩ := dp_tuple hS
    have hl := dpa_len h2
    rw [List.length_map] at hl
    refine ⟨_, (pss_one (ps_ret (pe_lc (own := [("_law_pair", 2)]) (by rfl) sc_law_but.nd (pi_tup' (K := K) rfl (L2.pv 0)) (blkOk_by (own := [("_law_pair", 2)]) (N := ["_law_stand_here", "_law_part", "_law_pair"]) (sc := defScope s_law_but) (by decide +kernel)) (fun _ _ _ _ _ => (pg_name (i := 2) sc_law_but.nd rfl (Or.inl rfl))) (fun _ _ _ _ _ => (pts_one (pt_cmpR (op_neD' (K := K) rfl hr.units) (pe_ix (ix_tup' (K := K) rfl) (L2.pv 2) pe_int (fun _ _ => rfl)) (L2.pv 1) (nomark _)))) (fun _ _ _ _ _ => (L2.pv 2))))), ?_⟩
    walk_at "ar"
    refine sqTK h1 ?_
    refine lcT (fun ys i H' => ys.length ≤ i ∧ DpAll K H' ys ((butS (S.take i) p).map pairD)) h1 ⟨Nat.le_refl _, .nil⟩ (fun _ _ _ => ⟨Nat.le_refl _, .nil⟩) ?_ ?_
    · rintro D i x ys H2 m ⟨ly, f⟩ hi
      obtain ⟨d, hd, dx⟩ := dpa_get h2 hi
      obtain ⟨e, he, rfl⟩ := map_get hd
      obtain ⟨b, qv, rfl, hb, hp2⟩ := pair_dp dx
      have hlt := get_lt he
      have st : butS (S.take (i + 1)) p = butS (S.take i) p ++ (if decide (e.1 ≠ p) = true then [e] else []) := filter_snoc _ he
      walk_at "ar"
      refine r_ixT (i := 0) (same_sqt m.same hb) rfl ?_
      walk_at "ar"
      refine r_neD (dp_mono m.same hp2) (dp_mono m.same hp) (shaped_part (oS e (List.mem_of_getElem? he)).1) (shaped_part oP) ?_
      rw [eqv_part]
      walk_at "ar"
      refine iteK (fun c => ?_) fun c => ?_
      · have c : ¬ e.1 = p := by simpa using c
        walk_at "ar"
        refine apK m (by omega) ⟨by rw [List.length_append]; simp; omega, ?_⟩
        rw [st, if_pos (decide_eq_true c), List.map_append]
        exact dpa_snoc f (dp_mono m.sm dx)
      · have c : e.1 = p := by simpa using c
        refine skK m ⟨by omega, ?_⟩
        rw [st, if_neg (by simp [c]), List.append_nil]
        exact f
    · rintro D H2 ys m ⟨ly, f⟩
      rw [hl, List.take_length] at f
      exact k _ H2 m.same (.lst (.of m.at_) (dpAll_mono del_le f))
def spVal (K : PySem.W.Frag) : Sp := fun vs H Q _ => ∃ sv pv S p, vs = [sv, pv] ∧ Dp K H sv (standD S) ∧ Dp K H pv (partD p) ∧ OkStand S ∧ OkP p ∧ S.length ≤ 500 ∧ ∀ v H', Same H H' → Dp K H' v (.list ((valS S p).map Vl.d)) → Q v H'
theorem sc_law_value : FnScope ["_law_stand_here", "_law_part", "_law_one", "_law_value_here"] ["_law_stand_here", "_law_part"] (defScope s_law_value) := ⟨rfl, rfl, rfl, by decide +kernel, rfl, by decide +kernel, by decide +kernel⟩
theorem ok_law_value (t : T K mg) : C8.Cal P w K mg base 1 "_law_value" (spVal K) [] := by
  refine cal t.f_law_value t.g_law_value sc_law_value (fun _ _ _ _ _ _ us hl => match us, hl with | [_, _], _ => rfl) (fun vs H Q E h => ?_) fun cdv A outer s H vs Q E hr h => ?_
  · obtain ⟨sv, pv, S, p, rfl, _⟩ := h
    rfl
  · obtain ⟨sv, pv, S, p, rfl, hS, hp, oS, oP, hz, k⟩ := h
    obtain ⟨a, xs, rfl, h1, h2⟩ := dp_tuple hS
    have hl := dpa_len h2
    rw [List.length_map] at hl
    refine ⟨_, (pss_one (ps_ret (pe_lc (own := [("_law_one", 2), ("_law_value_here", 3)]) (by rfl) sc_law_value.nd (pi_tup' (K := K) rfl (L2.pv 0)) (blkOk_by (own := [("_law_one", 2), ("_law_value_here", 3)]) (N := ["_law_stand_here", "_law_part", "_law_one", "_law_value_here"]) (sc := defScope s_law_value) (by decide +kernel)) (fun _ _ _ _ _ => (pg_tup' (K := K) (n := 2) rfl (by rfl) (pgs_cons (pg_name (i := 2) sc_law_value.nd rfl (Or.inl rfl)) (pgs_cons (pg_name (i := 3) sc_law_value.nd rfl (Or.inl rfl)) pgs_nil)))) (fun _ _ _ _ _ => (pts_one (pt_cmpR (op_eqD' (K := K) rfl hr.units) (L2.pv 2) (L2.pv 1) (nomark _)))) (fun _ _ _ _ _ => (L2.pv 3))))), ?_⟩
    walk_at "ar"
    refine sqTK h1 ?_
    refine lcT (fun ys i H' => ys.length ≤ i ∧ DpAll K H' ys ((valS (S.take i) p).map Vl.d)) h1 ⟨Nat.le_refl _, .nil⟩ (fun _ _ _ => ⟨Nat.le_refl _, .nil⟩) ?_ ?_
    · rintro D i x ys H2 m ⟨ly, f⟩ hi
      obtain ⟨d, hd, dx⟩ := dpa_get h2 hi
      obtain ⟨e, he, rfl⟩ := map_get hd
      obtain ⟨b, qv, rfl, hb, hp2⟩ := pair_dp dx
      have hlt := get_lt he
      have st : valS (S.take (i + 1)) p = valS (S.take i) p ++ (if decide (e.1 = p) = true then [e.2] else []) := by
        unfold valS
        rw [filter_snoc _ he, List.map_append]
        congr 1
        by_cases c : decide (e.1 = p) = true
        · rw [if_pos c, if_pos c]; rfl
        · rw [if_neg c, if_neg c]; rfl
      refine x_gtup (same_sqt m.same hb) rfl ?_
      walk_at "ar"
      refine r_eqD (dp_mono m.same hp2) (dp_mono m.same hp) (shaped_part (oS e (List.mem_of_getElem? he)).1) (shaped_part oP) ?_
      rw [eqv_part]
      walk_at "ar"
      refine iteK (fun c => ?_) fun c => ?_
      · walk_at "ar"
        refine apK m (by omega) ⟨by rw [List.length_append]; simp; omega, ?_⟩
        rw [st, if_pos c, List.map_append]
        exact dpa_snoc f (vl_dp e.2)
      · refine skK m ⟨by omega, ?_⟩
        rw [st, if_neg (by rw [c]; exact Bool.false_ne_true), List.append_nil]
        exact f
    · rintro D H2 ys m ⟨ly, f⟩
      rw [hl, List.take_length] at f
      exact k _ H2 m.same (.lst (.of m.at_) (dpAll_mono del_le f))
end
end Tw
set_option maxHeartbeats 4000000
/-! Deed by deed, alike. -/
namespace Tw
open PySem PySem.Spec L2
local macro_rules | `(tactic| walk_at "rd1") => `(tactic| first
  | with_reducible refine x_seq ?_
  | ((with_reducible refine x_var (v := ?vv) ?hh ?_); case hh => exact rfl)
  | with_reducible refine x_c ?_
  | with_reducible refine x_op ?_
  | with_reducible refine x_fld ?_
  | with_reducible refine x_call ?_
  | with_reducible refine x_meth ?_
  | with_reducible refine x_make ?_
  | with_reducible refine x_cb ?_
  | with_reducible refine x_tup ?_
  | with_reducible refine x_lst ?_
  | with_reducible refine x_nil ?_
  | with_reducible refine x_cons ?_
  | with_reducible refine x_asg ?_
  | with_reducible refine x_name ?_
  | with_reducible refine x_ret ?_
  | with_reducible refine x_retN ?_
  | with_reducible refine x_drop ?_
  | with_reducible refine x_ifS ?_
  | with_reducible refine x_if ?_
  | with_reducible refine x_andV ?_
  | with_reducible refine x_orV ?_
  | with_reducible refine x_notV ?_
  | with_reducible refine x_test ?_
  | with_reducible refine x_tB ?_
  | with_reducible refine x_and ?_
  | with_reducible refine x_or ?_
  | with_reducible refine x_not ?_
  | with_reducible refine x_yes ?_
  | with_reducible refine x_next ?_
  | with_reducible refine x_sfld ?_
  | with_reducible refine blK ?_
  | with_reducible refine r_I0 ?_
  | with_reducible refine r_isN ?_
  | with_reducible refine r_notN ?_
  | ((with_reducible refine r_eq ?hh ?_); case hh => exact rfl)
  | ((with_reducible refine r_ne ?hh ?_); case hh => exact rfl)
  | with_reducible refine x_gnil ?_
  | with_reducible refine x_gcons ?_)
local macro_rules | `(tactic| walk_at "rd2") => `(tactic| first
  | walk_at "rd1"
  | with_reducible refine x_lc ?_
  | with_reducible refine x_for ?_
  | with_reducible refine x_itup ?_
  | with_reducible refine x_ilist ?_
  | with_reducible refine x_rng1 ?_
  | with_reducible refine x_bm ?_
  | with_reducible refine x_chain ?_
  | with_reducible refine x_istr ?_
  | with_reducible refine strK ?_
  | with_reducible refine x_sl ?_
  | with_reducible refine x_part ?_
  | with_reducible refine x_noPart ?_
  | with_reducible refine poK ?_
  | ((with_reducible refine ltK ?hh ?_); case hh => exact rfl)
  | ((with_reducible refine ltKx ?hh ?_); case hh => exact rfl)
  | with_reducible refine x_dput ?_
  | with_reducible refine x_dget ?_
  | with_reducible refine iteK_t ?_
  | with_reducible refine iteK_nf ?_
  | with_reducible refine iteK_nt ?_
  | with_reducible refine iteK_f ?_)
local macro_rules | `(tactic| walk_at "go") => `(tactic| repeat (walk_at "rd2"))
local macro_rules | `(tactic| walk_at "rd") => `(tactic| repeat (walk_at "rd1"))
local macro_rules | `(tactic| walk_at "at") => `(tactic| repeat (first | assumption | refine same_at' (by assumption) ?_))
local macro_rules | `(tactic| walk_at "sm") => `(tactic| repeat (first | exact Same.refl _ | assumption | refine Same.trans ?_ (by assumption)))
local macro_rules | `(tactic| walk_at "mk1") => `(tactic| first
  | with_reducible refine mk_new rfl fun _ _ _ _ _ _ => ?_
  | with_reducible refine lstK rfl fun _ _ _ _ _ => ?_
  | with_reducible refine tupK rfl fun _ _ _ _ _ => ?_
  | with_reducible refine mk_rule4 (SqL.of (by walk_at "at")) (SqL.of (by walk_at "at")) fun _ _ _ _ => ?_
  | with_reducible refine mk_rule (SqL.of (by walk_at "at")) (SqL.of (by walk_at "at")) fun _ _ _ _ => ?_
  | with_reducible refine c_refusal (SqL.of (by walk_at "at")) fun _ _ _ _ => ?_)
local macro_rules | `(tactic| walk_at "mk") => `(tactic| repeat (first | walk_at "rd2" | walk_at "mk1"))
local macro_rules | `(tactic| walk_at "ar1") => `(tactic| ((with_reducible refine r_I ?hh ?_); case hh => first | exact (show (0 : Int) < _ from by decide +kernel) | exact And.intro (by decide +kernel) (by decide +kernel) | exact Or.inr (And.intro (by decide +kernel) (by decide +kernel)) | exact Or.inl (And.intro (by decide +kernel) (by decide +kernel)) | exact And.intro (by decide +kernel) (And.intro (by decide +kernel) (by decide +kernel))))
local macro_rules | `(tactic| walk_at "ar") => `(tactic| repeat (first | walk_at "rd2" | walk_at "ar1"))

section
variable {S : Sc} {c : Cm} {fm : Str}
theorem plain_name {n : Str} {ks : List Str} (h : n ∈ ofS S ks) : n ∈ S.rows.map Rw.name := by
  obtain ⟨r, e1, e2, _⟩ := mem_of.mp h
  exact List.mem_map.mpr ⟨r, e1, e2⟩
theorem you_plain (ok : SpOk2 S) : S.you ∉ ofS S plain4 := fun h => by
  obtain ⟨r, e1, e2, e3⟩ := mem_of.mp h
  rw [(ok.ok.yu r e1).mpr e2] at e3
  exact absurd e3 (by decide +kernel)
theorem mv_res (ok : SpOk2 S) (hc : CmOk S c fm) {t p : Str} (h : DdOk S fm t p) : ∃ n, nm (giv c).1 (giv c).2 t = some n ∧ (∀ x, mean c fm x t = some n) ∧ n ∈ ofS S nonroom ∧
    ((p = "here" ∧ nm (giv c).1 (giv c).2 p = none ∧ (∀ x, mean c fm x p = some x) ∧ n ≠ S.you) ∨ ∃ q, nm (giv c).1 (giv c).2 p = some q ∧ (∀ x, mean c fm x p = some q) ∧ q ∈ S.rows.map Rw.name ∧ (n = S.you → q ∈ roomsS S)) := by
  cases h with
  | some h1 h2 =>
    obtain ⟨n, a1, a2, a3, _⟩ := term_ok ok hc (ns := ofS S plain4) (fun x hx => .inl (plain_name hx)) h1
    have hn : n ∈ ofS S plain4 := a3.elim id id
    have hy : n ≠ S.you := fun z => you_plain ok (by rw [← z]; exact hn)
    refine ⟨n, a1, a2, ?_, ?_⟩
    · obtain ⟨r, e1, e2, e3⟩ := mem_of.mp hn
      exact mem_of.mpr ⟨r, e1, e2, (by decide +kernel : ∀ k ∈ plain4, k ∈ nonroom) _ e3⟩
    · rcases h2 with h2 | h2
      · subst h2
        exact .inl ⟨rfl, by unfold nm; rw [if_pos rfl], fun x => by unfold mean; rw [if_pos rfl], hy⟩
      · obtain ⟨q, b1, b2, b3, _⟩ := term_ok ok hc (ns := ofS S holders3) (fun x hx => .inl (plain_name hx)) h2
        exact .inr ⟨q, b1, b2, b3.elim plain_name plain_name, fun z => absurd z hy⟩
  | @you p h2 =>
    have yb := ok.nb S.you (.inl ok.ok.yi)
    have pn : p ∈ S.rows.map Rw.name := plain_name (mem_rooms.mp h2)
    have pb := ok.nb p (.inl pn)
    obtain ⟨a, b⟩ := term_own (it := (giv c).1) (other := (giv c).2) yb
    obtain ⟨a', b'⟩ := term_own (it := (giv c).1) (other := (giv c).2) pb
    refine ⟨S.you, a, fun x => b c fm x, ?_, .inr ⟨p, a', fun x => b' c fm x, pn, fun _ => h2⟩⟩
    obtain ⟨r, e1, e2⟩ := List.mem_map.mp ok.ok.yi
    exact mem_of.mpr ⟨r, e1, e2, by rw [(ok.ok.yu r e1).mpr e2]; decide +kernel⟩
theorem name_find (ok : SpOk2 S) {q : Str} (h : q ∈ S.rows.map Rw.name) : ∃ g, (wdS S).find q = some g ∧ OkS q := by
  obtain ⟨r, e1, rfl⟩ := List.mem_map.mp h
  obtain ⟨g, g1, _⟩ := find_row ok e1
  exact ⟨g, g1, ok.ok.ok r e1⟩
theorem go_hold (ok : SpOk2 S) {n q : Str} (h : mayGo (wdS S) n (some q) = true) : q ≠ n ∧ q ∈ ofS S holders3 ∧ mayGo (wdS S) n none = true := by
  unfold mayGo at h ⊢
  cases hn : (wdS S).find n with
  | none => rw [hn] at h; cases h
  | some g =>
    rw [hn] at h
    dsimp only at h ⊢
    obtain ⟨h1, h2⟩ := Bool.and_eq_true_iff.mp h
    obtain ⟨h3, h4⟩ := Bool.and_eq_true_iff.mp h2
    refine ⟨by simpa using h3, ?_, by rw [h1]; rfl⟩
    cases hq : (wdS S).find q with
    | none => rw [hq] at h4; cases h4
    | some g2 =>
      rw [hq] at h4
      dsimp only at h4
      obtain ⟨r, e1, e2, e3⟩ := find_back ok hq
      refine mem_of.mpr ⟨r, e1, e2, ?_⟩
      rw [e3]
      unfold Th.holds at h4
      rcases Bool.or_eq_true_iff.mp h4 with k | k
      · rw [of_decide_eq_true k]; decide +kernel
      · rcases Bool.or_eq_true_iff.mp k with k | k
        · rw [of_decide_eq_true k]; decide +kernel
        · rw [of_decide_eq_true k]; decide +kernel
/-- the holders of a place, as far as a thing that moves goes -/
theorem mem_alike {M1 M3 : AtM} (ok : SpOk2 S) (A1 : AtOk S M1) (A3 : AtOk S M3) {n q : Str} (hn : n ∈ ofS S nonroom) (hq : q ∈ ofS S holders3) (hy : n = S.you → q ∈ roomsS S) (ag : n ∈ ofS S ["box"] → ∀ b ∈ ofS S ["box"], atv M3 b = atv M1 b) {l1 l3 : List Str}
    (c1 : Cf (atv M1) q l1) (c3 : Cf (atv M3) q l3) : n ∈ l1 ↔ n ∈ l3 := by
  have key : ∀ (M M' : AtM), AtOk S M → AtOk S M' → (n ∈ ofS S ["box"] → ∀ b ∈ ofS S ["box"], atv M' b = atv M b) → ∀ l l', Cf (atv M) q l → Cf (atv M') q l' → n ∈ l → n ∈ l' := fun M M' A A' ag l l' c c' h => by
    have hh := cf_in A.vs c n h
    rcases hold3 ok.ok hh with r | r | r
    · obtain ⟨k, k1, k2⟩ := of_disj ok.ok (mem_rooms.mp r) hn
      rw [List.mem_singleton.mp k1] at k2
      exact absurd k2 (by decide +kernel)
    · exact box_alike ok A A' (ag r) r c hq l' c' h
    · have := cf_det (at_room ok.ok A.ks (hy r)) c
      rw [← this] at h
      cases h
  exact ⟨key M1 M3 A1 A3 ag l1 l3 c1 c3, key M3 M1 A3 A1 (fun h b hb => (ag h b hb).symm) l3 l1 c3 c1⟩
end
theorem x_ei1 {σ : L2.St} {H : Hp} {Q : VK} {t u : TE} (q : t σ H Q) : tEi t u σ H Q := .inl q
theorem x_ei2 {σ : L2.St} {H : Hp} {Q : VK} {t u : TE} (q : u σ H Q) : tEi t u σ H Q := .inr q
theorem no_mv_change (a b : V) : (F_Move [a, b]).lookup ("change" : Str) = none := by kernel_rfl
theorem no_mv_done (a b : V) : (F_Move [a, b]).lookup ("done" : Str) = none := by kernel_rfl
theorem no_mv_reads (a b : V) : (F_Move [a, b]).lookup ("reads" : Str) = none := by kernel_rfl
theorem no_pu_change (a b : V) : (F_Put [a, b]).lookup ("change" : Str) = none := by kernel_rfl
theorem no_pu_done (a b : V) : (F_Put [a, b]).lookup ("done" : Str) = none := by kernel_rfl
theorem no_pu_reads (a b : V) : (F_Put [a, b]).lookup ("reads" : Str) = none := by kernel_rfl
section
variable {P : Program} {w : World} {K : PySem.W.Frag} {mg : Str → Option Value} {base : Heap}
def DeedC (K : PySem.W.Frag) (S : Sc) (c : Cm) (fm : Str) (qs : List Part) (H : Hp) (x : V) : Prop :=
  (∃ t p, MvAt K H x t p ∧ DdOk S fm t p ∧ (∀ n, nm (giv c).1 (giv c).2 t = some n → n ∈ ofS S ["box"] → ∀ b ∈ ofS S ["box"], atP b ∈ qs) ∧ (p = "here" → atP S.you ∈ qs)) ∨ (∃ t i, PuAt K H x t i ∧ TmOk (mKeys S) fm t)
theorem deedC_mono {S : Sc} {c : Cm} {fm : Str} {qs : List Part} {H H' : Hp} {x : V} (s : Same H H') (h : DeedC K S c fm qs H x) : DeedC K S c fm qs H' x := by
  rcases h with ⟨t, p, ⟨a, dx, e, h1⟩, h2⟩ | ⟨t, i, ⟨a, dx, e, h1⟩, h2⟩
  · exact .inl ⟨t, p, ⟨a, dx, e, s _ _ h1⟩, h2⟩
  · exact .inr ⟨t, i, ⟨a, dx, e, s _ _ h1⟩, h2⟩
def spAlike (K : PySem.W.Frag) : Sp := fun vs H Q _ => ∃ (v : V) (dl : Addr) (sv1 sv2 cv : V) (gv : Addr) (S : Sc) (ds : List V) (St1 St3 : Stand) (M1 : AtM) (MM1 : List (Str × Int)) (M3 : AtM) (MM3 : List (Str × Int)) (c : Cm) (fm : Str) (qs : List Part), vs = [v, .ref dl, sv1, sv2, cv, .ref gv] ∧ WorldAt K H v (wdS S) ∧ SpOk2 S ∧ SqL K H dl ds ∧
  (∀ x ∈ ds, DeedC K S c fm qs H x) ∧ Dp K H sv1 (standD St1) ∧ Dp K H sv2 (standD St3) ∧ StIs S St1 M1 MM1 ∧ StIs S St3 M3 MM3 ∧ Dp K H cv (cmD c) ∧ CmOk S c fm ∧ SqT K H gv [oS (giv c).1, oS (giv c).2] ∧ (∀ n, atP n ∈ qs → atv M3 n = atv M1 n) ∧ ∀ H', Same H H' → Q (.bl true) H'
theorem sc_law_alike : FnScope ["_law_world_here", "_law_deeds", "_law_one", "_law_two", "_law_command_here", "_law_given_here", "_law_deed_here", "_law_part", "_law_later", "_law_other"] ["_law_world_here", "_law_deeds", "_law_one", "_law_two", "_law_command_here", "_law_given_here"] (defScope s_law_alike) := ⟨rfl, rfl, rfl, by decide +kernel, rfl, by decide +kernel, by decide +kernel⟩
theorem ok_law_alike (t : T K mg) : C8.Cal P w K mg base 6 "_law_alike" (spAlike K) [] := by
  have c_mc := ok_Move_change (P := P) (w := w) (base := base) t
  have c_pc := ok_Put_change (P := P) (w := w) (base := base) t
  have c_md := ok_Move_done (P := P) (w := w) (base := base) t
  have c_pd := ok_Put_done (P := P) (w := w) (base := base) t
  have c_law_but := ok_law_but (P := P) (w := w) (base := base) t
  have c_law_value := ok_law_value (P := P) (w := w) (base := base) t
  refine cal t.f_law_alike t.g_law_alike sc_law_alike (fun _ _ _ _ _ _ us hl => match us, hl with | [_, _, _, _, _, _], _ => rfl) (fun vs H Q E h => ?_) fun cdv A outer s H vs Q E hr h => ?_
  · obtain ⟨v, dl, sv1, sv2, cv, gv, S, ds, St1, St3, M1, MM1, M3, MM3, c, fm, qs, rfl, _⟩ := h
    rfl
  · obtain ⟨v, dl, sv1, sv2, cv, gv, S, ds, St1, St3, M1, MM1, M3, MM3, c, fm, qs, rfl, hW, ok, hds, hdd, h1, h2, I1, I3, hcv, hc, hgv, ag, k⟩ := h
    refine ⟨_, (pss_cons (ps_for PassesOwn.never (by rfl) (pi_list' (K := K) rfl (L2.pv 1)) (pg_name (i := 6) sc_law_alike.nd rfl (Or.inl rfl)) (pss_cons (ps_set (i := 7) sc_law_alike.nd rfl (Or.inl rfl) (pe_ei (C8.pe_mt c_mc hr (by decide) (L2.pv 6) (pa_cons (L2.pv 0) (pa_cons (pe_ix (ix_tup' (K := K) rfl) (L2.pv 5) pe_int (fun _ _ => rfl)) (pa_cons (pe_ix (ix_tup' (K := K) rfl) (L2.pv 5) pe_int (fun _ _ => rfl)) pa_nil)))) (C8.pe_mt c_pc hr (by decide) (L2.pv 6) (pa_cons (L2.pv 0) (pa_cons (pe_ix (ix_tup' (K := K) rfl) (L2.pv 5) pe_int (fun _ _ => rfl)) (pa_cons (pe_ix (ix_tup' (K := K) rfl) (L2.pv 5) pe_int (fun _ _ => rfl)) pa_nil))))))
      (pss_cons (ps_set (i := 8) sc_law_alike.nd rfl (Or.inl rfl) (pe_ei (C8.pe_mt c_md hr (by decide) (L2.pv 6) (pa_cons (L2.pv 0) (pa_cons (L2.pv 2) (pa_cons (L2.pv 4) pa_nil)))) (C8.pe_mt c_pd hr (by decide) (L2.pv 6) (pa_cons (L2.pv 0) (pa_cons (L2.pv 2) (pa_cons (L2.pv 4) pa_nil))))))
      (pss_cons (ps_set (i := 9) sc_law_alike.nd rfl (Or.inl rfl) (pe_ei (C8.pe_mt c_md hr (by decide) (L2.pv 6) (pa_cons (L2.pv 0) (pa_cons (L2.pv 3) (pa_cons (L2.pv 4) pa_nil)))) (C8.pe_mt c_pd hr (by decide) (L2.pv 6) (pa_cons (L2.pv 0) (pa_cons (L2.pv 3) (pa_cons (L2.pv 4) pa_nil))))))
      (pss_cons (ps_if (PW.pt (pw_or (pt_cmpR op_isN1 (L2.pv 8) pe_non (nomark _)) (pw_or1 (pt_cmpR op_isN1 (L2.pv 9) pe_non (nomark _))))) (pss_one (ps_ret (pe_and (pe_cmpR op_isN1 (L2.pv 8) pe_non (nomark _)) (pe_one (pe_cmpR op_isN1 (L2.pv 9) pe_non (nomark _)))))) pss_nil)
      (pss_cons (ps_if (PW.pt (pw_or (pt_cmpR op_isN1 (L2.pv 7) pe_non (nomark _)) (pw_or (pt_cmpR (op_neD' (K := K) rfl hr.units) (C8.pe_c c_law_but hr (by decide) (by rfl) (pa_cons (L2.pv 8) (pa_cons (L2.pv 7) pa_nil))) (C8.pe_c c_law_but hr (by decide) (by rfl) (pa_cons (L2.pv 2) (pa_cons (L2.pv 7) pa_nil))) (nomark _)) (pw_or1 (pt_cmpR (op_neD' (K := K) rfl hr.units) (C8.pe_c c_law_but hr (by decide) (by rfl) (pa_cons (L2.pv 9) (pa_cons (L2.pv 7) pa_nil))) (C8.pe_c c_law_but hr (by decide) (by rfl) (pa_cons (L2.pv 3) (pa_cons (L2.pv 7) pa_nil))) (nomark _)))))) (pss_one (ps_ret pe_bl)) pss_nil)
      (pss_cons (ps_if (PW.pt (pw_or (pt_cmpR (op_neD' (K := K) rfl hr.units) (C8.pe_c c_law_value hr (by decide) (by rfl) (pa_cons (L2.pv 8) (pa_cons (L2.pv 7) pa_nil))) (C8.pe_c c_law_value hr (by decide) (by rfl) (pa_cons (L2.pv 9) (pa_cons (L2.pv 7) pa_nil))) (nomark _)) (pw_or1 (pt_cmpR (op_eqD' (K := K) rfl hr.units) (C8.pe_c c_law_value hr (by decide) (by rfl) (pa_cons (L2.pv 8) (pa_cons (L2.pv 7) pa_nil))) (pe_lst pa_nil) (nomark _))))) (pss_one (ps_ret pe_bl)) pss_nil)
      (pss_cons (ps_set (i := 2) sc_law_alike.nd rfl (Or.inl rfl) (L2.pv 8))
      (pss_one (ps_set (i := 3) sc_law_alike.nd rfl (Or.inl rfl) (L2.pv 9)))))))))))
      (pss_one (ps_ret pe_bl))), ?_⟩
    clear c_mc c_pc c_md c_pd c_law_but c_law_value
    obtain ⟨yr, hyr⟩ := you_kind ok
    obtain ⟨vb, hvb, hfm⟩ := cm_frm hc
    walk_at "ar"
    refine sqLK hds ?_
    refine forL (xs := ds) (fun i σ H' => (∃ sv1 sv2 o6 o7 o8 o9 St1 St3 M1 MM1 M3 MM3, σ = [some v, some (.ref dl), some sv1, some sv2, some cv, some (.ref gv), o6, o7, o8, o9] ∧ Dp K H' sv1 (standD St1) ∧ Dp K H' sv2 (standD St3) ∧ StIs S St1 M1 MM1 ∧ StIs S St3 M3 MM3 ∧ ∀ n, atP n ∈ qs → atv M3 n = atv M1 n) ∧ Same H H') ⟨⟨_, _, none, none, none, none, _, _, _, _, _, _, rfl, h1, h2, I1, I3, ag⟩, Same.refl _⟩ (fun i σ H' _ ⟨_, s⟩ => s.seq hds) ?_ ?_
    · clear h1 h2 I1 I3 ag
      rintro i x σ H1 hi ⟨⟨sv1, sv2, o6, o7, o8, o9, St1, St3, M1, MM1, M3, MM3, rfl, h1, h2, I1, I3, ag⟩, s1⟩
      have z1 := I1.len ok
      have z3 := I3.len ok
      have ok1 := I1.ok ok
      have ok3 := I3.ok ok
      have room : ∀ (St : Stand) M MM, StIs S St M MM → ∃ x, atv M S.you = some x ∧ x ∈ roomsS S := fun St M MM I => by
        cases hq : atv M S.you with
        | none =>
          refine absurd ?_ (atv_none.mp hq)
          refine (I.at_.ks _).mpr ?_
          obtain ⟨r, e1, e2⟩ := List.mem_map.mp ok.ok.yi
          exact mem_of.mpr ⟨r, e1, e2, by rw [(ok.ok.yu r e1).mpr e2]; decide +kernel⟩
        | some x => exact ⟨x, rfl, I.at_.vy _ (atv_mem hq) rfl⟩
      obtain ⟨x1, hx1, hr1⟩ := room _ _ _ I1
      obtain ⟨x3, hx3, hr3⟩ := room _ _ _ I3
      have oy : OkS S.you := by
        obtain ⟨r, e1, e2⟩ := List.mem_map.mp ok.ok.yi
        rw [← e2]
        exact ok.ok.ok r e1
      have ctx1 : ∀ H', Same H H' → Dp K H' sv1 (standD St1) → Cx4 K H' v (wdS S) sv1 St1 cv c vb S.you x1 yr := fun H' s d => ⟨world_mono s hW, d, ok1, dp_mono s hcv, hvb, hyr, oy, by rw [I1.look ok, hx1]; rfl, by omega⟩
      have ctx3 : ∀ H', Same H H' → Dp K H' sv2 (standD St3) → Cx4 K H' v (wdS S) sv2 St3 cv c vb S.you x3 yr := fun H' s d => ⟨world_mono s hW, d, ok3, dp_mono s hcv, hvb, hyr, oy, by rw [I3.look ok, hx3]; rfl, by omega⟩
      rcases deedC_mono s1 (hdd x (List.mem_of_getElem? hi)) with ⟨t', p', hm, hdo, cov1, cov2⟩ | ⟨t', i', hm, hto⟩
      · obtain ⟨dp, dx, rfl, hob⟩ := hm
        obtain ⟨n, hn1, hn2, hn3, hpl⟩ := mv_res ok hc hdo
        obtain ⟨g0, hg0, on⟩ := name_find ok (plain_name hn3)
        -- the place in both stands
        obtain ⟨q, e1, e3, hqn, hyq, hch⟩ : ∃ q, mean c vb.form x1 p' = some q ∧ mean c vb.form x3 p' = some q ∧ q ∈ S.rows.map Rw.name ∧ (n = S.you → q ∈ roomsS S) ∧ (nm (giv c).1 (giv c).2 p' = none ∨ nm (giv c).1 (giv c).2 p' = some q) := by
          rw [hfm]
          rcases hpl with ⟨hp0, b1, b2, b3⟩ | ⟨q, b1, b2, b3, b4⟩
          · have := ag _ (cov2 hp0)
            rw [hx1, hx3] at this
            cases this
            exact ⟨x1, b2 _, b2 _, plain_name (mem_rooms.mp hr1), fun z => absurd z b3, .inl b1⟩
          · exact ⟨q, b2 _, b2 _, b3, b4, .inr b1⟩
        obtain ⟨g1, hg1, oq⟩ := name_find ok hqn
        obtain ⟨l1, c1⟩ := I1.at_.fin q
        obtain ⟨l3, c3⟩ := I3.at_.fin q
        walk_at "ar"
        refine x_ei1 ?_
        walk_at "ar"
        refine mtK hob (no_mv_change _ _) ?_
        walk_at "ar"
        refine r_ixT (i := 0) (same_sqt s1 hgv) rfl ?_
        walk_at "ar"
        refine r_ixT (i := 1) (same_sqt s1 hgv) rfl ?_
        walk_at "ar"
        refine ⟨_, v, wdS S, _, _, t', p', n, g0, rfl, ⟨dp, dx, rfl, hob⟩, world_mono s1 hW, hn1, hg0, fun q' hq' => ?_, fun pv H2 s2 gp => ?_⟩
        · rcases hch with h | h
          · rw [h] at hq'; cases hq'
          · rw [h] at hq'
            cases hq'
            exact ⟨g1, hg1⟩
        walk_at "ar"
        refine x_ei1 ?_
        walk_at "ar"
        refine mtK (s2 _ _ hob) (no_mv_done _ _) ?_
        walk_at "ar"
        refine ⟨_, v, wdS S, sv1, St1, cv, c, vb, S.you, x1, yr, t', p', n, q, g0, g1, l1, rfl, ⟨dp, dx, rfl, s2 _ _ hob⟩, ctx1 _ (s1.trans s2) (dp_mono s2 h1), by rw [hfm]; exact hn2 _, e1, hg0, hg1, on, oq, I1.ch ok c1, ch_len ok I1.at_ c1, fun lv H3 s3 gl => ?_⟩
        walk_at "ar"
        refine x_ei1 ?_
        walk_at "ar"
        have s23 := s2.trans s3
        refine mtK (s23 _ _ hob) (no_mv_done _ _) ?_
        walk_at "ar"
        refine ⟨_, v, wdS S, sv2, St3, cv, c, vb, S.you, x3, yr, t', p', n, q, g0, g1, l3, rfl, ⟨dp, dx, rfl, s23 _ _ hob⟩, ctx3 _ (s1.trans s23) (dp_mono s23 h2), by rw [hfm]; exact hn2 _, e3, hg0, hg1, on, oq, I3.ch ok c3, ch_len ok I3.at_ c3, fun ov H5 s4 go => ?_⟩
        have S5 := s1.trans (s23.trans s4)
        by_cases hgo : mayGo (wdS S) n (some q) = true
        · obtain ⟨hqn', hqh, hgn⟩ := go_hold ok hgo
          have al : n ∈ l1 ↔ n ∈ l3 := mem_alike ok I1.at_ I3.at_ hn3 hqh hyq (fun hb b hbb => ag _ (cov1 n hn1 hb b hbb)) c1 c3
          by_cases hm1 : n ∈ l1
          · unfold doneMv at gl go
            rw [if_neg fun z => z.2 hm1] at gl
            rw [if_neg fun z => z.2 (al.mp hm1)] at go
            obtain rfl : lv = .non := gl
            obtain rfl : ov = .non := go
            walk_at "ar"
            refine iteK_y (decide_eq_true rfl) ?_
            walk_at "ar"
            refine iteK_y (decide_eq_true rfl) ?_
            walk_at "ar"
            exact k _ S5
          · unfold doneMv at gl go
            rw [if_pos ⟨hgo, hm1⟩] at gl
            rw [if_pos ⟨hgo, fun z => hm1 (al.mpr z)⟩] at go
            have gp' : GotP K H2 pv (some (atP n)) := by
              rcases hch with h | h
              · rw [h, if_pos hgn] at gp; exact gp
              · rw [h, if_pos hgo] at gp; exact gp
            have J1 := I1.putA (n := n) (q := q) ((I1.at_.ks n).mpr hn3) hqn' hqh hyq c1 hm1
            have J3 := I3.putA (n := n) (q := q) ((I3.at_.ks n).mpr hn3) hqn' hqh hyq c3 fun z => hm1 (al.mpr z)
            have dl5 : Dp K H5 lv (standD (putS St1 (atP n) (.s q))) := dp_mono s4 gl
            have do5 : Dp K H5 ov (standD (putS St3 (atP n) (.s q))) := go
            have dp5 : Dp K H5 pv (partD (atP n)) := dp_mono (s3.trans s4) gp'
            have d15 := dp_mono (s23.trans s4) h1
            have d25 := dp_mono (s23.trans s4) h2
            have okp : OkP (atP n) := ⟨ok_at, on⟩
            have inn : ∀ (St : Stand) M MM, StIs S St M MM → atP n ∈ St.map Prod.fst := fun St M MM I => by
              obtain ⟨e, he, hen⟩ := List.mem_map.mp ((I.at_.ks n).mpr hn3)
              exact List.mem_map.mpr ⟨(atP e.1, .s e.2), I.pm.mem_iff.mpr (List.mem_append.mpr (.inl (List.mem_map.mpr ⟨e, he, rfl⟩))), by rw [hen]⟩
            have in1 := inn _ _ _ I1
            have in3 := inn _ _ _ I3
            have shx : SeqAt.shaped (.list (([Vl.s q] : List Vl).map Vl.d)) = true := shaped_strs (xs := [q]) fun x hx => by rw [List.mem_singleton.mp hx]; exact oq
            have eqx : PyData.eqv (.list (([Vl.s q] : List Vl).map Vl.d)) (.list (([Vl.s q] : List Vl).map Vl.d)) = true := by simp [PyData.eqv, PyData.eqvAll, Vl.d]
            have eqn : PyData.eqv (.list (([Vl.s q] : List Vl).map Vl.d)) (.list []) = false := by simp [PyData.eqv, PyData.eqvAll]
            have ag' : ∀ m, atP m ∈ qs → atv (repl M3 n q) m = atv (repl M1 n q) m := fun m hm => by
              rw [repl_at _ _ _ _ ((I3.at_.ks n).mpr hn3), repl_at _ _ _ _ ((I1.at_.ks n).mpr hn3), ag m hm]
            have okP1 := trivial
            obtain ⟨la, lxs, rfl, _, _⟩ := dp_tuple dl5
            obtain ⟨oa, oxs, rfl, _, _⟩ := dp_tuple do5
            obtain ⟨pa, rfl, _⟩ := part_dp dp5
            walk_at "ar"
            refine iteK_n (decide_eq_false fun z => by cases z) ?_
            walk_at "ar"
            refine iteK_n (decide_eq_false fun z => by cases z) ?_
            walk_at "ar"
            refine iteK_n (decide_eq_false fun z => by cases z) ?_
            walk_at "ar"
            have okl := okP1
            refine ⟨_, _, _, _, rfl, dl5, dp5, J1.ok ok, okp, by have := J1.len ok; omega, fun b1 H6 s6 e6 => ?_⟩
            rw [but_put] at e6
            walk_at "ar"
            refine ⟨_, _, _, _, rfl, dp_mono s6 d15, dp_mono s6 dp5, ok1, okp, by omega, fun b2 H7 s7 e7 => ?_⟩
            refine r_neD (dp_mono s7 e6) e7 (shaped_pairs (ok_but ok1 _)) (shaped_pairs (ok_but ok1 _)) ?_
            rw [eqv_pairs]
            walk_at "ar"
            have s57 := s6.trans s7
            refine ⟨_, _, _, _, rfl, dp_mono s57 do5, dp_mono s57 dp5, J3.ok ok, okp, by have := J3.len ok; omega, fun b3 H8 s8 e8 => ?_⟩
            rw [but_put] at e8
            walk_at "ar"
            refine ⟨_, _, _, _, rfl, dp_mono (s57.trans s8) d25, dp_mono (s57.trans s8) dp5, ok3, okp, by omega, fun b4 H9 s9 e9 => ?_⟩
            refine r_neD (dp_mono s9 e8) e9 (shaped_pairs (ok_but ok3 _)) (shaped_pairs (ok_but ok3 _)) ?_
            rw [eqv_pairs]
            walk_at "ar"
            have s59 := s57.trans (s8.trans s9)
            refine ⟨_, _, _, _, rfl, dp_mono s59 dl5, dp_mono s59 dp5, J1.ok ok, okp, by have := J1.len ok; omega, fun b5 H10 s10 e10 => ?_⟩
            rw [val_put (I1.nd ok) in1] at e10
            walk_at "ar"
            refine ⟨_, _, _, _, rfl, dp_mono (s59.trans s10) do5, dp_mono (s59.trans s10) dp5, J3.ok ok, okp, by have := J3.len ok; omega, fun b6 H11 s11 e11 => ?_⟩
            rw [val_put (I3.nd ok) in3] at e11
            refine r_neD (dp_mono s11 e10) e11 shx shx ?_
            rw [eqx]
            walk_at "ar"
            have s5b := s59.trans (s10.trans s11)
            refine ⟨_, _, _, _, rfl, dp_mono s5b dl5, dp_mono s5b dp5, J1.ok ok, okp, by have := J1.len ok; omega, fun b7 H12 s12 e12 => ?_⟩
            rw [val_put (I1.nd ok) in1] at e12
            walk_at "ar"
            refine lstK rfl fun q13 H13 n13 s13 h13 => ?_
            refine r_eqD (dp_mono s13 e12) (.lst (.of h13) .nil) shx (by decide +kernel) ?_
            rw [eqn]
            walk_at "ar"
            have s5d := s5b.trans (s12.trans s13)
            refine ⟨⟨_, _, _, _, _, _, _, _, _, _, _, _, rfl, dp_mono s5d dl5, dp_mono s5d do5, J1, J3, ag'⟩, S5.trans s5d⟩
        · unfold doneMv at gl go
          rw [if_neg fun z => hgo z.1] at gl
          rw [if_neg fun z => hgo z.1] at go
          obtain rfl : lv = .non := gl
          obtain rfl : ov = .non := go
          walk_at "ar"
          refine iteK_y (decide_eq_true rfl) ?_
          walk_at "ar"
          refine iteK_y (decide_eq_true rfl) ?_
          walk_at "ar"
          exact k _ S5
      · obtain ⟨dp, dx, rfl, hob⟩ := hm
        obtain ⟨n, hn1, hn2, hn3, _⟩ := term_ok ok hc (ns := mKeys S) (fun x hx => .inr hx) hto
        have on : OkS n := hn3.elim (fun h => most_ok ok.ok n h) fun h => okS_of ok.ok h
        walk_at "ar"
        refine x_ei2 ?_
        walk_at "ar"
        refine mtK hob (no_pu_change _ _) ?_
        walk_at "ar"
        refine r_ixT (i := 0) (same_sqt s1 hgv) rfl ?_
        walk_at "ar"
        refine r_ixT (i := 1) (same_sqt s1 hgv) rfl ?_
        walk_at "ar"
        refine ⟨_, v, wdS S, _, _, t', i', n, rfl, ⟨dp, dx, rfl, hob⟩, world_mono s1 hW, hn1, fun pv H2 s2 gp => ?_⟩
        walk_at "ar"
        refine x_ei2 ?_
        walk_at "ar"
        refine mtK (s2 _ _ hob) (no_pu_done _ _) ?_
        walk_at "ar"
        refine ⟨_, v, wdS S, sv1, St1, cv, c, vb, S.you, x1, yr, t', i', n, rfl, ⟨dp, dx, rfl, s2 _ _ hob⟩, ctx1 _ (s1.trans s2) (dp_mono s2 h1), by rw [hfm]; exact hn2 _, on, fun lv H3 s3 gl => ?_⟩
        walk_at "ar"
        refine x_ei2 ?_
        walk_at "ar"
        have s23 := s2.trans s3
        refine mtK (s23 _ _ hob) (no_pu_done _ _) ?_
        walk_at "ar"
        refine ⟨_, v, wdS S, sv2, St3, cv, c, vb, S.you, x3, yr, t', i', n, rfl, ⟨dp, dx, rfl, s23 _ _ hob⟩, ctx3 _ (s1.trans s23) (dp_mono s23 h2), by rw [hfm]; exact hn2 _, on, fun ov H5 s4 go => ?_⟩
        have S5 := s1.trans (s23.trans s4)
        unfold donePu at gl go
        by_cases hgo : mayHave (wdS S) n i' = true
        · rw [if_pos hgo] at gl go gp
          have hmk : n ∈ mKeys S := by
            unfold mayHave at hgo
            cases hq : (wdS S).most n with
            | none => rw [hq] at hgo; cases hgo
            | some m => exact most_mem ok hq
          have J1 := I1.putM n i'
          have J3 := I3.putM n i'
          have dl5 : Dp K H5 lv (standD (putS St1 (mkP n) (.n i'))) := dp_mono s4 gl
          have do5 : Dp K H5 ov (standD (putS St3 (mkP n) (.n i'))) := go
          have dp5 : Dp K H5 pv (partD (mkP n)) := dp_mono (s3.trans s4) gp
          have d15 := dp_mono (s23.trans s4) h1
          have d25 := dp_mono (s23.trans s4) h2
          have okp : OkP (mkP n) := ⟨ok_mark, on⟩
          have inn : ∀ (St : Stand) M MM, StIs S St M MM → mkP n ∈ St.map Prod.fst := fun St M MM I => by
            rw [← I.ks] at hmk
            obtain ⟨e, he, hen⟩ := List.mem_map.mp hmk
            exact List.mem_map.mpr ⟨(mkP e.1, .n e.2), I.pm.mem_iff.mpr (List.mem_append.mpr (.inr (List.mem_map.mpr ⟨e, he, rfl⟩))), by rw [hen]⟩
          have in1 := inn _ _ _ I1
          have in3 := inn _ _ _ I3
          have shx : SeqAt.shaped (.list (([Vl.n i'] : List Vl).map Vl.d)) = true := shaped_ints [i']
          have eqx : PyData.eqv (.list (([Vl.n i'] : List Vl).map Vl.d)) (.list (([Vl.n i'] : List Vl).map Vl.d)) = true := by simp [PyData.eqv, PyData.eqvAll, Vl.d]
          have eqn : PyData.eqv (.list (([Vl.n i'] : List Vl).map Vl.d)) (.list []) = false := by simp [PyData.eqv, PyData.eqvAll]
          have ag' := ag
          have okP1 := trivial
          obtain ⟨la, lxs, rfl, _, _⟩ := dp_tuple dl5
          obtain ⟨oa, oxs, rfl, _, _⟩ := dp_tuple do5
          obtain ⟨pa, rfl, _⟩ := part_dp dp5
          walk_at "ar"
          refine iteK_n (decide_eq_false fun z => by cases z) ?_
          walk_at "ar"
          refine iteK_n (decide_eq_false fun z => by cases z) ?_
          walk_at "ar"
          refine iteK_n (decide_eq_false fun z => by cases z) ?_
          walk_at "ar"
          have okl := okP1
          refine ⟨_, _, _, _, rfl, dl5, dp5, J1.ok ok, okp, by have := J1.len ok; omega, fun b1 H6 s6 e6 => ?_⟩
          rw [but_put] at e6
          walk_at "ar"
          refine ⟨_, _, _, _, rfl, dp_mono s6 d15, dp_mono s6 dp5, ok1, okp, by omega, fun b2 H7 s7 e7 => ?_⟩
          refine r_neD (dp_mono s7 e6) e7 (shaped_pairs (ok_but ok1 _)) (shaped_pairs (ok_but ok1 _)) ?_
          rw [eqv_pairs]
          walk_at "ar"
          have s57 := s6.trans s7
          refine ⟨_, _, _, _, rfl, dp_mono s57 do5, dp_mono s57 dp5, J3.ok ok, okp, by have := J3.len ok; omega, fun b3 H8 s8 e8 => ?_⟩
          rw [but_put] at e8
          walk_at "ar"
          refine ⟨_, _, _, _, rfl, dp_mono (s57.trans s8) d25, dp_mono (s57.trans s8) dp5, ok3, okp, by omega, fun b4 H9 s9 e9 => ?_⟩
          refine r_neD (dp_mono s9 e8) e9 (shaped_pairs (ok_but ok3 _)) (shaped_pairs (ok_but ok3 _)) ?_
          rw [eqv_pairs]
          walk_at "ar"
          have s59 := s57.trans (s8.trans s9)
          refine ⟨_, _, _, _, rfl, dp_mono s59 dl5, dp_mono s59 dp5, J1.ok ok, okp, by have := J1.len ok; omega, fun b5 H10 s10 e10 => ?_⟩
          rw [val_put (I1.nd ok) in1] at e10
          walk_at "ar"
          refine ⟨_, _, _, _, rfl, dp_mono (s59.trans s10) do5, dp_mono (s59.trans s10) dp5, J3.ok ok, okp, by have := J3.len ok; omega, fun b6 H11 s11 e11 => ?_⟩
          rw [val_put (I3.nd ok) in3] at e11
          refine r_neD (dp_mono s11 e10) e11 shx shx ?_
          rw [eqx]
          walk_at "ar"
          have s5b := s59.trans (s10.trans s11)
          refine ⟨_, _, _, _, rfl, dp_mono s5b dl5, dp_mono s5b dp5, J1.ok ok, okp, by have := J1.len ok; omega, fun b7 H12 s12 e12 => ?_⟩
          rw [val_put (I1.nd ok) in1] at e12
          walk_at "ar"
          refine lstK rfl fun q13 H13 n13 s13 h13 => ?_
          refine r_eqD (dp_mono s13 e12) (.lst (.of h13) .nil) shx (by decide +kernel) ?_
          rw [eqn]
          walk_at "ar"
          have s5d := s5b.trans (s12.trans s13)
          refine ⟨⟨_, _, _, _, _, _, _, _, _, _, _, _, rfl, dp_mono s5d dl5, dp_mono s5d do5, J1, J3, ag'⟩, S5.trans s5d⟩
        · rw [if_neg hgo] at gl go gp
          obtain rfl : lv = .non := gl
          obtain rfl : ov = .non := go
          walk_at "ar"
          refine iteK_y (decide_eq_true rfl) ?_
          walk_at "ar"
          refine iteK_y (decide_eq_true rfl) ?_
          walk_at "ar"
          exact k _ S5
    · rintro σ H1 ⟨⟨sv1, sv2, o6, o7, o8, o9, St1, St3, M1, MM1, M3, MM3, rfl, h1, h2, I1, I3, ag⟩, s1⟩
      walk_at "ar"
      exact k _ s1
end
end Tw
set_option maxHeartbeats 4000000
/-! The law. -/
namespace Tw
open PySem PySem.Spec L2
local macro_rules | `(tactic| walk_at "rd1") => `(tactic| first
  | with_reducible refine x_seq ?_
  | ((with_reducible refine x_var (v := ?vv) ?hh ?_); case hh => exact rfl)
  | with_reducible refine x_c ?_
  | with_reducible refine x_op ?_
  | with_reducible refine x_fld ?_
  | with_reducible refine x_call ?_
  | with_reducible refine x_meth ?_
  | with_reducible refine x_make ?_
  | with_reducible refine x_cb ?_
  | with_reducible refine x_tup ?_
  | with_reducible refine x_lst ?_
  | with_reducible refine x_nil ?_
  | with_reducible refine x_cons ?_
  | with_reducible refine x_asg ?_
  | with_reducible refine x_name ?_
  | with_reducible refine x_ret ?_
  | with_reducible refine x_retN ?_
  | with_reducible refine x_drop ?_
  | with_reducible refine x_ifS ?_
  | with_reducible refine x_if ?_
  | with_reducible refine x_andV ?_
  | with_reducible refine x_orV ?_
  | with_reducible refine x_notV ?_
  | with_reducible refine x_test ?_
  | with_reducible refine x_tB ?_
  | with_reducible refine x_and ?_
  | with_reducible refine x_or ?_
  | with_reducible refine x_not ?_
  | with_reducible refine x_yes ?_
  | with_reducible refine x_next ?_
  | with_reducible refine x_sfld ?_
  | with_reducible refine blK ?_
  | with_reducible refine r_I0 ?_
  | with_reducible refine r_isN ?_
  | with_reducible refine r_notN ?_
  | ((with_reducible refine r_eq ?hh ?_); case hh => exact rfl)
  | ((with_reducible refine r_ne ?hh ?_); case hh => exact rfl)
  | with_reducible refine x_gnil ?_
  | with_reducible refine x_gcons ?_)
local macro_rules | `(tactic| walk_at "rd2") => `(tactic| first
  | walk_at "rd1"
  | with_reducible refine x_lc ?_
  | with_reducible refine x_for ?_
  | with_reducible refine x_itup ?_
  | with_reducible refine x_ilist ?_
  | with_reducible refine x_rng1 ?_
  | with_reducible refine x_bm ?_
  | with_reducible refine x_chain ?_
  | with_reducible refine x_istr ?_
  | with_reducible refine strK ?_
  | with_reducible refine x_sl ?_
  | with_reducible refine x_part ?_
  | with_reducible refine x_noPart ?_
  | with_reducible refine poK ?_
  | ((with_reducible refine ltK ?hh ?_); case hh => exact rfl)
  | ((with_reducible refine ltKx ?hh ?_); case hh => exact rfl)
  | with_reducible refine x_dput ?_
  | with_reducible refine x_dget ?_
  | with_reducible refine iteK_t ?_
  | with_reducible refine iteK_nf ?_
  | with_reducible refine iteK_nt ?_
  | with_reducible refine iteK_f ?_)
local macro_rules | `(tactic| walk_at "go") => `(tactic| repeat (walk_at "rd2"))
local macro_rules | `(tactic| walk_at "rd") => `(tactic| repeat (walk_at "rd1"))
local macro_rules | `(tactic| walk_at "at") => `(tactic| repeat (first | assumption | refine same_at' (by assumption) ?_))
local macro_rules | `(tactic| walk_at "sm") => `(tactic| repeat (first | exact Same.refl _ | assumption | refine Same.trans ?_ (by assumption)))
local macro_rules | `(tactic| walk_at "mk1") => `(tactic| first
  | with_reducible refine mk_new rfl fun _ _ _ _ _ _ => ?_
  | with_reducible refine lstK rfl fun _ _ _ _ _ => ?_
  | with_reducible refine tupK rfl fun _ _ _ _ _ => ?_
  | with_reducible refine mk_rule4 (SqL.of (by walk_at "at")) (SqL.of (by walk_at "at")) fun _ _ _ _ => ?_
  | with_reducible refine mk_rule (SqL.of (by walk_at "at")) (SqL.of (by walk_at "at")) fun _ _ _ _ => ?_
  | with_reducible refine c_refusal (SqL.of (by walk_at "at")) fun _ _ _ _ => ?_)
local macro_rules | `(tactic| walk_at "mk") => `(tactic| repeat (first | walk_at "rd2" | walk_at "mk1"))
local macro_rules | `(tactic| walk_at "ar1") => `(tactic| ((with_reducible refine r_I ?hh ?_); case hh => first | exact (show (0 : Int) < _ from by decide +kernel) | exact And.intro (by decide +kernel) (by decide +kernel) | exact Or.inr (And.intro (by decide +kernel) (by decide +kernel)) | exact Or.inl (And.intro (by decide +kernel) (by decide +kernel)) | exact And.intro (by decide +kernel) (And.intro (by decide +kernel) (by decide +kernel))))
local macro_rules | `(tactic| walk_at "ar") => `(tactic| repeat (first | walk_at "rd2" | walk_at "ar1"))

def StdAt (H : Hp) (x : V) (M : AtM) (MM : List (Str × Int)) : Prop := ∃ p d e, x = .ref p ∧ H p = some (.tup [.ref d, .ref e]) ∧ H d = some (.dK (dkS M)) ∧ H e = some (.dK (dkI MM))
theorem std_mono {H H' : Hp} {x : V} {M : AtM} {MM : List (Str × Int)} (s : Same H H') (h : StdAt H x M MM) : StdAt H' x M MM := by
  obtain ⟨p, d, e, ex, h1, h2, h3⟩ := h
  exact ⟨p, d, e, ex, s _ _ h1, s _ _ h2, s _ _ h3⟩
def DeedI (K : PySem.W.Frag) (S : Sc) (fm : Str) (H : Hp) (x : V) : Prop := (∃ t p, MvAt K H x t p ∧ DdOk S fm t p) ∨ (∃ t i, PuAt K H x t i ∧ TmOk (mKeys S) fm t)
theorem deedI_mono {K : PySem.W.Frag} {S : Sc} {fm : Str} {H H' : Hp} {x : V} (s : Same H H') (h : DeedI K S fm H x) : DeedI K S fm H' x := by
  rcases h with ⟨t, p, ⟨a, dx, e, h1⟩, h2⟩ | ⟨t, i, ⟨a, dx, e, h1⟩, h2⟩
  · exact .inl ⟨t, p, ⟨a, dx, e, s _ _ h1⟩, h2⟩
  · exact .inr ⟨t, i, ⟨a, dx, e, s _ _ h1⟩, h2⟩
theorem deedI_del {K : PySem.W.Frag} {S : Sc} {fm : Str} {H : Hp} {D : Addr} {ys : List V} (hd : H D = some (.lst ys)) {x : V} (h : DeedI K S fm H x) : DeedI K S fm (del D H) x := by
  rcases h with ⟨t, p, ⟨a, dx, e, h1⟩, h2⟩ | ⟨t, i, ⟨a, dx, e, h1⟩, h2⟩
  · exact .inl ⟨t, p, ⟨a, dx, e, del_ins hd h1⟩, h2⟩
  · exact .inr ⟨t, i, ⟨a, dx, e, del_ins hd h1⟩, h2⟩
def RdsAt (K : PySem.W.Frag) (H : Hp) (v : V) (qs : List Part) : Prop := ∃ r zs, v = .ref r ∧ SqT K H r zs ∧ Paired (PtAt H) zs qs
theorem rds_mono {K : PySem.W.Frag} {H H' : Hp} {v : V} {qs : List Part} (s : Same H H') (h : RdsAt K H v qs) : RdsAt K H' v qs := by
  obtain ⟨r, zs, e, h1, h2⟩ := h
  exact ⟨r, zs, e, same_sqt s h1, Paired.mapP h2 fun _ _ g => pt_mono s g⟩
theorem rds_dp {K : PySem.W.Frag} {H : Hp} {v : V} {qs : List Part} (h : RdsAt K H v qs) : Dp K H v (.tuple (qs.map partD)) := by
  obtain ⟨r, zs, rfl, h1, h2⟩ := h
  refine .tup h1 ?_
  clear h1
  induction h2 with
  | nil => exact .nil
  | cons h _ ih => exact .cons (pt_dp h) ih
theorem r_catR {K : PySem.W.Frag} {H : Hp} {Q : VK} {x y : V} {qs rs : List Part} (h1 : RdsAt K H x qs) (h2 : RdsAt K H y rs) (hz : qs.length + rs.length ≤ 1000) (q : ∀ v H', Same H H' → RdsAt K H' v (qs ++ rs) → Q v H') : rCatA K x y H Q := by
  obtain ⟨a, xs, rfl, a1, a2⟩ := h1
  obtain ⟨b, ys, rfl, b1, b2⟩ := h2
  have l1 := a2.length
  have l2 := b2.length
  refine ⟨a, b, xs, ys, rfl, rfl, a1, b1, Nat.le_of_lt (small1000 (by omega)), fun e => ?_, fun _ e => ?_, fun _ _ p np => ?_⟩
  · subst e
    cases a2
    exact q _ H (Same.refl H) ⟨b, ys, rfl, b1, b2⟩
  · subst e
    cases b2
    rw [List.append_nil] at q
    exact q _ H (Same.refl H) ⟨a, xs, rfl, a1, a2⟩
  · have s := same_new (H := H) (o := .tup (xs ++ ys)) np
    exact q _ _ s ⟨p, _, rfl, .of upd_same, Paired.mapP (paired_app a2 b2) fun _ _ g => pt_mono s g⟩
section
variable {P : Program} {w : World} {K : PySem.W.Frag} {mg : Str → Option Value} {base : Heap}
def spLaw (K : PySem.W.Frag) : Sp := fun vs H Q _ => ∃ (a : Addr) (ns : List Int), vs = [.ref a] ∧ SqL K H a (ns.map V.int) ∧ ∀ H', Q (.bl true) H'
theorem sc_law : FnScope ["_law_script", "_law_spec_here", "_law_world_here", "_law_cell", "_law_xs", "_law_stands", "_law_turn", "_law_at", "_law_command_here", "_law_given_here", "_law_deeds", "_law_reads", "_law_deed_here", "_law_third_here", "_law_one"] ["_law_script"] (defScope s_law) := ⟨rfl, rfl, rfl, by decide +kernel, rfl, by decide +kernel, by decide +kernel⟩
theorem ok_law (t : T K mg) (good : ∀ S, GoodS S → SpOk2 S) : Body P w K mg base 8 ["_law_script", "_law_spec_here", "_law_world_here", "_law_cell", "_law_xs", "_law_stands", "_law_turn", "_law_at", "_law_command_here", "_law_given_here", "_law_deeds", "_law_reads", "_law_deed_here", "_law_third_here", "_law_one"] "law" (defScope s_law) (defBody s_law) (He.ga K "law") (spLaw K) := by
  have c_law_take := ok_law_take (P := P) (w := w) (base := base) t
  have c_law_cell_at := ok_law_cell_at (P := P) (w := w) (base := base) t
  have c_law_spec := ok_law_spec (P := P) (w := w) (base := base) t
  have c_law_world := ok_law_world (P := P) (w := w) (base := base) t
  have c_law_draws := ok_law_draws (P := P) (w := w) (base := base) t
  have c_law_places := ok_law_places (P := P) (w := w) (base := base) t
  have c_law_marks := ok_law_marks (P := P) (w := w) (base := base) t
  have c_law_command := ok_law_command (P := P) (w := w) (base := base) t
  have c_law_given := ok_law_given (P := P) (w := w) (base := base) t
  have c_law_deed := ok_law_deed (P := P) (w := w) (base := base) t
  have c_law_form := ok_law_form (P := P) (w := w) (base := base) t
  have c_law_third := ok_law_third (P := P) (w := w) (base := base) t
  have c_law_stand := ok_law_stand (P := P) (w := w) (base := base) t
  have c_law_alike := ok_law_alike (P := P) (w := w) (base := base) t
  have c_mr := ok_Move_reads (P := P) (w := w) (base := base) t
  have c_pr := ok_Put_reads (P := P) (w := w) (base := base) t
  intro cdv A outer s H vs Q E hr h
  obtain ⟨a0, ns, rfl, hq, k⟩ := h
  refine ⟨_, (pss_cons (ps_set (i := 1) sc_law.nd rfl (Or.inr rfl) (C8.pe_c c_law_spec hr (by decide) (by rfl) (pa_cons (C8.pe_c c_law_cell_at hr (by decide) (by rfl) (pa_cons (L2.pv 0) (pa_cons pe_int pa_nil))) pa_nil)))
      (pss_cons (ps_set (i := 2) sc_law.nd rfl (Or.inl rfl) (C8.pe_c c_law_world hr (by decide) (by rfl) (pa_cons (L2.pv 1) pa_nil)))
      (pss_cons (ps_for PassesOwn.never (by rfl) (pi_list' (K := K) rfl (pe_op op_cat (pe_lst (pa_cons (C8.pe_c c_law_cell_at hr (by decide) (by rfl) (pa_cons (L2.pv 0) (pa_cons pe_int pa_nil))) pa_nil)) (pe_slice (sl_list' (K := K) rfl) (L2.pv 0) (po_some pe_int) (po_some pe_int)))) (pg_name (i := 3) sc_law.nd rfl (Or.inl rfl)) (pss_cons (ps_set (i := 4) sc_law.nd rfl (Or.inr rfl) (C8.pe_c c_law_draws hr (by decide) (by rfl) (pa_cons (L2.pv 3) (pa_cons pe_int pa_nil))))
      (pss_cons (ps_set (i := 5) sc_law.nd rfl (Or.inl rfl) (pe_lst pa_nil))
      (pss_cons (ps_for PassesOwn.never (by rfl) (pi_range1 (by rfl) t.b_range (pa_cons pe_int pa_nil)) (pg_name (i := 6) sc_law.nd rfl (Or.inl rfl)) (pss_cons (ps_set (i := 7) sc_law.nd rfl (Or.inl rfl) (C8.pe_c c_law_places hr (by decide) (by rfl) (pa_cons (L2.pv 1) (pa_cons (L2.pv 4) pa_nil))))
      (pss_one (ps_expr (pe_bm PySem.F.plainAttrs_list PySem.F.slot_list_append PySem.F.type_list_append mt_append (L2.pv 5) (pa_cons (pe_tup (pa_cons (L2.pv 7) (pa_cons (C8.pe_c c_law_marks hr (by decide) (by rfl) (pa_cons (L2.pv 1) (pa_cons (L2.pv 4) pa_nil))) pa_nil))) pa_nil))))))
      (pss_cons (ps_set (i := 8) sc_law.nd rfl (Or.inr rfl) (C8.pe_c c_law_command hr (by decide) (by rfl) (pa_cons (L2.pv 1) (pa_cons (L2.pv 4) pa_nil))))
      (pss_cons (ps_set (i := 9) sc_law.nd rfl (Or.inl rfl) (C8.pe_c c_law_given hr (by decide) (by rfl) (pa_cons (L2.pv 8) pa_nil)))
      (pss_cons (ps_setLc (i := 10) (own := [("_law_turn", 6)]) (by rfl) sc_law.nd rfl rfl (sw_true rfl rfl rfl (by decide +kernel)) (pi_range1 (by rfl) t.b_range (pa_cons (pe_op op_add pe_int (C8.pe_c c_law_take hr (by decide) (by rfl) (pa_cons (L2.pv 4) (pa_cons pe_int pa_nil)))) pa_nil)) (blkOk_by (own := [("_law_turn", 6)]) (N := ["_law_script", "_law_spec_here", "_law_world_here", "_law_cell", "_law_xs", "_law_stands", "_law_turn", "_law_at", "_law_command_here", "_law_given_here", "_law_deeds", "_law_reads", "_law_deed_here", "_law_third_here", "_law_one"]) (sc := defScope s_law) (by decide +kernel)) (fun _ _ _ _ _ => (pg_name (i := 6) sc_law.nd rfl (Or.inl rfl))) (fun _ _ _ _ _ => pts_nil) (fun _ _ _ _ _ => (C8.pe_c c_law_deed hr (by decide) (by rfl) (pa_cons (L2.pv 1) (pa_cons (C8.pe_c c_law_form hr (by decide) (by rfl) (pa_cons (L2.pv 8) pa_nil)) (pa_cons (L2.pv 4) pa_nil))))))
      (pss_cons (ps_set (i := 11) sc_law.nd rfl (Or.inl rfl) (pe_tup pa_nil))
      (pss_cons (ps_for PassesOwn.never (by rfl) (pi_list' (K := K) rfl (L2.pv 10)) (pg_name (i := 12) sc_law.nd rfl (Or.inl rfl)) (pss_one (ps_set (i := 11) sc_law.nd rfl (Or.inl rfl) (pe_op (op_catA' (K := K) rfl) (L2.pv 11) (pe_ei (C8.pe_mt c_mr hr (by decide) (L2.pv 12) (pa_cons (L2.pv 2) (pa_cons (pe_ix (ix_tup' (K := K) rfl) (L2.pv 9) pe_int (fun _ _ => rfl)) (pa_cons (pe_ix (ix_tup' (K := K) rfl) (L2.pv 9) pe_int (fun _ _ => rfl)) pa_nil)))) (C8.pe_mt c_pr hr (by decide) (L2.pv 12) (pa_cons (L2.pv 2) (pa_cons (pe_ix (ix_tup' (K := K) rfl) (L2.pv 9) pe_int (fun _ _ => rfl)) (pa_cons (pe_ix (ix_tup' (K := K) rfl) (L2.pv 9) pe_int (fun _ _ => rfl)) pa_nil)))))))))
      (pss_cons (ps_set (i := 13) sc_law.nd rfl (Or.inl rfl) (C8.pe_c c_law_third hr (by decide) (by rfl) (pa_cons (L2.pv 1) (pa_cons (pe_ix (ix_list' (K := K) rfl) (L2.pv 5) pe_int (fun _ _ => rfl)) (pa_cons (pe_ix (ix_list' (K := K) rfl) (L2.pv 5) pe_int (fun _ _ => rfl)) (pa_cons (L2.pv 11) pa_nil))))))
      (pss_cons (ps_set (i := 14) sc_law.nd rfl (Or.inl rfl) (C8.pe_c c_law_stand hr (by decide) (by rfl) (pa_cons (pe_ix (ix_tup' (K := K) rfl) (pe_ix (ix_list' (K := K) rfl) (L2.pv 5) pe_int (fun _ _ => rfl)) pe_int (fun _ _ => rfl)) (pa_cons (pe_ix (ix_tup' (K := K) rfl) (pe_ix (ix_list' (K := K) rfl) (L2.pv 5) pe_int (fun _ _ => rfl)) pe_int (fun _ _ => rfl)) pa_nil))))
      (pss_one (ps_if (pt_not (pt_val (C8.pe_c c_law_alike hr (by decide) (by rfl) (pa_cons (L2.pv 2) (pa_cons (L2.pv 10) (pa_cons (L2.pv 14) (pa_cons (C8.pe_c c_law_stand hr (by decide) (by rfl) (pa_cons (pe_ix (ix_tup' (K := K) rfl) (L2.pv 13) pe_int (fun _ _ => rfl)) (pa_cons (pe_ix (ix_tup' (K := K) rfl) (L2.pv 13) pe_int (fun _ _ => rfl)) pa_nil))) (pa_cons (L2.pv 8) (pa_cons (L2.pv 9) pa_nil))))))))) (pss_one (ps_ret pe_bl)) pss_nil)))))))))))))
      (pss_one (ps_ret pe_bl))))), ?_⟩
  clear c_law_take c_law_cell_at c_law_spec c_law_world c_law_draws c_law_places c_law_marks c_law_command c_law_given c_law_deed c_law_form c_law_third c_law_stand c_law_alike c_mr c_pr
  walk_at "ar"
  refine ⟨a0, ns, 0, rfl, hq, fun c0 H1 s1 => ?_⟩
  walk_at "ar"
  refine ⟨c0, rfl, fun v H2 S s2 hS hG => ?_⟩
  have ok := good S hG
  walk_at "ar"
  have wl := ok.wl
  have dz : S.dark.length ≤ 10 := by
    have := ok.good.dn
    have h1 := nodup_len this (m := (wdS S).kind "room") ok.good.dk
    have h2 := ok.good.r5
    have : S.dark.length = (wdS S).dark.length := rfl
    omega
  refine ⟨v, S, rfl, hS, ok.ok.z, wl, ok.ok.mz, dz, ok.ok.rm, ok.good, fun wa H3 n3 s3 hW => ?_⟩
  have s13 := s1.trans (s2.trans s3)
  walk_at "ar"
  refine ⟨a0, ns, 1, rfl, s13.seq hq, fun c1 H4 s4 => ?_⟩
  walk_at "ar"
  refine lstK rfl fun q5 H5 n5 s5 h5 => ?_
  walk_at "ar"
  refine r_slL (lo := some ((2 : Nat) : Int)) (hi := some ((9 : Nat) : Int)) ((s13.trans (s4.trans s5)).seq hq) fun q6 H6 n6 s6 h6 => ?_
  rw [cut_mid _ 2 9 (by decide), ← List.map_drop, ← List.map_take] at h6
  refine r_cat (s6 _ _ h5) h6 (by rw [List.length_map, List.length_take]; simp; omega) fun CL H7 n7 s7 h7 => ?_
  have h7 : H7 CL = some (.lst ((c1 :: (ns.drop 2).take (9 - 2)).map V.int)) := h7
  generalize c1 :: (ns.drop 2).take (9 - 2) = cells at h7
  have s37 := s4.trans (s5.trans (s6.trans s7))
  have hW7 := world_mono s37 hW
  have hS7 := spec_mono (s3.trans s37) hS
  clear s37 s7 s6 s5 s4 s13 h6 n6 n7 n5 h5 n3 s3 hW hS s2 s1
  refine sqLK (.of h7) ?_
  refine forL (xs := cells.map V.int) (fun i σ H' => (∃ o3 o4 o5 o6 o7 o8 o9 o10 o11 o12 o13 o14, σ = [some (.ref a0), some v, some (.ref wa), o3, o4, o5, o6, o7, o8, o9, o10, o11, o12, o13, o14]) ∧ Same H7 H') ⟨⟨none, none, none, none, none, none, none, none, none, none, none, none, rfl⟩, Same.refl _⟩ (fun i σ H' _ ⟨_, s⟩ => .of (s _ _ h7)) ?_ ?_
  · rintro i x σ H8 hi ⟨⟨o3, o4, o5, o6, o7, o8, o9, o10, o11, o12, o13, o14, rfl⟩, s8⟩
    obtain ⟨cell, _, rfl⟩ := map_get hi
    walk_at "ar"
    refine ⟨cell, 130, rfl, by decide, fun a H9 na s9 hx9 => ?_⟩
    have B9 : Same H8 (del a H9) := del_none s9 na
    have hW9 := world_mono (s8.trans B9) hW7
    have hS9 := spec_mono (s8.trans B9) hS7
    walk_at "ar"
    refine lstK rfl fun SL H10 nSL s10 hSL => ?_
    have aSL := xs_ne hx9 nSL
    have base10 : Same (del a H9) (but [a, SL] H10) := by
      rw [← but_one (a := a)]
      exact (but_new (L := [a]) nSL).trans ((but_sub (by simp)).trans (but_mono s10))
    walk_at "ar"
    refine rg1K (j := 2) (by decide) (by decide) ?_
    refine forR (fun i σ H' => (∃ o6 o7, σ = [some (.ref a0), some v, some (.ref wa), some (.int cell), some (.ref a), some (.ref SL), o6, o7, o8, o9, o10, o11, o12, o13, o14]) ∧ XsAt H' a ∧ Same (del a H9) (but [a, SL] H') ∧ ∃ ys, H' SL = some (.lst ys) ∧ ys.length = i ∧ ∀ y ∈ ys, ∃ M MM, StdAt (but [a, SL] H') y M MM ∧ AtOk S M ∧ MM.map Prod.fst = mKeys S)
      ⟨⟨o6, o7, rfl⟩, hx9.grow s10, base10, [], hSL, rfl, fun y h => absurd h (by simp)⟩ ?_ ?_
    · rintro j σ H11 hj ⟨⟨o6, o7, rfl⟩, hx11, sm, ys, hys, lys, hall⟩
      have hj : j < 2 := hj
      have sma : Same (del a H9) (del a H11) := sm.trans (by rw [← but_one]; exact but_sub (by simp))
      walk_at "ar"
      refine ⟨v, S, a, rfl, hx11, spec_mono sma hS9, ok.ok, fun d H12 M nd x12 hd hM => ?_⟩
      have hSL12 := x12.le _ _ (del_at hys aSL)
      walk_at "ar"
      refine tyK_l (.of hSL12) ?_
      walk_at "ar"
      refine ⟨v, S, a, rfl, x12.xs, spec_mono (sma.trans x12.sm) hS9, ok.ok, ok.pos, fun e H13 MM ne x13 he hMM => ?_⟩
      have hSL13 := x13.le _ _ (del_at hSL12 aSL)
      have hd13 := x13.sm _ _ hd
      walk_at "ar"
      refine tupK rfl fun p H14 np s14 h14 => ?_
      walk_at "ar"
      have hSL14 := s14 _ _ hSL13
      refine r_app hSL14 (by omega) ?_
      have dSL : d ≠ SL := ne_new hys nd
      have eSL : e ≠ SL := ne_new hSL12 ne
      have pSL : p ≠ SL := ne_new hSL13 np
      have pa := xs_ne x13.xs np
      have up : Same (but [a, SL] H11) (but [a, SL] H14) := (but_x (by simp) x12).trans ((but_x (by simp) x13).trans (but_mono s14))
      have d14 : but [a, SL] H14 d = some (.dK (dkS M)) := but_at (s14 _ _ (of_del hd13).1) (by simp [dSL, (of_del hd13).2])
      have e14 : but [a, SL] H14 e = some (.dK (dkI MM)) := but_at (s14 _ _ (of_del he).1) (by simp [eSL, (of_del he).2])
      have p14 : but [a, SL] H14 p = some (.tup [.ref d, .ref e]) := but_at h14 (by simp [pSL, pa])
      refine ⟨⟨_, _, rfl⟩, xs_upd (x13.xs.grow s14) aSL, by rw [but_upd (by simp)]; exact sm.trans up, _, upd_same, by rw [List.length_append, lys]; rfl, fun y hy => ?_⟩
      rw [but_upd (by simp)]
      rcases List.mem_append.mp hy with hy | hy
      · obtain ⟨M', MM', g1, g2⟩ := hall y hy
        exact ⟨M', MM', std_mono up g1, g2⟩
      · rw [List.mem_singleton.mp hy]
        exact ⟨M, MM, ⟨p, d, e, rfl, p14, d14, e14⟩, hM, hMM⟩
    rintro σ H11 ⟨⟨o6, o7, rfl⟩, hx11, sm, ys, hys, lys, hall⟩
    obtain ⟨y0, y1, rfl⟩ : ∃ y0 y1, ys = [y0, y1] := match ys, lys with
      | [y0, y1], _ => ⟨y0, y1, rfl⟩
    obtain ⟨M1, MM1, t1, A1, k1⟩ := hall y0 (by simp)
    obtain ⟨M2, MM2, t2, A2, k2⟩ := hall y1 (by simp)
    have sub2 : Same (but [a, SL] H11) (del a H11) := by rw [← but_one]; exact but_sub (by simp)
    have sma := sm.trans sub2
    have t1 := std_mono sub2 t1
    have t2 := std_mono sub2 t2
    have hys := del_at hys aSL
    clear hall sm sub2 base10 hSL s10 nSL
    have X11 : Xst a H9 H11 := ⟨sma, hx11⟩
    walk_at "ar"
    refine ⟨v, S, a, rfl, hx11, spec_mono sma hS9, ok.ok, fun cv H12 c fm x12 hcv hc => ?_⟩
    have X12 := X11.trans x12
    have t1 := std_mono x12.sm t1
    have t2 := std_mono x12.sm t2
    have hys := x12.sm _ _ hys
    walk_at "ar"
    refine ⟨cv, c, rfl, dp_mono del_le hcv, fun gv H13 s13 n13 hgv => ?_⟩
    have hgv := del_new X12.xs n13 hgv
    have X13 := X12.grow s13
    have t1 := std_mono (del_mono s13) t1
    have t2 := std_mono (del_mono s13) t2
    have hys := del_mono (D := a) s13 _ _ hys
    have hcv := dp_mono (del_mono (D := a) s13) hcv
    walk_at "ar"
    refine ⟨a, 4, rfl, X13.xs, by decide, fun m H14 x14 m0 m1 => ?_⟩
    have X14 := X13.trans x14
    have t1 := std_mono x14.sm t1
    have t2 := std_mono x14.sm t2
    have hys := x14.sm _ _ hys
    have hcv := dp_mono x14.sm hcv
    have hgv := x14.sm _ _ hgv
    walk_at "ar"
    refine rg1K (by omega) (by omega) ?_
    refine lcRx a 0 (1 + m).toNat (fun ys i H' => ys.length ≤ i ∧ ∀ y ∈ ys, DeedI K S fm H' y) X14.xs (fun _ _ => ⟨Nat.le_refl _, fun y h => absurd h (by simp)⟩) ?_ ?_
    · rintro D j ys H15 mx ⟨ly, hd⟩ hj
      walk_at "ar"
      refine ⟨cv, c, S, fm, rfl, dp_mono mx.xst.le hcv, hc, fun H16 s16 => ?_⟩
      have m16 := mx.grow s16
      walk_at "ar"
      have g16 := spec_mono ((X14.trans m16.xst).sm) hS9
      have more : ∀ x H17, Xst a H16 H17 → DeedI K S fm (del a H17) x → ApKx a H14 (fun ys i H' => ys.length ≤ i ∧ ∀ y ∈ ys, DeedI K S fm H' y) D j x H17 := fun x H17 x17 hx => by
        have m17 := m16.step x17
        refine apKx m17 (by omega) ⟨by rw [List.length_append]; simp; omega, fun y hy => ?_⟩
        rcases List.mem_append.mp hy with hy | hy
        · exact deedI_mono (del_mono ((del_mono s16).trans x17.sm)) (hd y hy)
        · rw [List.mem_singleton.mp hy]
          exact deedI_del (del_at m17.at_ m17.ne) hx
      exact ⟨v, S, fm, a, rfl, m16.xs, g16, ok.ok, ok.pos, fun x H17 t p x17 h1 h2 => more x H17 x17 (.inl ⟨t, p, h1, h2⟩), fun x H17 t i x17 h1 h2 => more x H17 x17 (.inr ⟨t, i, h1, h2⟩)⟩
    rintro DL H15 ds mx ⟨lds, hds⟩
    have x15 := mx.xst
    have X15 := X14.trans x15
    have hDL : H15 DL = some (.lst ds) := mx.at_
    have hds : ∀ y ∈ ds, DeedI K S fm H15 y := fun y hy => deedI_mono (del_le.trans del_le) (hds y hy)
    have t1 := std_mono (x15.sm.trans del_le) t1
    have t2 := std_mono (x15.sm.trans del_le) t2
    have hys := del_le _ _ (x15.sm _ _ hys)
    have hcv := dp_mono (x15.sm.trans del_le) hcv
    have hgv := del_le _ _ (x15.sm _ _ hgv)
    have lds : ds.length ≤ 4 := by omega
    have S15 : Same H8 H15 := B9.trans (X15.sm.trans del_le)
    have hW15 := world_mono (s8.trans S15) hW7
    have hS15 := spec_mono (s8.trans S15) hS7
    clear mx x15 X15 X14 X13 X12 X11 x14 x12 sma hx11
    walk_at "ar"
    refine tupK rfl fun r0 H16 n16 s16 h16 => ?_
    walk_at "ar"
    refine sqLK (.of (s16 _ _ hDL)) ?_
    obtain ⟨yr, hyr⟩ := you_kind ok
    refine forL (xs := ds) (fun i σ H' => (∃ o12 rv qs, σ = [some (.ref a0), some v, some (.ref wa), some (.int cell), some (.ref a), some (.ref SL), o6, o7, some cv, some (.ref gv), some (.ref DL), some rv, o12, o13, o14] ∧ RdsAt K H' rv qs ∧ qs.length ≤ 60 * i ∧ (∀ e ∈ qs, OkP e) ∧ ∀ (j : Nat) y, j < i → ds[j]? = some y → DeedC K S c fm qs H15 y) ∧ Same H15 H') ⟨⟨o12, .ref r0, [], rfl, ⟨r0, [], rfl, .of h16, .nil⟩, Nat.le_refl _, fun e h => absurd h (by simp), fun j y hj => absurd hj (Nat.not_lt_zero _)⟩, s16⟩ (fun i σ H' _ ⟨_, s⟩ => .of (s _ _ hDL)) ?_ ?_
    · rintro j x σ H17 hj ⟨⟨o12, rv, qs, rfl, hrd, lq, oq, hcov⟩, s17⟩
      have hjl := get_lt hj
      have hdj := hds x (List.mem_of_getElem? hj)
      have hgv17 := s17 _ _ hgv
      have cov_mono : ∀ rs, ∀ (i : Nat) y, i < j → ds[i]? = some y → DeedC K S c fm (qs ++ rs) H15 y := fun rs i y hi hy => by
        rcases hcov i y hi hy with ⟨t, p, h1, h2, h3, h4⟩ | h
        · exact .inl ⟨t, p, h1, h2, fun n hn hb b hbb => List.mem_append.mpr (.inl (h3 n hn hb b hbb)), fun hp => List.mem_append.mpr (.inl (h4 hp))⟩
        · exact .inr h
      walk_at "ar"
      rcases hdj with ⟨t', p', ⟨dp, dx, rfl, hob⟩, hdo⟩ | ⟨t', i', ⟨dp, dx, rfl, hob⟩, hto⟩
      · obtain ⟨n, hn1, _, hn3, _⟩ := mv_res ok hc hdo
        obtain ⟨r, er1, er2, er3⟩ := mem_of.mp hn3
        obtain ⟨g0, hg0, hgk, _⟩ := find_row ok er1
        rw [er2] at hg0
        refine x_ei1 ?_
        walk_at "ar"
        refine mtK (s17 _ _ hob) (no_mv_reads _ _) ?_
        walk_at "ar"
        refine r_ixT (i := 0) (.of hgv17) rfl ?_
        walk_at "ar"
        refine r_ixT (i := 1) (.of hgv17) rfl ?_
        walk_at "ar"
        refine ⟨_, _, wdS S, _, _, t', p', n, g0, S.you, yr, rfl, ⟨dp, dx, rfl, s17 _ _ hob⟩, world_mono s17 hW15, hn1, hg0, hyr, fun v' H18 rs s18 hrs lrs ers b1 b2 => ?_⟩
        obtain ⟨ra, rz, rfl, hr1, hr2⟩ := hrs
        refine r_catR (rds_mono s18 hrd) ⟨ra, rz, rfl, .of hr1, hr2⟩ (by omega) fun v2 H19 s19 h19 => ?_
        refine x_name (x_next ⟨⟨_, v2, qs ++ rs, rfl, h19, by rw [List.length_append]; omega, fun e he => ?_, fun i y hi hy => ?_⟩, s17.trans (s18.trans s19)⟩)
        · rcases List.mem_append.mp he with he | he
          · exact oq e he
          · obtain ⟨f1, f2⟩ := ers e he
            refine ⟨by rw [f1]; exact ok_at, ?_⟩
            rcases f2 with f2 | f2
            · exact okS_of ok.ok ((kind_mem ok).mp f2)
            · rw [f2]
              obtain ⟨r, e1, e2⟩ := List.mem_map.mp ok.ok.yi
              rw [← e2]
              exact ok.ok.ok r e1
        · by_cases cji : i = j
          · subst cji
            rw [hj] at hy
            cases hy
            refine .inl ⟨t', p', ⟨dp, dx, rfl, hob⟩, hdo, fun n' hn' hb b hbb => ?_, fun hp => List.mem_append.mpr (.inr (b2 hp))⟩
            rw [hn1] at hn'
            cases hn'
            refine List.mem_append.mpr (.inr (b1 ?_ b ((kind_mem ok).mpr hbb)))
            obtain ⟨r', f1, f2, f3⟩ := mem_of.mp hb
            have := row_eq ok.ok er1 f1 (er2.trans f2.symm)
            subst this
            rw [hgk]
            exact List.mem_singleton.mp f3
          · exact cov_mono rs i y (by omega) hy
      · refine x_ei2 ?_
        walk_at "ar"
        refine mtK (s17 _ _ hob) (no_pu_reads _ _) ?_
        walk_at "ar"
        refine r_ixT (i := 0) (.of hgv17) rfl ?_
        walk_at "ar"
        refine r_ixT (i := 1) (.of hgv17) rfl ?_
        walk_at "ar"
        refine ⟨_, _, _, _, t', i', rfl, ⟨dp, dx, rfl, s17 _ _ hob⟩, fun v' H18 s18 hrs => ?_⟩
        obtain ⟨ra, rz, rfl, hr1, hr2⟩ := hrs
        refine r_catR (rds_mono s18 hrd) ⟨ra, rz, rfl, .of hr1, hr2⟩ (by simp; omega) fun v2 H19 s19 h19 => ?_
        refine x_name (x_next ⟨⟨_, v2, qs ++ [], rfl, h19, by rw [List.append_nil]; omega, by rw [List.append_nil]; exact oq, fun i y hi hy => ?_⟩, s17.trans (s18.trans s19)⟩)
        by_cases cji : i = j
        · subst cji
          rw [hj] at hy
          cases hy
          exact .inr ⟨t', i', ⟨dp, dx, rfl, hob⟩, hto⟩
        · exact cov_mono [] i y (by omega) hy
    rintro σ H17 ⟨⟨o12, rv, qs, rfl, hrd, lq, oq, hcov⟩, s17⟩
    have t1 := std_mono s17 t1
    have t2 := std_mono s17 t2
    have hys := s17 _ _ hys
    obtain ⟨p1, d1, e1, rfl, tp1, td1, te1⟩ := t1
    obtain ⟨p2, d2, e2, rfl, tp2, td2, te2⟩ := t2
    walk_at "ar"
    refine r_ixL (i := 0) (.of hys) rfl ?_
    walk_at "ar"
    refine r_ixL (i := 1) (.of hys) rfl ?_
    walk_at "ar"
    have zM := most_len ok.ok
    have lk : ∀ MM : List (Str × Int), MM.map Prod.fst = mKeys S → MM.length ≤ 100 := fun MM h => by
      have := congrArg List.length h
      unfold mKeys at this
      rw [List.length_map, List.length_map] at this
      omega
    refine ⟨v, S, p1, p2, rv, qs, d1, e1, d2, e2, M1, MM1, M2, MM2, rfl, spec_mono s17 hS15, ok.ok, tp1, tp2, td1, te1, td2, te2, A1, A2, by rw [k1]; exact ok.ok.mo, k1.trans k2.symm, lk _ k1, rds_dp hrd, oq, fun n hn => most_ok ok.ok n (by rw [← k1]; exact hn), fun p3 H18 f1 f2 M3 MM3 s18 g0 g1 g2 A3 k3 agr => ?_⟩
    have hys := s18 _ _ hys
    walk_at "ar"
    refine r_ixL (i := 0) (.of hys) rfl ?_
    walk_at "ar"
    refine r_ixT (v := .ref d1) (.of (s18 _ _ tp1)) rfl ?_
    walk_at "ar"
    refine r_ixL (i := 0) (.of hys) rfl ?_
    walk_at "ar"
    refine r_ixT (v := .ref e1) (.of (s18 _ _ tp1)) rfl ?_
    walk_at "ar"
    have la : ∀ M, AtOk S M → M.length ≤ 100 := fun M h => Nat.le_trans (at_len ok h) (by decide)
    refine ⟨d1, e1, M1, MM1, rfl, s18 _ _ td1, s18 _ _ te1, la _ A1, lk _ k1, A1.nd, by rw [k1]; exact ok.ok.mo, fun sv1 H19 St1 s19 h19 pm1 => ?_⟩
    walk_at "ar"
    refine r_ixT (v := .ref f1) (.of (s19 _ _ g0)) rfl ?_
    walk_at "ar"
    refine r_ixT (v := .ref f2) (.of (s19 _ _ g0)) rfl ?_
    walk_at "ar"
    have k3' := k3.trans k1
    refine ⟨f1, f2, M3, MM3, rfl, s19 _ _ g1, s19 _ _ g2, la _ A3, lk _ k3', A3.nd, by rw [k3']; exact ok.ok.mo, fun sv2 H20 St3 s20 h20 pm3 => ?_⟩
    walk_at "ar"
    have S20 := s17.trans (s18.trans (s19.trans s20))
    refine ⟨.ref wa, DL, sv1, sv2, cv, gv, S, ds, St1, St3, M1, MM1, M3, MM3, c, fm, qs, rfl, world_mono S20 hW15, ok, .of (S20 _ _ hDL), fun y hy => ?_, dp_mono s20 h19, h20, ⟨A1, k1, pm1⟩, ⟨A3, k3', pm3⟩, dp_mono S20 hcv, hc, .of (S20 _ _ hgv), agr, fun H21 s21 => ?_⟩
    · obtain ⟨j, hj⟩ := List.mem_iff_getElem?.mp hy
      exact deedC_mono S20 (hcov j y (get_lt hj) hj)
    · walk_at "ar"
      exact And.intro ⟨_, _, _, _, _, _, _, _, _, _, _, _, rfl⟩ (s8.trans (S15.trans (S20.trans s21)))
  · rintro σ H8 ⟨⟨o3, o4, o5, o6, o7, o8, o9, o10, o11, o12, o13, o14, rfl⟩, s8⟩
    walk_at "ar"
    exact k _
end
end Tw
set_option maxHeartbeats 4000000
/-! What is drawn is good. -/
namespace Tw
open PySem PySem.Spec L2
def Mono (x : Str) : Prop := ∃ c, c ∈ (List.range 25).map (98 + ·) ∧ Rep c x
def bads1 : List Str := ["it", "other", "here", "the", "a", "undo", "restart", "north", "up", "in", "red", "old"]
theorem mono_bad {x : Str} (h : Mono x) : x ∉ bads1 ∧ x ∉ called := by
  obtain ⟨c, hc, hr⟩ := h
  have all : x.cps.toList.all (fun d => d == c) = true := List.all_eq_true.mpr fun d hd => by simpa using hr.all d hd
  constructor
  · intro z
    have := (by decide +kernel : ∀ b ∈ bads1, ∀ c ∈ (List.range 25).map (98 + ·), b.cps.toList.all (fun d => d == c) = false) x z c hc
    rw [this] at all
    cases all
  · intro z
    have := (by decide +kernel : ∀ b ∈ called, ∀ c ∈ (List.range 25).map (98 + ·), b.cps.toList.all (fun d => d == c) = false) x z c hc
    rw [this] at all
    cases all
theorem mono_small {x : Str} (h : Mono x) : Small x 8 := by
  obtain ⟨c, hc, hr⟩ := h
  refine ⟨hr.ge, hr.le, fun d hd => ?_⟩
  rw [hr.all d hd]
  exact (by decide +kernel : ∀ c ∈ (List.range 25).map (98 + ·), c ∈ abc.cps.toList) c hc
theorem mono_name {x : Str} (h : Mono x) : NameOk x := ⟨mono_small h, fun z => (mono_bad h).1 ((by decide +kernel : ∀ b ∈ barred, b ∈ bads1) x z)⟩
theorem mono_word {x : Str} (h : Mono x) : WordOk x := ⟨⟨(mono_small h).1, Nat.le_trans (mono_small h).2.1 (by decide), (mono_small h).2.2⟩, fun z => (mono_bad h).1 ((by decide +kernel : ∀ b ∈ leftOut, b ∈ bads1) x z)⟩
theorem nm_mono {ns : List Str} (h : NmL ns) : ∀ x ∈ ns, Mono x := fun x hx => by
  obtain ⟨i, hi⟩ := List.mem_iff_getElem?.mp hx
  obtain ⟨st, hr⟩ := h.rep
  refine ⟨_, List.mem_map.mpr ⟨(st + 7 * i) % 25, List.mem_range.mpr (Nat.mod_lt _ (by decide)), rfl⟩, hr i x hi⟩
theorem nm_nodup {ns : List Str} (h : NmL ns) : ns.Nodup := by
  obtain ⟨st, hr⟩ := h.rep
  refine List.pairwise_iff_getElem.mpr fun i j hi hj hij e => ?_
  have a := hr i _ (List.getElem?_eq_getElem hi)
  have b := hr j _ (List.getElem?_eq_getElem hj)
  rw [e] at a
  have hl := h.len
  have ne : ∃ d, d ∈ ns[j].cps.toList := by
    have := b.ge
    unfold Str.length at this
    cases q : ns[j].cps.toList with
    | nil =>
      have : ns[j].cps.toList.length = 0 := by rw [q]; rfl
      rw [Array.length_toList] at this
      omega
    | cons d _ => exact ⟨d, List.mem_cons_self⟩
  obtain ⟨d, hd⟩ := ne
  have e1 := a.all d hd
  have e2 := b.all d hd
  omega
section
variable {ns rooms : List Str} {oths : List Rw} {hs : List Str} {r n m : Nat} {s0 : Str} {S : Sc}
theorem src_sub (h : Src ns rooms oths hs r n m s0 S) : (rooms ++ [S.you] ++ oths.map Rw.name ++ S.marks.map M3.name).Sublist ns := by
  have l := h.nm.len
  rw [h.rm, h.on, h.mn]
  have e1 : ns = ns.take 5 ++ ([S.you] ++ ((ns.drop 6).take 7 ++ ns.drop 13)) := by
    have a := (List.take_append_drop 6 ns).symm
    rw [take_succ' h.you] at a
    have b := (List.take_append_drop 7 (ns.drop 6)).symm
    rw [List.drop_drop] at b
    rw [← b, ← List.append_assoc]
    exact a
  conv => rhs; rw [e1]
  rw [List.append_assoc, List.append_assoc]
  refine List.Sublist.append ?_ (List.Sublist.append (List.Sublist.refl _) (List.Sublist.append ?_ (List.take_sublist _ _)))
  · have : ns.take r = (ns.take 5).take r := by rw [List.take_take, Nat.min_eq_left h.r5]
    rw [this]
    exact List.take_sublist _ _
  · have : (ns.drop 6).take n = ((ns.drop 6).take 7).take n := by rw [List.take_take, Nat.min_eq_left h.n7]
    rw [this]
    exact List.take_sublist _ _
theorem src_names (h : Src ns rooms oths hs r n m s0 S) : (S.rows.map Rw.name).Perm (rooms ++ [S.you] ++ oths.map Rw.name) := by
  refine (h.perm.map Rw.name).trans ?_
  rw [List.map_append, List.map_append, List.map_map]
  have : (rooms.map (Rw.name ∘ rmRow)) = rooms := by
    conv => rhs; rw [← List.map_id rooms]
    rfl
  rw [this]
  exact .refl _
theorem src_nodup (h : Src ns rooms oths hs r n m s0 S) : (S.rows.map Rw.name ++ S.marks.map M3.name).Nodup :=
  ((List.Perm.append_right _ (src_names h)).nodup_iff).mpr (List.Nodup.sublist (src_sub h) (nm_nodup h.nm))
theorem src_mono (h : Src ns rooms oths hs r n m s0 S) {x : Str} (hx : x ∈ S.rows.map Rw.name ∨ x ∈ S.marks.map M3.name) : Mono x := by
  refine nm_mono h.nm x ((src_sub h).subset ?_)
  rcases hx with hx | hx
  · exact List.mem_append.mpr (.inl ((src_names h).mem_iff.mp hx))
  · exact List.mem_append.mpr (.inr hx)
/-- a row is a room's, yours, or another one -/
theorem src_row (h : Src ns rooms oths hs r n m s0 S) {x : Rw} : x ∈ S.rows ↔ (∃ y ∈ rooms, x = rmRow y) ∨ x = ⟨S.you, "you", some s0⟩ ∨ x ∈ oths := by
  rw [h.perm.mem_iff, List.mem_append, List.mem_append]
  constructor
  · rintro ((a | a) | a)
    · obtain ⟨y, hy, rfl⟩ := List.mem_map.mp a
      exact .inl ⟨y, hy, rfl⟩
    · exact .inr (.inl (List.mem_singleton.mp a))
    · exact .inr (.inr a)
  · rintro (⟨y, hy, rfl⟩ | a | a)
    · exact .inl (.inl (List.mem_map.mpr ⟨y, hy, rfl⟩))
    · exact .inl (.inr (List.mem_singleton.mpr a))
    · exact .inr a
theorem oth_kinds {hs0 : List Str} (h : Oth hs0 oths hs) : ∀ x ∈ oths, x.kind ∈ kinds4 ∧ ∃ s, x.start = some s := by
  induction h with
  | nil => exact fun x h => absurd h (by simp)
  | snoc _ hk _ ih =>
    intro x hx
    rcases List.mem_append.mp hx with hx | hx
    · exact ih x hx
    · rw [List.mem_singleton.mp hx]
      exact ⟨hk, _, rfl⟩
theorem src_you_room (h : Src ns rooms oths hs r n m s0 S) : S.you ∉ rooms ∧ S.you ∉ oths.map Rw.name := by
  have nd := List.Nodup.sublist (src_sub h) (nm_nodup h.nm)
  have a := List.nodup_append.mp (List.nodup_append.mp nd).1
  have b := List.nodup_append.mp a.1
  exact ⟨fun z => b.2.2 _ z _ (List.mem_singleton.mpr rfl) rfl, fun z => a.2.2 S.you (List.mem_append.mpr (.inr (List.mem_singleton.mpr rfl))) _ z rfl⟩
theorem src_sp (h : Src ns rooms oths hs r n m s0 S) : SpOk S := by
  have l := h.nm.len
  have lo : oths.length ≤ 7 := by
    have := congrArg List.length h.on
    rw [List.length_map, List.length_take, List.length_drop] at this
    have := h.n7
    omega
  have lr : rooms.length = r := by rw [h.rm, List.length_take]; have := h.r5; omega
  have lrows : S.rows.length ≤ 13 := by
    have := h.perm.length_eq
    rw [List.length_append, List.length_append, List.length_map] at this
    have := h.r5
    simp at *
    omega
  have lm : S.marks.length ≤ 4 := by
    have := congrArg List.length h.mn
    rw [List.length_map, List.length_take] at this
    have := h.m4
    omega
  have nd := List.nodup_append.mp (src_nodup h)
  refine ⟨by omega, nd.1, fun x hx => name_ok (mono_small (src_mono h (.inl (List.mem_map.mpr ⟨x, hx, rfl⟩)))), ?_, ?_, ?_, ?_, ?_, by omega, fun x hx => name_ok (mono_small (src_mono h (.inr (List.mem_map.mpr ⟨x, hx, rfl⟩))))⟩
  · have : 0 < rooms.length := by rw [lr]; exact h.r1
    obtain ⟨y, hy⟩ := List.exists_mem_of_length_pos this
    have hm : y ∈ roomsS S := mem_rooms.mpr (mem_of.mpr ⟨rmRow y, (src_row h).mpr (.inl ⟨y, hy, rfl⟩), rfl, List.mem_singleton.mpr rfl⟩)
    exact fun z => by rw [z] at hm; cases hm
  · intro x hx
    rcases (src_row h).mp hx with ⟨y, hy, rfl⟩ | rfl | a
    · exact ⟨fun z => absurd (show ("room" : Str) = "you" from z) (by decide +kernel), fun z => absurd (by rw [← z]; exact hy) (src_you_room h).1⟩
    · exact ⟨fun _ => rfl, fun _ => rfl⟩
    · have k := (oth_kinds h.oo x a).1
      exact ⟨fun z => by rw [z] at k; exact absurd k (by decide +kernel), fun z => absurd (List.mem_map.mpr ⟨x, a, z⟩) (src_you_room h).2⟩
  · exact List.mem_map.mpr ⟨_, (src_row h).mpr (.inr (.inl rfl)), rfl⟩
  · intro x hx
    rcases (src_row h).mp hx with ⟨y, hy, rfl⟩ | rfl | a
    · show ("room" : Str) ∈ kinds; decide +kernel
    · show ("you" : Str) ∈ kinds; decide +kernel
    · exact (by decide +kernel : ∀ k ∈ kinds4, k ∈ kinds) _ (oth_kinds h.oo x a).1
  · unfold mostsS
    rw [List.map_append, List.map_map, List.map_map]
    refine List.Nodup.sublist ?_ (src_nodup h)
    refine List.Sublist.append ?_ (List.Sublist.refl _)
    have : ((ofS S ["box", "lamp"]).map (Prod.fst ∘ fun n => ((n, 1) : Str × Int))) = ofS S ["box", "lamp"] := by
      conv => rhs; rw [← List.map_id (ofS S ["box", "lamp"])]
      rfl
    rw [this]
    exact (List.filter_sublist).map _
/-! ### the world -/
theorem zip_kind (p : Str → Bool) : ∀ (rows : List Rw) (words : List (List Str)), words.length = rows.length → ((List.zipWith (fun (r : Rw) ws => (⟨r.name, ws, r.kind, r.start⟩ : Th)) rows words).filter fun h => p h.kind).map Th.name = (rows.filter fun r => p r.kind).map Rw.name
  | [], _, _ => by simp
  | x :: rows, [], h => by cases h
  | x :: rows, w :: words, h => by
    have ih := zip_kind p rows words (Nat.succ.inj h)
    rw [List.zipWith_cons_cons, List.filter_cons, List.filter_cons]
    by_cases c : p x.kind = true
    · rw [if_pos c, if_pos c, List.map_cons, List.map_cons, ih]
    · rw [if_neg c, if_neg c, ih]
theorem src_wl (h : Src ns rooms oths hs r n m s0 S) : S.words.length = S.rows.length := h.wd.length
theorem th_row (h : Src ns rooms oths hs r n m s0 S) {t : Th} (ht : t ∈ thS S) : ∃ x ∈ S.rows, t.name = x.name ∧ t.kind = x.kind ∧ t.start = x.start ∧ ∃ m ∈ mores, t.words = x.name :: m := by
  obtain ⟨i, hi⟩ := List.mem_iff_getElem?.mp ht
  have hlt := get_lt hi
  unfold thS at hlt hi
  rw [List.length_zipWith, src_wl h, Nat.min_self] at hlt
  have hlt2 : i < S.words.length := by rw [src_wl h]; exact hlt
  rw [List.getElem?_zipWith, List.getElem?_eq_getElem hlt, List.getElem?_eq_getElem hlt2] at hi
  have hi := Option.some.inj hi
  subst hi
  obtain ⟨x, hx, hm⟩ := paired_get' h.wd (List.getElem?_eq_getElem hlt2)
  rw [List.getElem?_eq_getElem hlt] at hx
  cases hx
  exact ⟨_, List.getElem_mem hlt, rfl, rfl, rfl, hm⟩
theorem row_th' (h : Src ns rooms oths hs r n m s0 S) {x : Rw} (hx : x ∈ S.rows) : ∃ t, (wdS S).find x.name = some t ∧ t.name = x.name ∧ t.kind = x.kind ∧ t.start = x.start := by
  obtain ⟨i, hi⟩ := List.mem_iff_getElem?.mp hx
  have hlt := get_lt hi
  have hlt2 : i < S.words.length := by rw [src_wl h]; exact hlt
  have ht : (⟨x.name, S.words[i], x.kind, x.start⟩ : Th) ∈ thS S := by
    refine List.mem_of_getElem? (i := i) ?_
    unfold thS
    rw [List.getElem?_zipWith, hi, List.getElem?_eq_getElem hlt2]
  unfold Wd.find
  cases q : (wdS S).things.find? fun h => decide (h.name = x.name) with
  | none =>
    rw [List.find?_eq_none] at q
    exact absurd (decide_eq_true rfl) (q _ ht)
  | some t2 =>
    have m2 := List.mem_of_find?_eq_some q
    have n2 : t2.name = x.name := by simpa using List.find?_some q
    obtain ⟨x2, a1, a2, a3, a4, _⟩ := th_row h m2
    have := row_eq (src_sp h) a1 hx (by rw [← a2]; exact n2)
    subst this
    exact ⟨t2, rfl, a2, a3, a4⟩
theorem ends_up {W : Wd} : ∀ (k : Nat) (t : Th), endsIn W k t = true → endsIn W (k + 1) t = true
  | 0, t, h => by
    unfold endsIn at h ⊢
    rw [h]
    rfl
  | k + 1, t, h => by
    unfold endsIn at h ⊢
    rcases Bool.or_eq_true_iff.mp h with h | h
    · rw [h]; rfl
    · refine Bool.or_eq_true_iff.mpr (.inr ?_)
      cases q : t.start with
      | none => rw [q] at h; cases h
      | some s =>
        rw [q] at h
        dsimp only at h ⊢
        cases q2 : W.find s with
        | none => rw [q2] at h; cases h
        | some t2 =>
          rw [q2] at h
          dsimp only at h ⊢
          exact ends_up k t2 h
theorem ends_le {W : Wd} {k k' : Nat} {t : Th} (h : endsIn W k t = true) (l : k ≤ k') : endsIn W k' t = true := by
  induction l with
  | refl => exact h
  | step _ ih => exact ends_up _ _ ih
theorem ends_room {W : Wd} {t : Th} (h : t.kind = "room") (k : Nat) : endsIn W k t = true := by
  cases k with
  | zero => unfold endsIn; exact decide_eq_true h
  | succ k => unfold endsIn; rw [decide_eq_true h]; rfl
theorem ends_step {W : Wd} {t t2 : Th} {s : Str} {k : Nat} (h1 : t.start = some s) (h2 : W.find s = some t2) (h3 : endsIn W k t2 = true) : endsIn W (k + 1) t = true := by
  unfold endsIn
  rw [h1]
  dsimp only
  rw [h2]
  dsimp only
  rw [h3, Bool.or_true]
/-- all that holds in the beginning is a thing that can hold, and ends in a room -/
theorem oth_ends (h : Src ns rooms oths hs r n m s0 S) : ∀ (o2 : List Rw) (h2 : List Str), Oth (rooms ++ [S.you]) o2 h2 → (∀ x ∈ o2, x ∈ oths) →
    (∀ y ∈ h2, ∃ t, (wdS S).find y = some t ∧ t.holds = true ∧ endsIn (wdS S) (o2.length + 1) t = true) ∧ ∀ x ∈ o2, ∃ s, x.start = some s ∧ ∃ t, (wdS S).find s = some t ∧ t.holds = true ∧ endsIn (wdS S) (o2.length + 1) t = true := by
  intro o2 h2 ho
  induction ho with
  | nil =>
    refine fun _ => ⟨fun y hy => ?_, fun x hx => absurd hx (by simp)⟩
    rcases List.mem_append.mp hy with hy | hy
    · obtain ⟨t, t1, t2, t3, _⟩ := row_th' h ((src_row h).mpr (.inl ⟨y, hy, rfl⟩))
      exact ⟨t, t1, by unfold Th.holds; rw [show t.kind = "room" from t3]; rfl, ends_room t3 _⟩
    · rw [List.mem_singleton.mp hy]
      obtain ⟨t, t1, t2, t3, t4⟩ := row_th' h ((src_row h).mpr (.inr (.inl rfl)))
      obtain ⟨g, g1, g2, g3, _⟩ := row_th' h ((src_row h).mpr (.inl ⟨s0, h.st, rfl⟩))
      exact ⟨t, t1, by unfold Th.holds; rw [show t.kind = "you" from t3]; decide +kernel, ends_step t4 g1 (ends_room g3 _)⟩
  | @snoc rows hh nm' kd hd ho hk hm ih =>
    intro hall
    obtain ⟨i1, i2⟩ := ih fun x hx => hall x (List.mem_append.mpr (.inl hx))
    have len : (rows ++ [(⟨nm', kd, some hd⟩ : Rw)]).length = rows.length + 1 := by rw [List.length_append]; rfl
    rw [len]
    obtain ⟨td, d1, d2, d3⟩ := i1 hd hm
    have j1 : ∀ y ∈ hh, ∃ t, (wdS S).find y = some t ∧ t.holds = true ∧ endsIn (wdS S) (rows.length + 1 + 1) t = true := fun y hy => by
      obtain ⟨t, a, b, c⟩ := i1 y hy
      exact ⟨t, a, b, ends_up _ _ c⟩
    refine ⟨fun y hy => ?_, fun x hx => ?_⟩
    · by_cases c : kd = "box"
      · rw [if_pos c] at hy
        rcases List.mem_append.mp hy with hy | hy
        · exact j1 y hy
        · rw [List.mem_singleton.mp hy]
          obtain ⟨t, t1, t2, t3, t4⟩ := row_th' h ((src_row h).mpr (.inr (.inr (hall _ (List.mem_append.mpr (.inr (List.mem_singleton.mpr rfl)))))))
          exact ⟨t, t1, by unfold Th.holds; rw [show t.kind = "box" from t3.trans c]; decide +kernel, ends_step t4 d1 d3⟩
      · rw [if_neg c] at hy
        exact j1 y hy
    · rcases List.mem_append.mp hx with hx | hx
      · obtain ⟨s, a, t, b1, b2, b3⟩ := i2 x hx
        exact ⟨s, a, t, b1, b2, ends_up _ _ b3⟩
      · rw [List.mem_singleton.mp hx]
        exact ⟨hd, rfl, td, d1, d2, ends_up _ _ d3⟩
theorem src_len (h : Src ns rooms oths hs r n m s0 S) : rooms.length = r ∧ oths.length ≤ 7 ∧ S.rows.length = r + 1 + oths.length ∧ S.marks.length ≤ 4 := by
  have l := h.nm.len
  have lo : oths.length ≤ 7 := by
    have := congrArg List.length h.on
    rw [List.length_map, List.length_take, List.length_drop] at this
    have := h.n7
    omega
  have lr : rooms.length = r := by rw [h.rm, List.length_take]; have := h.r5; omega
  refine ⟨lr, lo, ?_, ?_⟩
  · have := h.perm.length_eq
    rw [List.length_append, List.length_append, List.length_map, lr] at this
    exact this
  · have := congrArg List.length h.mn
    rw [List.length_map, List.length_take] at this
    have := h.m4
    omega
theorem cnt (h : Src ns rooms oths hs r n m s0 S) (p : Str → Bool) : ((thS S).filter fun t => p t.kind).length = (if p "room" = true then r else 0) + (if p "you" = true then 1 else 0) + (oths.filter fun x => p x.kind).length := by
  have e := congrArg List.length (zip_kind p S.rows S.words (src_wl h))
  rw [List.length_map, List.length_map] at e
  have e2 := (h.perm.filter fun x => p x.kind).length_eq
  rw [List.filter_append, List.filter_append, List.length_append, List.length_append] at e2
  have e3 : ((rooms.map rmRow).filter fun x => p x.kind).length = if p "room" = true then r else 0 := by
    have lr := (src_len h).1
    rw [List.filter_map, List.length_map]
    by_cases c : p "room" = true
    · have : rooms.filter ((fun x => p x.kind) ∘ rmRow) = rooms := List.filter_eq_self.mpr fun y _ => c
      rw [if_pos c, this, lr]
    · have : rooms.filter ((fun x => p x.kind) ∘ rmRow) = [] := List.filter_eq_nil_iff.mpr fun y _ => c
      rw [if_neg c, this]
      rfl
  have e4 : ([(⟨S.you, "you", some s0⟩ : Rw)].filter fun x => p x.kind).length = if p "you" = true then 1 else 0 := by
    by_cases c : p "you" = true
    · rw [if_pos c, List.filter_cons]
      simp [c]
    · rw [if_neg c, List.filter_cons]
      simp [c]
  rw [e3, e4] at e2
  show ((List.zipWith (fun (r : Rw) ws => (⟨r.name, ws, r.kind, r.start⟩ : Th)) S.rows S.words).filter fun t => p t.kind).length = _
  rw [e, e2]
theorem oth_none (h : Src ns rooms oths hs r n m s0 S) (p : Str → Bool) (hp : ∀ k ∈ kinds4, p k = false) : (oths.filter fun x => p x.kind).length = 0 := by
  rw [List.filter_eq_nil_iff.mpr fun x hx => by rw [hp _ (oth_kinds h.oo x hx).1]; exact Bool.false_ne_true]
  rfl
theorem kind_rooms (h : Src ns rooms oths hs r n m s0 S) {y : Str} : y ∈ (wdS S).kind "room" ↔ y ∈ rooms := by
  have e : (wdS S).kind "room" = (S.rows.filter fun x => decide (x.kind = ("room" : Str))).map Rw.name := zip_kind (fun k => decide (k = ("room" : Str))) S.rows S.words (src_wl h)
  rw [e]
  constructor
  · intro hy
    obtain ⟨x, h1, rfl⟩ := List.mem_map.mp hy
    have h2 := List.mem_filter.mp h1
    have h3 : x.kind = "room" := of_decide_eq_true h2.2
    rcases (src_row h).mp h2.1 with ⟨y2, hy2, rfl⟩ | rfl | a
    · exact hy2
    · exact absurd (show ("you" : Str) = "room" from h3) (by decide +kernel)
    · have k := (oth_kinds h.oo x a).1
      rw [h3] at k
      exact absurd k (by decide +kernel)
  · intro hy
    exact List.mem_map.mpr ⟨rmRow y, List.mem_filter.mpr ⟨(src_row h).mpr (.inl ⟨y, hy, rfl⟩), decide_eq_true rfl⟩, rfl⟩
theorem word_more {m : List Str} (hm : m ∈ mores) : ∀ x ∈ m, x = "red" ∨ x = "old" := by
  simp only [mores, List.mem_cons, List.mem_nil_iff, or_false] at hm
  rcases hm with rfl | rfl | rfl
  · intro x hx; cases hx
  · intro x hx; exact .inl (List.mem_singleton.mp hx)
  · intro x hx
    rcases List.mem_cons.mp hx with rfl | hx
    · exact .inr rfl
    · exact .inl (List.mem_singleton.mp hx)
theorem src_world (h : Src ns rooms oths hs r n m s0 S) : GoodW (wdS S) := by
  obtain ⟨lr, lo, lrow, lm⟩ := src_len h
  have len : (wdS S).things.length = r + 1 + oths.length := by
    show (thS S).length = _
    unfold thS
    rw [List.length_zipWith, src_wl h, Nat.min_self, lrow]
  have r1 := h.r1
  have r5 := h.r5
  have cr : ((wdS S).kind "room").length = r := by
    have o : (oths.filter fun x => decide (x.kind = ("room" : Str))).length = 0 := oth_none h (fun k => decide (k = ("room" : Str))) (by decide +kernel)
    have e : ((thS S).filter fun t => decide (t.kind = ("room" : Str))).length = (if decide (("room" : Str) = "room") = true then r else 0) + (if decide (("you" : Str) = "room") = true then 1 else 0) + (oths.filter fun x => decide (x.kind = ("room" : Str))).length := cnt h fun k => decide (k = ("room" : Str))
    rw [o, if_pos (decide_eq_true rfl), if_neg (by decide +kernel)] at e
    unfold Wd.kind
    rw [List.length_map]
    simp only [Nat.add_zero, Nat.zero_add] at e
    exact e
  have cy : ((wdS S).kind "you").length = 1 := by
    have o : (oths.filter fun x => decide (x.kind = ("you" : Str))).length = 0 := oth_none h (fun k => decide (k = ("you" : Str))) (by decide +kernel)
    have e : ((thS S).filter fun t => decide (t.kind = ("you" : Str))).length = (if decide (("room" : Str) = "you") = true then r else 0) + (if decide (("you" : Str) = "you") = true then 1 else 0) + (oths.filter fun x => decide (x.kind = ("you" : Str))).length := cnt h fun k => decide (k = ("you" : Str))
    rw [o, if_neg (by decide +kernel), if_pos (decide_eq_true rfl)] at e
    unfold Wd.kind
    rw [List.length_map]
    simp only [Nat.add_zero, Nat.zero_add] at e
    exact e
  have cp : (wdS S).plains.length ≤ 7 := by
    have e := cnt h fun k => !(decide (k = ("room" : Str)) || decide (k = ("you" : Str)))
    have l := List.length_filter_le (fun x : Rw => !(decide (x.kind = ("room" : Str)) || decide (x.kind = ("you" : Str)))) oths
    unfold Wd.plains
    rw [List.length_map]
    have e2 : ((wdS S).things.filter Th.plain).length = ((thS S).filter fun t => !(decide (t.kind = ("room" : Str)) || decide (t.kind = ("you" : Str)))).length := rfl
    rw [e2, e]
    have z1 : (!(decide (("room" : Str) = "room") || decide (("room" : Str) = "you"))) = false := by decide +kernel
    have z2 : (!(decide (("you" : Str) = "room") || decide (("you" : Str) = "you"))) = false := by decide +kernel
    rw [z1, z2]
    simp at l ⊢
    omega
  have names : (wdS S).names = S.rows.map Rw.name := by
    have := zip_kind (fun _ => true) S.rows S.words (src_wl h)
    rw [List.filter_eq_self.mpr fun _ _ => rfl, List.filter_eq_self.mpr fun _ _ => rfl] at this
    exact this
  have rname : ∀ x ∈ S.rows, Mono x.name := fun x hx => src_mono h (.inl (List.mem_map.mpr ⟨x, hx, rfl⟩))
  have red : ∀ x : Str, x = "red" ∨ x = "old" → x ∈ bads1 := fun x hx => by
    rcases hx with rfl | rfl
    · decide +kernel
    · decide +kernel
  have tword : ∀ t ∈ thS S, ∀ x ∈ t.words, Mono x ∨ x = "red" ∨ x = "old" := fun t ht x hx => by
    obtain ⟨w, w1, _, _, _, mm, m1, m2⟩ := th_row h ht
    rw [m2] at hx
    rcases List.mem_cons.mp hx with rfl | hx
    · exact .inl (rname w w1)
    · exact .inr (word_more m1 x hx)
  have wayw : ∀ y ∈ (wdS S).ways, (y.room ∈ roomsS S ∧ y.goal ∈ roomsS S) ∧ (y.word = "north" ∨ y.word = "up") := fun y hy => by
    have hy : y ∈ waysS S := hy
    unfold waysS at hy
    cases q : roomsS S with
    | nil => rw [q] at hy; cases hy
    | cons a b =>
      rw [q] at hy
      dsimp only at hy
      rcases List.mem_cons.mp hy with rfl | hy
      · refine ⟨⟨List.mem_cons_self, ?_⟩, .inl rfl⟩
        cases b with
        | nil => exact List.mem_cons_self
        | cons c d =>
          show (c :: d).getLastD a ∈ _
          rw [List.getLastD_cons]
          exact List.mem_cons_of_mem _ (by
            cases q2 : (c :: d).getLast? with
            | none => simp at q2
            | some z =>
              have := List.mem_of_getLast? q2
              have e : (d.getLastD c) = z := by rw [List.getLastD_eq_getLast?]; rw [List.getLast?_cons] at q2; exact Option.some.inj q2
              rw [e]; exact this)
      · rw [List.mem_singleton.mp hy]
        exact ⟨⟨List.mem_cons_self, List.mem_cons_self⟩, .inr rfl⟩
  have rr : ∀ y, y ∈ roomsS S → y ∈ (wdS S).kind "room" := fun y hy => by
    obtain ⟨x, h1, h2, h3⟩ := mem_of.mp (mem_rooms.mp hy)
    rw [kind_rooms h]
    rcases (src_row h).mp h1 with ⟨y2, hy2, rfl⟩ | rfl | a
    · rw [← h2]; exact hy2
    · exact absurd (List.mem_singleton.mp (show ("you" : Str) ∈ (["room"] : List Str) from h3)) (by decide +kernel)
    · have k := (oth_kinds h.oo x a).1
      rw [List.mem_singleton.mp h3] at k
      exact absurd k (by decide +kernel)
  obtain ⟨_, oe⟩ := oth_ends h oths hs h.oo fun x hx => hx
  refine ⟨by rw [cr]; exact r1, by rw [cr]; exact r5, cy, cp, lm, ?_, ?_, ?_, ?_, ?_, ?_, ?_, ?_, ?_, ?_, ?_⟩
  · intro t ht
    obtain ⟨x, x1, x2, x3, x4, mm, m1, m2⟩ := th_row h ht
    have mn := rname x x1
    refine ⟨by rw [x2]; exact mono_name mn, by rw [x3]; exact (src_sp h).kd x x1, ?_, by rw [m2]; simp, ?_, fun w hw => ?_⟩
    · rw [m2]
      refine List.nodup_cons.mpr ⟨fun z => (mono_bad mn).1 (red _ (word_more m1 _ z)), ?_⟩
      simp only [mores, List.mem_cons, List.mem_nil_iff, or_false] at m1
      rcases m1 with rfl | rfl | rfl
      · exact List.nodup_nil
      · simp
      · decide +kernel
    · rw [m2]
      simp only [mores, List.mem_cons, List.mem_nil_iff, or_false] at m1
      rcases m1 with rfl | rfl | rfl <;> simp
    · rcases tword t ht w hw with a | a | a
      · exact mono_word a
      · rw [a]
        exact ⟨⟨by decide +kernel, by decide +kernel, by decide +kernel⟩, by decide +kernel⟩
      · rw [a]
        exact ⟨⟨by decide +kernel, by decide +kernel, by decide +kernel⟩, by decide +kernel⟩
  · rw [names]
    exact src_nodup h
  · intro t ht
    obtain ⟨x, x1, x2, x3, x4, _⟩ := th_row h ht
    rcases (src_row h).mp x1 with ⟨y, hy, rfl⟩ | rfl | a
    · exact .inl ⟨x3, x4⟩
    · refine .inr ⟨fun z => absurd (show ("you" : Str) = "room" from x3.symm.trans z) (by decide +kernel), s0, ?_⟩
      obtain ⟨g, g1, g2, g3, _⟩ := row_th' h ((src_row h).mpr (.inl ⟨s0, h.st, rfl⟩))
      exact ⟨g, x4, g1, by unfold Th.holds; rw [show g.kind = "room" from g3]; rfl, .inr g3⟩
    · have k := (oth_kinds h.oo x a).1
      obtain ⟨s, s1, g, g1, g2, g3⟩ := oe x a
      refine .inr ⟨fun z => by rw [← x3, z] at k; exact absurd k (by decide +kernel), s, g, by rw [x4]; exact s1, g1, g2, .inl fun z => by rw [← x3, z] at k; exact absurd k (by decide +kernel)⟩
  · intro t ht
    rw [len]
    obtain ⟨x, x1, x2, x3, x4, _⟩ := th_row h ht
    rcases (src_row h).mp x1 with ⟨y, hy, rfl⟩ | rfl | a
    · exact ends_room x3 _
    · obtain ⟨g, g1, g2, g3, _⟩ := row_th' h ((src_row h).mpr (.inl ⟨s0, h.st, rfl⟩))
      exact ends_le (ends_step x4 g1 (ends_room g3 0)) (by omega)
    · obtain ⟨s, s1, g, g1, g2, g3⟩ := oe x a
      exact ends_le (ends_step (x4.trans s1) g1 g3) (by omega)
  · intro t ht t2 ht2 _ _ hne
    obtain ⟨x, x1, x2, x3, x4, mm, m1, m2⟩ := th_row h ht
    obtain ⟨y, y1, y2, y3, y4, mm2, n1, n2⟩ := th_row h ht2
    refine ⟨x.name, by rw [m2]; exact List.mem_cons_self, fun z => ?_⟩
    rw [n2] at z
    rcases List.mem_cons.mp z with z | z
    · exact hne (by rw [y2, x2, z])
    · exact (mono_bad (rname x x1)).1 (red _ (word_more n1 _ z))
  · intro mk hmk
    exact ⟨mono_name (src_mono h (.inr (List.mem_map.mpr ⟨mk, hmk, rfl⟩))), h.mks mk hmk⟩
  · have nd : rooms.Nodup := by rw [h.rm]; exact List.Nodup.sublist (List.take_sublist _ _) (nm_nodup h.nm)
    exact List.Nodup.sublist h.dk nd
  · intro d hd
    exact (kind_rooms h).mpr (h.dk.subset hd)
  · intro y hy
    obtain ⟨⟨a, b⟩, c⟩ := wayw y hy
    refine ⟨rr _ a, rr _ b, ?_⟩
    rcases c with c | c
    · rw [c]
      exact ⟨⟨⟨by decide +kernel, by decide +kernel, by decide +kernel⟩, by decide +kernel⟩, by decide +kernel, by decide +kernel⟩
    · rw [c]
      exact ⟨⟨⟨by decide +kernel, by decide +kernel, by decide +kernel⟩, by decide +kernel⟩, by decide +kernel, by decide +kernel⟩
  · intro i j x y hij hi hj
    have hi : (waysS S)[i]? = some x := hi
    have hj : (waysS S)[j]? = some y := hj
    unfold waysS at hi hj
    cases q : roomsS S with
    | nil => rw [q] at hi; simp at hi
    | cons a b =>
      rw [q] at hi hj
      dsimp only at hi hj
      have li := get_lt hi
      have e1 : i = 1 := by simp at li; omega
      have e0 : j = 0 := by omega
      subst e1 e0
      cases hi
      cases hj
      exact fun z => absurd (show ("north" : Str) = "up" from z.2) (by decide +kernel)
  · intro t ht _ x hx
    have base : x ∉ (wdS S).ways.map Wy.word ∧ x ≠ "in" ∧ x ∉ called ↔ (x ∉ (wdS S).ways.map Wy.word) ∧ x ≠ "in" ∧ x ∉ called := Iff.rfl
    have ww : x ≠ "north" → x ≠ "up" → x ∉ (wdS S).ways.map Wy.word := fun n1 n2 z => by
      obtain ⟨y, hy, hz⟩ := List.mem_map.mp z
      rcases (wayw y hy).2 with c | c
      · exact n1 (by rw [← hz, c])
      · exact n2 (by rw [← hz, c])
    rcases tword t ht x hx with a | a | a
    · obtain ⟨b1, b2⟩ := mono_bad a
      exact ⟨ww (fun z => b1 (by rw [z]; decide +kernel)) (fun z => b1 (by rw [z]; decide +kernel)), fun z => b1 (by rw [z]; decide +kernel), b2⟩
    · subst a
      exact ⟨ww (by decide +kernel) (by decide +kernel), by decide +kernel, by decide +kernel⟩
    · subst a
      exact ⟨ww (by decide +kernel) (by decide +kernel), by decide +kernel, by decide +kernel⟩
theorem all_good : ∀ S, GoodS S → SpOk2 S := by
  rintro S ⟨ns, rooms, oths, hs, r, n, m, s0, h⟩
  have key : ∀ x, x ∈ S.rows.map Rw.name ∨ x ∈ mKeys S → Mono x := fun x hx => by
    rcases hx with hx | hx
    · exact src_mono h (.inl hx)
    · unfold mKeys mostsS at hx
      rw [List.map_append, List.map_map, List.map_map] at hx
      rcases List.mem_append.mp hx with hx | hx
      · obtain ⟨y, hy, rfl⟩ := List.mem_map.mp hx
        obtain ⟨x, e1, e2, _⟩ := mem_of.mp hy
        exact src_mono h (.inl (List.mem_map.mpr ⟨x, e1, e2⟩))
      · exact src_mono h (.inr (by obtain ⟨y, hy, e⟩ := List.mem_map.mp hx; exact List.mem_map.mpr ⟨y, hy, e⟩))
  refine ⟨src_sp h, src_wl h, fun x hx z => (mono_bad (key x hx)).1 ((by decide +kernel : ∀ b ∈ barred3, b ∈ bads1) x z), fun e he => ?_, src_world h⟩
  unfold mostsS at he
  rcases List.mem_append.mp he with he | he
  · obtain ⟨y, _, rfl⟩ := List.mem_map.mp he
    show (0 : Int) ≤ 1
    decide
  · obtain ⟨y, hy, rfl⟩ := List.mem_map.mp he
    have := (h.mks y hy).1
    show (0 : Int) ≤ y.most
    omega
end
end Tw
set_option maxHeartbeats 0
open PySem PySem.W PySem.Calls PyProof.Rows
theorem PySem.Challenge.cw_tellworld_k28_whole_deeds_hang_on_their_holds : PySem.Challenge.rw_tellworld_k28_whole_deeds_hang_on_their.Holds := by
  w_on; o_law
  refine HandSHeadRun.head_any (r := OpenLaw.row PySem.Challenge.rw_tellworld_k28_whole_deeds_hang_on_their) (q := view (OpenLaw.row PySem.Challenge.rw_tellworld_k28_whole_deeds_hang_on_their).prog [127]) (H := TwHead.hkL Tw.fa Tw.fn Tw.ex)
    (ob := fun s => TwHead.looL Tw.fa Tw.fn Tw.ex (HandSHeadRun.getT s)) (M := 60000) (loose := TwHead.names) (d := HandSHeadRun.topDef (OpenLaw.row PySem.Challenge.rw_tellworld_k28_whole_deeds_hang_on_their).prog 127) (kwd := []) TwHead.ob_eq
    (by kernel_rfl) (fun s => by kernel_rfl) TwHead.run (by kernel_rfl) (by kernel_rfl) (by kernel_rfl) (by rfl) (by first | assumption | decide +kernel) (by decide +kernel) ⟨rfl, rfl, rfl, rfl, rfl, by decide +kernel⟩ ?hw ?hc
  case hw => w_witness2
  case hc =>
    refine L2.walk_ofE (l := PySem.Challenge.rw_tellworld_k28_whole_deeds_hang_on_their) (n := 63) (k := 9) (x := "_law_script") (CX := Tw.CX) rfl (by decide) (by kernel_rfl) ⟨rfl, by decide, by decide⟩ ?F (fun _ _ _ _ z => z)
    intro w mg fa h Y G hmg0
    obtain ⟨K, KX, c, hex⟩ := Y
    have hmg : mg ("law" : PySem.Str) = some (.ref fa) := by
      have e : (HandSHeadRun.topDef (OpenLaw.row PySem.Challenge.rw_tellworld_k28_whole_deeds_hang_on_their).prog 127).name = ("law" : PySem.Str) := by kernel_rfl
      rw [← e]
      exact hmg0
    have t : Tw.T K mg := ⟨c, hex, h, KX, G⟩
    obtain ⟨fd, F⟩ := t.f_law
    have e := hmg.symm.trans t.g_law
    cases e
    have b := L2.FunD.bindsA (ps := ["_law_script"]) F fun _ _ _ _ _ _ us hl => match us, hl with | [_], _ => rfl
    exact ⟨K, fd, Tw.spLaw K, KX, fun s v => b s [v] rfl, fun H a ns hl _ hS => ⟨a, ns, rfl, hS, fun _ => rfl⟩, fun base _ _ =>
      Tw.fn_ok F Tw.sc_law (fun vs H Q E h => by
        obtain ⟨a, ns, rfl, _⟩ := h
        rfl) (Tw.ok_law t Tw.all_good)⟩
