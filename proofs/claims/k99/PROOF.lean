import PyProof.Rows.All
import Wide.All
import OpenK.AllK
import Wide.FinOn
import KE.KStateDown
import Lean
import HandS.Base
import HandS.Call
import HandS.Ends
import HandS.More
import HandS.Words
import HandS.WordsExc
import HandS.Defaults
import HandS.Head0
import HandS.Head1
import HandS.Head2
import HandS.HeadEnd
import HandS.HeadHook1
import HandS.HeadHook2
import HandS.ForMost
import HandS.Codes
import HandS.IsInst
import HandS.Conv
import HandS.Flow
import HandS.Style
import HandS.Wide
import HandS.Deep
import HandS.NoneIn
import HandS.TupAny
import HandS.TupMul
import HandS.ListItems
import HandS.OwnEq
import HandS.Walk
import KE.GoesEnum
import KE.GoesMore
import HandS.Sort
import HandS.SortInts
import HandS.DictTup
import HandS.DictComp
import PySem.Challenge.RW_namewalk_k99_whole_trees_listed_and_clim
set_option Elab.async false
set_option linter.all false
set_option maxRecDepth 100000
set_option maxHeartbeats 0
namespace NW
open PySem PySem.Spec PyProof.Rows L2
def top (i : Nat) : Stmt := PySem.Challenge.pw_namewalk_k99_whole_trees_listed_and_clim.main.body.getD i (.Pass ⟨0, 0, 0, 0⟩)
abbrev s_is_number : Stmt := top 14
abbrev s_is_name : Stmt := top 20
abbrev s_read_path : Stmt := top 22
abbrev s_path_text : Stmt := top 24
abbrev s_is_owner : Stmt := top 26
abbrev s_by_names : Stmt := top 27
abbrev s_found_nodes : Stmt := top 28
abbrev s_wrong_with_entries : Stmt := top 33
abbrev s_wrong_with : Stmt := top 34
abbrev s_check_node : Stmt := top 36
abbrev s_is_place : Stmt := top 37
abbrev s_check_place : Stmt := top 38
abbrev s_node_at : Stmt := top 39
abbrev s_entries_of : Stmt := top 40
abbrev s_above : Stmt := top 41
abbrev s_is_folder : Stmt := top 49
abbrev s_is_below : Stmt := top 50
abbrev s_made_node : Stmt := top 51
abbrev s_wrong_names : Stmt := top 52
abbrev s_is_leaf : Stmt := top 53
abbrev s_wrong_move : Stmt := top 54
abbrev s_wrong_deed : Stmt := top 55
abbrev s_with_entry : Stmt := top 56
abbrev s_without_entry : Stmt := top 57
abbrev s_done : Stmt := top 58
abbrev s_trees : Stmt := top 59
abbrev s_first_state : Stmt := top 66
abbrev s_seen_node : Stmt := top 67
abbrev s_behind_node : Stmt := top 69
abbrev s_look_once : Stmt := top 70
abbrev s_ended : Stmt := top 71
abbrev s_walk : Stmt := top 72
abbrev s_check_numbers : Stmt := top 74
abbrev s_looked_at : Stmt := top 77
abbrev s_listing : Stmt := top 78
abbrev s_listings : Stmt := top 79
abbrev s_climb : Stmt := top 82
abbrev s_whole_climb : Stmt := top 83
abbrev s_climbs : Stmt := top 84
abbrev s_Lcell : Stmt := top 86
abbrev s_Lrng : Stmt := top 87
abbrev s_Ldraw : Stmt := top 88
abbrev s_Lpick : Stmt := top 89
abbrev s_Lcopy : Stmt := top 90
abbrev s_Labove : Stmt := top 91
abbrev s_Lis_below : Stmt := top 92
abbrev s_Ltaken : Stmt := top 93
abbrev s_Ldone : Stmt := top 94
abbrev s_Ldrawn_tree : Stmt := top 95
abbrev s_Ldrawn_deed : Stmt := top 96
abbrev s_Lrow : Stmt := top 97
abbrev s_Ltree : Stmt := top 98
abbrev s_Ldeed : Stmt := top 99
abbrev s_Linner : Stmt := top 100
abbrev s_Lvisit : Stmt := top 101
abbrev s_Lbelow : Stmt := top 102
abbrev s_Lstill_right : Stmt := top 103
abbrev s_Lmoments_right : Stmt := top 104
abbrev s_law : Stmt := top 105
abbrev s_Thing_eq : Stmt := inClass (top 13) 2
abbrev s_Path_init : Stmt := inClass (top 21) 0
abbrev s_Folder_init : Stmt := inClass (top 29) 0
abbrev s_File_init : Stmt := inClass (top 30) 0
abbrev s_Gone_init : Stmt := inClass (top 32) 0
abbrev s_Tree_init : Stmt := inClass (top 35) 0
abbrev s_Tree_folder_numbers : Stmt := inClass (top 35) 3
abbrev s_Tree_check_folders : Stmt := inClass (top 35) 4
abbrev s_MakeFolder_init : Stmt := inClass (top 43) 0
abbrev s_MakeFile_init : Stmt := inClass (top 44) 0
abbrev s_Put_init : Stmt := inClass (top 46) 0
abbrev s_Take_init : Stmt := inClass (top 47) 0
abbrev s_Move_init : Stmt := inClass (top 48) 0
abbrev s_Look_init : Stmt := inClass (top 62) 0
abbrev s_Look_accepts_owner : Stmt := inClass (top 62) 3
abbrev s_Came_init : Stmt := inClass (top 63) 0
abbrev s_Came_class_name : Stmt := inClass (top 63) 1
abbrev s_Came_facts : Stmt := inClass (top 63) 2
abbrev s_Refused_init : Stmt := inClass (top 64) 0
abbrev s_Refused_class_name : Stmt := inClass (top 64) 1
abbrev s_Refused_facts : Stmt := inClass (top 64) 2
abbrev s_State_init : Stmt := inClass (top 65) 0
abbrev s_Climb_init : Stmt := inClass (top 81) 0
abbrev s_Climb_is_over : Stmt := inClass (top 81) 1
abbrev s_Climb_higher : Stmt := inClass (top 81) 2
abbrev s_Climb_outcome : Stmt := inClass (top 81) 3
def d_is_number : He.DefD := ⟨("is_number", none), "is_number", "is_number", defArgs s_is_number, defBody s_is_number, defScope s_is_number, [], []⟩
def d_is_name : He.DefD := ⟨("is_name", none), "is_name", "is_name", defArgs s_is_name, defBody s_is_name, defScope s_is_name, [], []⟩
def d_read_path : He.DefD := ⟨("read_path", none), "read_path", "read_path", defArgs s_read_path, defBody s_read_path, defScope s_read_path, [], []⟩
def d_path_text : He.DefD := ⟨("path_text", none), "path_text", "path_text", defArgs s_path_text, defBody s_path_text, defScope s_path_text, [], []⟩
def d_is_owner : He.DefD := ⟨("is_owner", none), "is_owner", "is_owner", defArgs s_is_owner, defBody s_is_owner, defScope s_is_owner, [], []⟩
def d_by_names : He.DefD := ⟨("by_names", none), "by_names", "by_names", defArgs s_by_names, defBody s_by_names, defScope s_by_names, [], []⟩
def d_found_nodes : He.DefD := ⟨("found_nodes", none), "found_nodes", "found_nodes", defArgs s_found_nodes, defBody s_found_nodes, defScope s_found_nodes, [], []⟩
def d_wrong_with_entries : He.DefD := ⟨("wrong_with_entries", none), "wrong_with_entries", "wrong_with_entries", defArgs s_wrong_with_entries, defBody s_wrong_with_entries, defScope s_wrong_with_entries, [], []⟩
def d_wrong_with : He.DefD := ⟨("wrong_with", none), "wrong_with", "wrong_with", defArgs s_wrong_with, defBody s_wrong_with, defScope s_wrong_with, [], []⟩
def d_check_node : He.DefD := ⟨("check_node", none), "check_node", "check_node", defArgs s_check_node, defBody s_check_node, defScope s_check_node, [], []⟩
def d_is_place : He.DefD := ⟨("is_place", none), "is_place", "is_place", defArgs s_is_place, defBody s_is_place, defScope s_is_place, [], []⟩
def d_check_place : He.DefD := ⟨("check_place", none), "check_place", "check_place", defArgs s_check_place, defBody s_check_place, defScope s_check_place, [], []⟩
def d_node_at : He.DefD := ⟨("node_at", none), "node_at", "node_at", defArgs s_node_at, defBody s_node_at, defScope s_node_at, [], []⟩
def d_entries_of : He.DefD := ⟨("entries_of", none), "entries_of", "entries_of", defArgs s_entries_of, defBody s_entries_of, defScope s_entries_of, [], []⟩
def d_above : He.DefD := ⟨("above", none), "above", "above", defArgs s_above, defBody s_above, defScope s_above, [], []⟩
def d_is_folder : He.DefD := ⟨("is_folder", none), "is_folder", "is_folder", defArgs s_is_folder, defBody s_is_folder, defScope s_is_folder, [], []⟩
def d_is_below : He.DefD := ⟨("is_below", none), "is_below", "is_below", defArgs s_is_below, defBody s_is_below, defScope s_is_below, [], []⟩
def d_made_node : He.DefD := ⟨("made_node", none), "made_node", "made_node", defArgs s_made_node, defBody s_made_node, defScope s_made_node, [], []⟩
def d_wrong_names : He.DefD := ⟨("wrong_names", none), "wrong_names", "wrong_names", defArgs s_wrong_names, defBody s_wrong_names, defScope s_wrong_names, [], []⟩
def d_is_leaf : He.DefD := ⟨("is_leaf", none), "is_leaf", "is_leaf", defArgs s_is_leaf, defBody s_is_leaf, defScope s_is_leaf, [], []⟩
def d_wrong_move : He.DefD := ⟨("wrong_move", none), "wrong_move", "wrong_move", defArgs s_wrong_move, defBody s_wrong_move, defScope s_wrong_move, [], []⟩
def d_wrong_deed : He.DefD := ⟨("wrong_deed", none), "wrong_deed", "wrong_deed", defArgs s_wrong_deed, defBody s_wrong_deed, defScope s_wrong_deed, [], []⟩
def d_with_entry : He.DefD := ⟨("with_entry", none), "with_entry", "with_entry", defArgs s_with_entry, defBody s_with_entry, defScope s_with_entry, [], []⟩
def d_without_entry : He.DefD := ⟨("without_entry", none), "without_entry", "without_entry", defArgs s_without_entry, defBody s_without_entry, defScope s_without_entry, [], []⟩
def d_done : He.DefD := ⟨("done", none), "done", "done", defArgs s_done, defBody s_done, defScope s_done, [], []⟩
def d_trees : He.DefD := ⟨("trees", none), "trees", "trees", defArgs s_trees, defBody s_trees, defScope s_trees, [], []⟩
def d_first_state : He.DefD := ⟨("first_state", none), "first_state", "first_state", defArgs s_first_state, defBody s_first_state, defScope s_first_state, [], []⟩
def d_seen_node : He.DefD := ⟨("seen_node", none), "seen_node", "seen_node", defArgs s_seen_node, defBody s_seen_node, defScope s_seen_node, [], []⟩
def d_behind_node : He.DefD := ⟨("behind_node", none), "behind_node", "behind_node", defArgs s_behind_node, defBody s_behind_node, defScope s_behind_node, [], []⟩
def d_look_once : He.DefD := ⟨("look_once", none), "look_once", "look_once", defArgs s_look_once, defBody s_look_once, defScope s_look_once, [], []⟩
def d_ended : He.DefD := ⟨("ended", none), "ended", "ended", defArgs s_ended, defBody s_ended, defScope s_ended, [], []⟩
def d_walk : He.DefD := ⟨("walk", none), "walk", "walk", defArgs s_walk, defBody s_walk, defScope s_walk, [], []⟩
def d_check_numbers : He.DefD := ⟨("check_numbers", none), "check_numbers", "check_numbers", defArgs s_check_numbers, defBody s_check_numbers, defScope s_check_numbers, [], []⟩
def d_looked_at : He.DefD := ⟨("looked_at", none), "looked_at", "looked_at", defArgs s_looked_at, defBody s_looked_at, defScope s_looked_at, [], []⟩
def d_listing : He.DefD := ⟨("listing", none), "listing", "listing", defArgs s_listing, defBody s_listing, defScope s_listing, [], []⟩
def d_listings : He.DefD := ⟨("listings", none), "listings", "listings", defArgs s_listings, defBody s_listings, defScope s_listings, [], []⟩
def d_climb : He.DefD := ⟨("climb", none), "climb", "climb", defArgs s_climb, defBody s_climb, defScope s_climb, [], []⟩
def d_whole_climb : He.DefD := ⟨("whole_climb", none), "whole_climb", "whole_climb", defArgs s_whole_climb, defBody s_whole_climb, defScope s_whole_climb, [], []⟩
def d_climbs : He.DefD := ⟨("climbs", none), "climbs", "climbs", defArgs s_climbs, defBody s_climbs, defScope s_climbs, [], []⟩
def d_Lcell : He.DefD := ⟨("_law_cell", none), "_law_cell", "_law_cell", defArgs s_Lcell, defBody s_Lcell, defScope s_Lcell, [], []⟩
def d_Lrng : He.DefD := ⟨("_law_rng", none), "_law_rng", "_law_rng", defArgs s_Lrng, defBody s_Lrng, defScope s_Lrng, [], []⟩
def d_Ldraw : He.DefD := ⟨("_law_draw", none), "_law_draw", "_law_draw", defArgs s_Ldraw, defBody s_Ldraw, defScope s_Ldraw, [], []⟩
def d_Lpick : He.DefD := ⟨("_law_pick", none), "_law_pick", "_law_pick", defArgs s_Lpick, defBody s_Lpick, defScope s_Lpick, [], []⟩
def d_Lcopy : He.DefD := ⟨("_law_copy", none), "_law_copy", "_law_copy", defArgs s_Lcopy, defBody s_Lcopy, defScope s_Lcopy, [], []⟩
def d_Labove : He.DefD := ⟨("_law_above", none), "_law_above", "_law_above", defArgs s_Labove, defBody s_Labove, defScope s_Labove, [], []⟩
def d_Lis_below : He.DefD := ⟨("_law_is_below", none), "_law_is_below", "_law_is_below", defArgs s_Lis_below, defBody s_Lis_below, defScope s_Lis_below, [], []⟩
def d_Ltaken : He.DefD := ⟨("_law_taken", none), "_law_taken", "_law_taken", defArgs s_Ltaken, defBody s_Ltaken, defScope s_Ltaken, [], []⟩
def d_Ldone : He.DefD := ⟨("_law_done", none), "_law_done", "_law_done", defArgs s_Ldone, defBody s_Ldone, defScope s_Ldone, [], []⟩
def d_Ldrawn_tree : He.DefD := ⟨("_law_drawn_tree", none), "_law_drawn_tree", "_law_drawn_tree", defArgs s_Ldrawn_tree, defBody s_Ldrawn_tree, defScope s_Ldrawn_tree, [], []⟩
def d_Ldrawn_deed : He.DefD := ⟨("_law_drawn_deed", none), "_law_drawn_deed", "_law_drawn_deed", defArgs s_Ldrawn_deed, defBody s_Ldrawn_deed, defScope s_Ldrawn_deed, [], []⟩
def d_Lrow : He.DefD := ⟨("_law_row", none), "_law_row", "_law_row", defArgs s_Lrow, defBody s_Lrow, defScope s_Lrow, [], []⟩
def d_Ltree : He.DefD := ⟨("_law_tree", none), "_law_tree", "_law_tree", defArgs s_Ltree, defBody s_Ltree, defScope s_Ltree, [], []⟩
def d_Ldeed : He.DefD := ⟨("_law_deed", none), "_law_deed", "_law_deed", defArgs s_Ldeed, defBody s_Ldeed, defScope s_Ldeed, [], []⟩
def d_Linner : He.DefD := ⟨("_law_inner", none), "_law_inner", "_law_inner", defArgs s_Linner, defBody s_Linner, defScope s_Linner, [], []⟩
def d_Lvisit : He.DefD := ⟨("_law_visit", none), "_law_visit", "_law_visit", defArgs s_Lvisit, defBody s_Lvisit, defScope s_Lvisit, [], []⟩
def d_Lbelow : He.DefD := ⟨("_law_below", none), "_law_below", "_law_below", defArgs s_Lbelow, defBody s_Lbelow, defScope s_Lbelow, [], []⟩
def d_Lstill_right : He.DefD := ⟨("_law_still_right", none), "_law_still_right", "_law_still_right", defArgs s_Lstill_right, defBody s_Lstill_right, defScope s_Lstill_right, [], []⟩
def d_Lmoments_right : He.DefD := ⟨("_law_moments_right", none), "_law_moments_right", "_law_moments_right", defArgs s_Lmoments_right, defBody s_Lmoments_right, defScope s_Lmoments_right, [], []⟩
def d_law : He.DefD := ⟨("law", none), "law", "law", defArgs s_law, defBody s_law, defScope s_law, [], []⟩
def d_Thing_eq : He.DefD := ⟨("Thing", some "__eq__"), "__eq__", "Thing.__eq__", defArgs s_Thing_eq, defBody s_Thing_eq, defScope s_Thing_eq, [], []⟩
def d_Path_init : He.DefD := ⟨("Path", some "__init__"), "__init__", "Path.__init__", defArgs s_Path_init, defBody s_Path_init, defScope s_Path_init, [], []⟩
def d_Folder_init : He.DefD := ⟨("Folder", some "__init__"), "__init__", "Folder.__init__", defArgs s_Folder_init, defBody s_Folder_init, defScope s_Folder_init, [], []⟩
def d_File_init : He.DefD := ⟨("File", some "__init__"), "__init__", "File.__init__", defArgs s_File_init, defBody s_File_init, defScope s_File_init, [], []⟩
def d_Gone_init : He.DefD := ⟨("Gone", some "__init__"), "__init__", "Gone.__init__", defArgs s_Gone_init, defBody s_Gone_init, defScope s_Gone_init, [], []⟩
def d_Tree_init : He.DefD := ⟨("Tree", some "__init__"), "__init__", "Tree.__init__", defArgs s_Tree_init, defBody s_Tree_init, defScope s_Tree_init, [], []⟩
def d_Tree_folder_numbers : He.DefD := ⟨("Tree", some "folder_numbers"), "folder_numbers", "Tree.folder_numbers", defArgs s_Tree_folder_numbers, defBody s_Tree_folder_numbers, defScope s_Tree_folder_numbers, [], []⟩
def d_Tree_check_folders : He.DefD := ⟨("Tree", some "check_folders"), "check_folders", "Tree.check_folders", defArgs s_Tree_check_folders, defBody s_Tree_check_folders, defScope s_Tree_check_folders, [], []⟩
def d_MakeFolder_init : He.DefD := ⟨("MakeFolder", some "__init__"), "__init__", "MakeFolder.__init__", defArgs s_MakeFolder_init, defBody s_MakeFolder_init, defScope s_MakeFolder_init, [], []⟩
def d_MakeFile_init : He.DefD := ⟨("MakeFile", some "__init__"), "__init__", "MakeFile.__init__", defArgs s_MakeFile_init, defBody s_MakeFile_init, defScope s_MakeFile_init, [], []⟩
def d_Put_init : He.DefD := ⟨("Put", some "__init__"), "__init__", "Put.__init__", defArgs s_Put_init, defBody s_Put_init, defScope s_Put_init, [], []⟩
def d_Take_init : He.DefD := ⟨("Take", some "__init__"), "__init__", "Take.__init__", defArgs s_Take_init, defBody s_Take_init, defScope s_Take_init, [], []⟩
def d_Move_init : He.DefD := ⟨("Move", some "__init__"), "__init__", "Move.__init__", defArgs s_Move_init, defBody s_Move_init, defScope s_Move_init, [], []⟩
def d_Look_init : He.DefD := ⟨("Look", some "__init__"), "__init__", "Look.__init__", defArgs s_Look_init, defBody s_Look_init, defScope s_Look_init, [], []⟩
def d_Look_accepts_owner : He.DefD := ⟨("Look", some "accepts_owner"), "accepts_owner", "Look.accepts_owner", defArgs s_Look_accepts_owner, defBody s_Look_accepts_owner, defScope s_Look_accepts_owner, [], []⟩
def d_Came_init : He.DefD := ⟨("Came", some "__init__"), "__init__", "Came.__init__", defArgs s_Came_init, defBody s_Came_init, defScope s_Came_init, [], []⟩
def d_Came_class_name : He.DefD := ⟨("Came", some "class_name"), "class_name", "Came.class_name", defArgs s_Came_class_name, defBody s_Came_class_name, defScope s_Came_class_name, [], []⟩
def d_Came_facts : He.DefD := ⟨("Came", some "facts"), "facts", "Came.facts", defArgs s_Came_facts, defBody s_Came_facts, defScope s_Came_facts, [], []⟩
def d_Refused_init : He.DefD := ⟨("Refused", some "__init__"), "__init__", "Refused.__init__", defArgs s_Refused_init, defBody s_Refused_init, defScope s_Refused_init, [], []⟩
def d_Refused_class_name : He.DefD := ⟨("Refused", some "class_name"), "class_name", "Refused.class_name", defArgs s_Refused_class_name, defBody s_Refused_class_name, defScope s_Refused_class_name, [], []⟩
def d_Refused_facts : He.DefD := ⟨("Refused", some "facts"), "facts", "Refused.facts", defArgs s_Refused_facts, defBody s_Refused_facts, defScope s_Refused_facts, [], []⟩
def d_State_init : He.DefD := ⟨("State", some "__init__"), "__init__", "State.__init__", defArgs s_State_init, defBody s_State_init, defScope s_State_init, [], []⟩
def d_Climb_init : He.DefD := ⟨("Climb", some "__init__"), "__init__", "Climb.__init__", defArgs s_Climb_init, defBody s_Climb_init, defScope s_Climb_init, [], []⟩
def d_Climb_is_over : He.DefD := ⟨("Climb", some "is_over"), "is_over", "Climb.is_over", defArgs s_Climb_is_over, defBody s_Climb_is_over, defScope s_Climb_is_over, [], []⟩
def d_Climb_higher : He.DefD := ⟨("Climb", some "higher"), "higher", "Climb.higher", defArgs s_Climb_higher, defBody s_Climb_higher, defScope s_Climb_higher, [], []⟩
def d_Climb_outcome : He.DefD := ⟨("Climb", some "outcome"), "outcome", "Climb.outcome", defArgs s_Climb_outcome, defBody s_Climb_outcome, defScope s_Climb_outcome, [], []⟩
def fnl : List He.DefD := [d_is_number, d_is_name, d_read_path, d_path_text, d_is_owner, d_by_names, d_found_nodes, d_wrong_with_entries, d_wrong_with, d_check_node, d_is_place, d_check_place, d_node_at, d_entries_of, d_above, d_is_folder, d_is_below, d_made_node, d_wrong_names, d_is_leaf, d_wrong_move, d_wrong_deed, d_with_entry, d_without_entry, d_done, d_trees, d_first_state, d_seen_node, d_behind_node, d_look_once, d_ended, d_walk, d_check_numbers, d_looked_at, d_listing, d_listings, d_climb, d_whole_climb, d_climbs, d_Lcell, d_Lrng, d_Ldraw, d_Lpick, d_Lcopy, d_Labove, d_Lis_below, d_Ltaken, d_Ldone, d_Ldrawn_tree, d_Ldrawn_deed, d_Lrow, d_Ltree, d_Ldeed, d_Linner, d_Lvisit, d_Lbelow, d_Lstill_right, d_Lmoments_right, d_law, d_Thing_eq, d_Path_init, d_Folder_init, d_File_init, d_Gone_init, d_Tree_init, d_Tree_folder_numbers, d_Tree_check_folders, d_MakeFolder_init, d_MakeFile_init, d_Put_init, d_Take_init, d_Move_init, d_Look_init, d_Look_accepts_owner, d_Came_init, d_Came_class_name, d_Came_facts, d_Refused_init, d_Refused_class_name, d_Refused_facts, d_State_init, d_Climb_init, d_Climb_is_over, d_Climb_higher, d_Climb_outcome]
def fal : List He.Fa := [.glo "is_number",
  .glo "is_name",
  .glo "read_path",
  .glo "path_text",
  .glo "is_owner",
  .glo "by_names",
  .glo "found_nodes",
  .glo "wrong_with_entries",
  .glo "wrong_with",
  .glo "check_node",
  .glo "is_place",
  .glo "check_place",
  .glo "node_at",
  .glo "entries_of",
  .glo "above",
  .glo "is_folder",
  .glo "is_below",
  .glo "made_node",
  .glo "wrong_names",
  .glo "is_leaf",
  .glo "wrong_move",
  .glo "wrong_deed",
  .glo "with_entry",
  .glo "without_entry",
  .glo "done",
  .glo "trees",
  .glo "first_state",
  .glo "seen_node",
  .glo "behind_node",
  .glo "look_once",
  .glo "ended",
  .glo "walk",
  .glo "check_numbers",
  .glo "looked_at",
  .glo "listing",
  .glo "listings",
  .glo "climb",
  .glo "whole_climb",
  .glo "climbs",
  .glo "_law_cell",
  .glo "_law_rng",
  .glo "_law_draw",
  .glo "_law_pick",
  .glo "_law_copy",
  .glo "_law_above",
  .glo "_law_is_below",
  .glo "_law_taken",
  .glo "_law_done",
  .glo "_law_drawn_tree",
  .glo "_law_drawn_deed",
  .glo "_law_row",
  .glo "_law_tree",
  .glo "_law_deed",
  .glo "_law_inner",
  .glo "_law_visit",
  .glo "_law_below",
  .glo "_law_still_right",
  .glo "_law_moments_right",
  .glo "law",
  .glo "Thing",
  .glo "Path",
  .glo "Folder",
  .glo "File",
  .glo "Gone",
  .glo "Tree",
  .glo "MakeFolder",
  .glo "MakeFile",
  .glo "Put",
  .glo "Take",
  .glo "Move",
  .glo "Look",
  .glo "Came",
  .glo "Refused",
  .glo "State",
  .glo "Climb",
  .free "abs",
  .free "all",
  .free "bool",
  .free "dict",
  .free "enumerate",
  .free "int",
  .free "isinstance",
  .free "len",
  .free "list",
  .free "range",
  .free "sorted",
  .free "str",
  .free "sum",
  .free "tuple",
  .cls "Thing",
  .cls "Path",
  .mkr "Path",
  .noat "Path" "steps",
  .noat "Path" "absolute",
  .noat "Path" "folder",
  .cls "Folder",
  .mkr "Folder",
  .noat "Folder" "owner",
  .noat "Folder" "entries",
  .cls "File",
  .mkr "File",
  .noat "File" "owner",
  .cls "Gone",
  .mkr "Gone",
  .noat "Gone" "owner",
  .noat "Gone" "above",
  .cls "Tree",
  .mkr "Tree",
  .noat "Tree" "nodes",
  .cls "MakeFolder",
  .mkr "MakeFolder",
  .noat "MakeFolder" "folder",
  .noat "MakeFolder" "name",
  .noat "MakeFolder" "owner",
  .cls "MakeFile",
  .mkr "MakeFile",
  .noat "MakeFile" "folder",
  .noat "MakeFile" "name",
  .noat "MakeFile" "owner",
  .cls "Put",
  .mkr "Put",
  .noat "Put" "folder",
  .noat "Put" "name",
  .noat "Put" "node",
  .cls "Take",
  .mkr "Take",
  .noat "Take" "folder",
  .noat "Take" "name",
  .cls "Move",
  .mkr "Move",
  .noat "Move" "folder",
  .noat "Move" "name",
  .noat "Move" "goal",
  .noat "Move" "other",
  .cls "Look",
  .mkr "Look",
  .noat "Look" "follow",
  .noat "Look" "last",
  .noat "Look" "owners",
  .cls "Came",
  .mkr "Came",
  .noat "Came" "node",
  .cls "Refused",
  .mkr "Refused",
  .noat "Refused" "why",
  .cls "State",
  .mkr "State",
  .noat "State" "place",
  .noat "State" "steps",
  .noat "State" "links",
  .noat "State" "wanted",
  .cls "Climb",
  .mkr "Climb",
  .noat "Climb" "place",
  .noat "Climb" "names",
  .noat "Climb" "is_gone",
  .meth "Tree" "folder_numbers",
  .meth "Tree" "check_folders",
  .meth "Look" "accepts_owner",
  .meth "Came" "class_name",
  .meth "Came" "facts",
  .meth "Refused" "class_name",
  .meth "Refused" "facts",
  .meth "Climb" "is_over",
  .meth "Climb" "higher",
  .meth "Climb" "outcome",
  .int "MOST_LETTERS" 12,
  .int "MOST_LINKS" 8,
  .int "MOST_LISTED" 5000,
  .str "UP" "..",
  .str "HERE" ".",
  .str "LETTERS" "abcdefghijklmnopqrstuvwxyz0123456789_-."]
def names0 : List Str := ["_wall", "WalkError", "NoTree", "NoNode", "BadText", "NoPath", "NoOwner", "NoDeed", "NoRow", "NoWeaving", "Large", "Thing", "is_number", "UP", "HERE", "MOST_LETTERS", "LETTERS", "is_name", "Path", "read_path", "is_path_text", "path_text", "is_owner", "by_names", "found_nodes", "Folder", "File", "Link", "Gone", "wrong_with_entries"]
def names1 : List Str := ["wrong_with", "Tree", "check_node", "is_place", "check_place", "node_at", "entries_of", "above", "MakeFolder", "MakeFile", "MakeLink", "Put", "Take", "Move", "is_folder", "is_below", "made_node", "wrong_names", "is_leaf", "wrong_move", "wrong_deed", "with_entry", "without_entry", "done", "trees", "MOST_LINKS", "Look", "Came", "Refused", "State"]
def names2 : List Str := ["first_state", "seen_node", "behind_link", "behind_node", "look_once", "ended", "walk", "check_numbers", "MOST_LISTED", "looked_at", "listing", "listings", "Climb", "climb", "whole_climb", "climbs", "_law_cell", "_law_rng", "_law_draw", "_law_pick", "_law_copy", "_law_above", "_law_is_below", "_law_taken", "_law_done", "_law_drawn_tree", "_law_drawn_deed", "_law_row", "_law_tree", "_law_deed"]
def names3 : List Str := ["_law_inner", "_law_visit", "_law_below", "_law_still_right", "_law_moments_right"]
def namesl : List Str := names0 ++ names1 ++ names2 ++ names3
def lawAt : Nat := 105
end NW
set_option Elab.async false
set_option linter.all false
/-! KP: the plain trees, deeds, listings; no program in sight. -/
namespace NW
/-- a node: a folder (owner, entries by rank of their names), a file, a gone folder -/
inductive Nd where
  | fol (o : Int) (es : List (Nat × Nat))
  | fil (o : Int)
  | gon (o : Int) (ab : Nat)
abbrev Tr := List Nd
def Nd.own : Nd → Int
  | .fol o _ => o
  | .fil o => o
  | .gon o _ => o
def Nd.ents : Nd → List (Nat × Nat)
  | .fol _ es => es
  | _ => []
def Nd.isF : Nd → Bool
  | .fol _ _ => true
  | _ => false
def Nd.isG : Nd → Bool
  | .gon _ _ => true
  | _ => false
def ents (t : Tr) (i : Nat) : List (Nat × Nat) := match t[i]? with
  | some nd => nd.ents
  | none => []
def kids (t : Tr) (i : Nat) : List Nat := (ents t i).map (·.2)
def isF (t : Tr) (i : Nat) : Bool := match t[i]? with
  | some nd => nd.isF
  | none => false
def isG (t : Tr) (i : Nat) : Bool := match t[i]? with
  | some nd => nd.isG
  | none => false
def isP (t : Tr) (i : Nat) : Bool := isF t i || isG t i
/-! entries -/
def insE (k n : Nat) : List (Nat × Nat) → List (Nat × Nat)
  | [] => [(k, n)]
  | e :: r => if k < e.1 then (k, n) :: e :: r else e :: insE k n r
def delE (k : Nat) (es : List (Nat × Nat)) : List (Nat × Nat) := es.filter fun e => decide (e.1 ≠ k)
def lookE (k : Nat) (es : List (Nat × Nat)) : Option Nat := (es.find? fun e => decide (e.1 = k)).map (·.2)
def srtE : List (Nat × Nat) → List (Nat × Nat)
  | [] => []
  | e :: r => insE e.1 e.2 (srtE r)
def addEnt (t : Tr) (f k n : Nat) : Tr := match t[f]? with
  | some (.fol o es) => t.set f (.fol o (insE k n es))
  | _ => t
def delEnt (t : Tr) (f k : Nat) : Tr := match t[f]? with
  | some (.fol o es) => t.set f (.fol o (delE k es))
  | _ => t
def ownAt (t : Tr) (i : Nat) : Int := match t[i]? with
  | some nd => nd.own
  | none => 0
/-- x is top, or a folder that stands below it -/
inductive Bel (t : Tr) (top : Nat) : Nat → Prop where
  | refl : Bel t top top
  | step {f k x : Nat} : Bel t top f → (k, x) ∈ ents t f → isF t x = true → Bel t top x
/-- a folder, found from the root in so many steps -/
inductive Dep (t : Tr) : Nat → Nat → Prop where
  | root : Dep t 0 0
  | step {f k x d : Nat} : Dep t f d → (k, x) ∈ ents t f → isF t x = true → Dep t x (d + 1)
structure WF (t : Tr) : Prop where
  root : isF t 0 = true
  own : ∀ (i : Nat) (nd : Nd), t[i]? = some nd → 0 ≤ nd.own
  srt : ∀ i : Nat, (ents t i).Pairwise fun a b => a.1 < b.1
  ent : ∀ i k n : Nat, (k, n) ∈ ents t i → k < 4 ∧ 0 < n ∧ n < t.length ∧ isG t n = false
  gon : ∀ (i : Nat) (o : Int) (a : Nat), t[i]? = some (.gon o a) → a < t.length ∧ a ≠ i ∧ isP t a = true
  one : ∀ f k g j n : Nat, isF t n = true → (k, n) ∈ ents t f → (j, n) ∈ ents t g → f = g ∧ k = j
  dep : ∀ n : Nat, isF t n = true → ∃ d, Dep t n d
/-! deeds -/
inductive Dd where
  | mkF (f k : Nat) (o : Int)
  | mkL (f k : Nat) (o : Int)
  | put (f k n : Nat)
  | take (f k : Nat)
  | move (f k g j : Nat)
inductive Step (t : Tr) : Dd → Tr → Prop where
  | mkF {f k : Nat} {o : Int} : isF t f = true → k < 4 → 0 ≤ o → lookE k (ents t f) = none → Step t (.mkF f k o) (addEnt (t ++ [.fol o []]) f k t.length)
  | mkL {f k : Nat} {o : Int} : isF t f = true → k < 4 → 0 ≤ o → lookE k (ents t f) = none → Step t (.mkL f k o) (addEnt (t ++ [.fil o]) f k t.length)
  | put {f k n : Nat} {o : Int} : isF t f = true → k < 4 → t[n]? = some (.fil o) → lookE k (ents t f) = none → Step t (.put f k n) (addEnt t f k n)
  | takeF {f k n : Nat} {o : Int} : isF t f = true → k < 4 → lookE k (ents t f) = some n → t[n]? = some (.fol o []) → Step t (.take f k) ((delEnt t f k).set n (.gon o f))
  | takeL {f k n : Nat} {o : Int} : isF t f = true → k < 4 → lookE k (ents t f) = some n → t[n]? = some (.fil o) → Step t (.take f k) (delEnt t f k)
  | move {f k g j n : Nat} : isF t f = true → k < 4 → isF t g = true → j < 4 → lookE k (ents t f) = some n → lookE j (ents t g) = none → (isF t n = true → ¬ Bel t n g) → Step t (.move f k g j) (addEnt (delEnt t f k) g j n)
/-- the trees behind the first deeds -/
inductive Row : List Tr → List Dd → Prop where
  | one (t : Tr) : WF t → Row [t] []
  | cons {t t' : Tr} {d : Dd} {ts : List Tr} {ds : List Dd} : WF t → Step t d t' → Row (t' :: ts) ds → Row (t :: t' :: ts) (d :: ds)
/-! listings -/
def blw (t : Tr) : Nat → Nat → List Nat
  | 0, _ => []
  | s + 1, f => (kids t f).flatMap fun c => c :: blw t s c
/-- what stands below a folder, in order -/
def below (t : Tr) (f : Nat) : List Nat := blw t t.length f
def settle (pl : Nat → Bool) : List Nat → List Nat → List Nat × List Nat
  | N, [] => (N, [])
  | N, c :: W => if pl c = true then (N ++ [c], c :: W) else settle pl (N ++ [c]) W
def lastT (ts : List Tr) : Tr := ts.getLastD []
def plL (ts : List Tr) : Nat → Bool := isP (lastT ts)
def lookAt (ts : List Tr) (τ : Nat) (N W : List Nat) : List Nat × List Nat := settle (plL ts) N (kids (ts.getD τ []) (W.headD 0) ++ W.tail)
def run (ts : List Tr) : List Nat × List Nat → List Nat → Option (List Nat × List Nat)
  | s, [] => some s
  | (_, []), _ :: _ => none
  | (N, p :: r), τ :: τs => run ts (lookAt ts τ N (p :: r)) τs
/-- the visits of some nodes in order: the moments of their looks, what is noted -/
inductive VL (ts : List Tr) : List Nat → List Nat → List Nat → Prop where
  | nil : VL ts [] [] []
  | file {c : Nat} {cs τs V : List Nat} : plL ts c = false → VL ts cs τs V → VL ts (c :: cs) τs (c :: V)
  | place {c τ : Nat} {cs τs V τs' V' : List Nat} : plL ts c = true → VL ts (kids (ts.getD τ []) c) τs V → VL ts cs τs' V' → VL ts (c :: cs) (τ :: (τs ++ τs')) (c :: (V ++ V'))
/-! climbs -/
/-- the ranks of the names from the root to a folder -/
inductive Way (t : Tr) : Nat → List Nat → Prop where
  | root : Way t 0 []
  | step {f k x : Nat} {l : List Nat} : Way t f l → (k, x) ∈ ents t f → isF t x = true → Way t x (l ++ [k])
end NW
set_option Elab.async false
set_option linter.all false
set_option maxRecDepth 100000
set_option maxHeartbeats 1000000
/-! K1: the facts of the head by names, calls by names. -/
namespace NW
open PySem PySem.Spec PyProof.Rows L2
abbrev Frag := PySem.W.Frag
/-! further facts, as tests of the written part -/
def fIns (x : Str) : Frag → Bool := fun K => He.eqO (PySem.W.findIn K (.ref (He.ga K x)) "__class__") (some (some (.builtin "object.__class__"))) && decide (PySem.W.mroIn K (He.ga K x) (.type "object") = some true)
def fGen : Frag → Bool := fun K => decide (PySem.W.specialIn K (.builtin "object.__class__") "__get__" = some (some (.builtin "getset_descriptor.__get__"))) && decide (PySem.W.takesIn K (.builtin "object.__class__") = some true)
def fKit (x y : Str) (b : Bool) : Frag → Bool := fun K => decide (PySem.W.kitOne K (.ref (He.ga K x)) (.ref (He.ga K y)) = some b)
def fKitS (y : Str) (b : Bool) : Frag → Bool := fun K => decide (PySem.W.kitOne K (.type "str") (.ref (He.ga K y)) = some b)
def eqM (K : Frag) : Addr := He.ma K (He.ga K "Thing") "__eq__"
def fEq (x : Str) : Frag → Bool := fun K => He.eqO (PySem.W.findIn K (.ref (He.ga K x)) "__eq__") (some (some (.ref (eqM K)))) && He.eqO (PySem.W.findIn K (.ref (He.ga K x)) "__ne__") (some (some (.builtin "object.__ne__")))
def fEqF : Frag → Bool := fun K => PySem.W.isFn K (.ref (eqM K)) && PySem.W.keepIn K (.ref (eqM K))
def fGlo (x : Str) : Frag → Bool := fun K => He.eqO (PySem.W.nsIn K mainGlobals x) (some (some (.ref (He.ga K x))))
def nodeC : List Str := ["Folder", "File", "Gone"]
def deedC : List Str := ["MakeFolder", "MakeFile", "Put", "Take", "Move"]
def pairsF (xs ys : List Str) : List (Frag → Bool) := xs.flatMap fun x => ys.map fun y => fKit x y (decide (x = y))
def fbl : List (Frag → Bool) :=
  [fGen, fEqF, fKitS "Refused" false, fGlo "Link", fGlo "MakeLink"] ++ (nodeC ++ deedC ++ (["State", "Came", "Refused"] : List Str)).map fIns ++ (["Came", "Refused"] : List Str).map fEq ++
  [fKit "Came" "Thing" true, fKit "Refused" "Thing" true, fKit "State" "State" true, fKit "Came" "State" false, fKit "Refused" "State" false, fKit "Refused" "Refused" true] ++
  pairsF nodeC ["Folder", "File", "Gone", "Link"] ++ pairsF deedC ["MakeFolder", "MakeFile", "MakeLink", "Put", "Take", "Move"]
def obsN (K : Frag) : He.AlD := ((fal.all fun f => f.ok K) && ((fnl.all fun d => d.ok K) && fbl.all fun f => f K), fnl.map fun d => He.fnW K d.at_)
def valN : He.AlD := (true, fnl.map He.DefD.val)
/-- the written part, as the head leaves it -/
structure Txt (K : Frag) (mg : Str → Option Value) : Prop where
  says : obsN K = valN
  at_ : ∃ h : Heap, K.In h ∧ h.Ns mainGlobals mg
section
variable {K : Frag} {mg : Str → Option Value}
theorem Txt.all (T : Txt K mg) : (fal.all fun f => f.ok K) = true ∧ (fnl.all fun d => d.ok K) = true ∧ (fbl.all fun f => f K) = true := by
  have c1 : ((fal.all fun f => f.ok K) && ((fnl.all fun d => d.ok K) && fbl.all fun f => f K)) = true := congrArg (fun z : He.AlD => z.1) T.says
  obtain ⟨a, b⟩ := He.ba c1
  obtain ⟨b, c⟩ := He.ba b
  exact ⟨a, b, c⟩
theorem Txt.fact (T : Txt K mg) (i : Nat) {f : He.Fa} (h : fal[i]? = some f := by rfl) : f.ok K = true := List.all_eq_true.mp T.all.1 f (List.mem_of_getElem? h)
theorem Txt.more (T : Txt K mg) {f : Frag → Bool} (h : f ∈ fbl) : f K = true := List.all_eq_true.mp T.all.2.2 f h
theorem Txt.moreI (T : Txt K mg) (i : Nat) {f : Frag → Bool} (h : fbl[i]? = some f := by rfl) : f K = true := List.all_eq_true.mp T.all.2.2 f (List.mem_of_getElem? h)
theorem Txt.def_ (T : Txt K mg) (i : Nat) {d : He.DefD} (h : fnl[i]? = some d := by rfl) : ∃ fd, FunD K d.name d.qual d.params d.body d.scope (d.dvs K) (d.kws K) (He.fAd K d.at_) fd := by
  have e : fnl.map (fun d => He.fnW K d.at_) = fnl.map He.DefD.val := congrArg (fun z : He.AlD => z.2) T.says
  have e2 : (fnl.map fun d => He.fnW K d.at_)[i]? = (fnl.map He.DefD.val)[i]? := by rw [e]
  rw [List.getElem?_map, List.getElem?_map, h] at e2
  exact He.DefD.funD (Option.some.inj e2) (List.all_eq_true.mp T.all.2.1 d (List.mem_of_getElem? h))
theorem Txt.glo (T : Txt K mg) (i : Nat) {x : Str} (h : fal[i]? = some (.glo x) := by rfl) : mg x = some (.ref (He.ga K x)) := by
  obtain ⟨hp, X, G⟩ := T.at_
  exact He.glo_ok X G (T.fact i h)
theorem Txt.free (T : Txt K mg) (i : Nat) {x : Str} (h : fal[i]? = some (.free x) := by rfl) : mg x = none := by
  obtain ⟨hp, X, G⟩ := T.at_
  exact He.free_ok X G (T.fact i h)
theorem Txt.cint (T : Txt K mg) (i : Nat) {x : Str} {n : Int} (h : fal[i]? = some (.int x n) := by rfl) : ∃ t, mg x = some (.int n t) := by
  obtain ⟨hp, X, G⟩ := T.at_
  exact He.int_ok X G (T.fact i h)
theorem Txt.cstr (T : Txt K mg) (i : Nat) {x z : Str} (h : fal[i]? = some (.str x z) := by rfl) : ∃ t, mg x = some (.str z t) := by
  obtain ⟨hp, X, G⟩ := T.at_
  exact He.str_ok X G (T.fact i h)
theorem Txt.gloM (T : Txt K mg) (i : Nat) {x : Str} (h : fbl[i]? = some (fGlo x) := by rfl) : mg x = some (.ref (He.ga K x)) := by
  obtain ⟨hp, X, G⟩ := T.at_
  exact PySem.W.mg_of X G (He.eqO_ok (T.moreI i h))
end
/-! a def's promise, by its body -/
section
variable {P : Program} {w : World} {K : Frag} {mg : Str → Option Value} {base : Heap}
abbrev Cal := C8.Cal
abbrev Met := C8.Met
abbrev Mak := C8.Mak
abbrev Bnd (x qual : Str) (st : Stmt) (ps : List Str) : Prop := ∀ (kV doc pm : Value) (an : Option Addr) (cdv ct : Value) (us : List Value), us.length = ps.length →
  bindArgs (PySem.W.fnOf x qual (defArgs st) (defBody st) (defScope st) .none kV doc pm an cdv ct) ⟨us, []⟩ = pure (ps.zip us)
abbrev Bdy (P : Program) (w : World) (K : Frag) (mg : Str → Option Value) (base : Heap) (qual : Str) (st : Stmt) (f : Addr) (N : List Str) (k : Nat) (sp : Sp) : Prop :=
  ∀ (cdv : Value) (A : Around) (outer : List Env) (s : Shared) (H : Hp) (vs : List V) (Q : VK) (E : XK), Room k (A.deeper (envOfC qual (defScope st) s.heap.objs.size f cdv)) → sp vs H Q E →
    ∃ t, PSs (cxOf CX0 P w K mg base N qual (defScope st) f cdv A outer s H E).nox (defBody st) t ∧ t { nx := fun _ H' => Q .non H', rt := Q } (start N vs) H
theorem fn_ok {x qual : Str} {st : Stmt} {f : Addr} {fd : FuncData} {N ps : List Str} {k : Nat} {sp : Sp} (F : FunD K x qual (defArgs st) (defBody st) (defScope st) [] [] f fd) (S : FnScope N ps (defScope st)) (len : ∀ vs H Q E, sp vs H Q E → vs.length = ps.length)
    (body : Bdy P w K mg base qual st f N k sp) : FnOk P w K mg base CX0 (k + 1) f fd ps sp :=
  F.ok S len fun cdv A outer s H vs Q E hr h => let ⟨t, h1, h2⟩ := body cdv A outer s H vs Q E hr h; ⟨t, h1.nox, h2⟩
theorem cal {x : Str} {st : Stmt} {N ps : List Str} {k : Nat} {sp : Sp} (F : ∃ fd, FunD K x x (defArgs st) (defBody st) (defScope st) [] [] (He.ga K x) fd) (g : mg x = some (.ref (He.ga K x))) (S : FnScope N ps (defScope st)) (b : Bnd x x st ps)
    (len : ∀ vs H Q E, sp vs H Q E → vs.length = ps.length) (body : Bdy P w K mg base x st (He.ga K x) N k sp) : Cal P w K mg base (k + 1) x sp [] := by
  obtain ⟨fd, F⟩ := F
  exact ⟨_, fd, ps, [], fn_ok F S len body, g, F.kp, F.bindsN b, .nil⟩
theorem met {x m qual : Str} {st : Stmt} {N ps : List Str} {k : Nat} {sp : Sp} (F : ∃ fd, FunD K m qual (defArgs st) (defBody st) (defScope st) [] [] (He.ma K (He.ga K x) m) fd) (c : Cls K (He.ga K x)) (me : Meth K (He.ga K x) m (He.ma K (He.ga K x) m)) (S : FnScope N ps (defScope st)) (b : Bnd m qual st ps)
    (len : ∀ vs H Q E, sp vs H Q E → vs.length = ps.length) (body : Bdy P w K mg base qual st (He.ma K (He.ga K x) m) N k sp) : Met P w K mg base (k + 1) (He.ga K x) m sp [] := by
  obtain ⟨fd, F⟩ := F
  exact ⟨_, fd, ps, [], c, me, fn_ok F S len body, F.bindsN b, .nil⟩
theorem mak {x qual : Str} {st : Stmt} {N ps : List Str} {k : Nat} {sp : Sp} (F : ∃ fd, FunD K "__init__" qual (defArgs st) (defBody st) (defScope st) [] [] (He.ma K (He.ga K x) "__init__") fd) (M : Mk K (He.ga K x) (He.ma K (He.ga K x) "__init__")) (g : mg x = some (.ref (He.ga K x))) (S : FnScope N ps (defScope st)) (b : Bnd "__init__" qual st ps)
    (len : ∀ vs H Q E, sp vs H Q E → vs.length = ps.length) (body : Bdy P w K mg base qual st (He.ma K (He.ga K x) "__init__") N k sp) : Mak P w K mg base (k + 1) x (He.ga K x) sp [] := by
  obtain ⟨fd, F⟩ := F
  exact ⟨_, fd, ps, [], M, fn_ok F S len body, g, F.bindsN b, .nil⟩
theorem Calmono {j k : Nat} {x : Str} {sp : Sp} {dvs : List V} (c : Cal P w K mg base j x sp dvs) (h : j ≤ k) : Cal P w K mg base k x sp dvs := by
  obtain ⟨f, fd, ps, ds, F, r⟩ := c.ex
  exact ⟨f, fd, ps, ds, F.mono h, r⟩
theorem Calimp {k : Nat} {x : Str} {sp sp' : Sp} {dvs : List V} (c : Cal P w K mg base k x sp dvs) (h : ∀ vs H Q E, sp' vs H Q E → sp vs H Q E) : Cal P w K mg base k x sp' dvs := by
  obtain ⟨f, fd, ps, ds, F, r⟩ := c.ex
  exact ⟨f, fd, ps, ds, F.imp h, r⟩
end
end NW
set_option Elab.async false
set_option linter.all false
set_option maxRecDepth 100000
set_option maxHeartbeats 0
namespace NW
open PySem PySem.Spec PyProof.Rows L2
def as0 : List Addr := [3, 21, 20, 38, 37, 65, 64, 91, 90, 117, 116, 136, 135, 162, 161, 188, 187, 214, 213, 233, 232, 259, 258, 292, 291, 303, 302, 308, 307, 337, 336, 346, 345, 353, 352, 360, 359, 367, 366, 372, 371, 377, 376, 408, 407, 441, 440, 474, 473, 507, 506, 514, 513, 521, 520, 564, 563, 573, 572, 580, 579, 587, 586, 592, 591, 597, 596, 604, 603, 635, 634, 668, 667, 701, 700, 734, 733, 767, 766, 800, 799, 809, 808, 816, 815, 823, 822, 830, 829, 837, 836, 844, 843, 851, 850, 858, 857, 863, 862, 870, 869, 877, 876, 915, 914, 948, 947, 981, 980, 1014, 1013, 1023, 1022, 1030, 1029, 1037, 1036, 1044, 1043, 1051, 1050, 1058, 1057, 1065, 1064, 1072, 1071, 1077, 1076, 1084, 1083, 1089, 1088, 1127, 1126, 1138, 1137, 1145, 1144, 1150, 1149, 1157, 1156, 1164, 1163, 1171, 1170, 1178, 1177, 1183, 1182, 1188, 1187, 1195, 1194, 1202, 1201, 1209, 1208, 1214, 1213, 1219, 1218, 1226, 1225, 1233, 1232, 1240, 1239, 1245, 1244, 1252, 1251, 1259, 1258, 1264, 1263, 1269, 1268, 1274, 1273, 35, 34, 55, 54, 62, 61, 81, 80, 88, 87, 107, 106, 114, 113, 133, 132, 152, 151, 159, 158, 178, 177, 185, 184, 204, 203, 211, 210, 230, 229, 249, 248, 256, 255, 275, 274, 282, 281, 289, 288, 320, 319, 327, 326, 334, 333, 391, 390, 398, 397, 405, 404, 424, 423, 431, 430, 438, 437, 457, 456, 464, 463, 471, 470, 490, 489, 497, 496, 504, 503, 535, 534, 542, 541, 549, 548, 554, 553, 561, 560, 618, 617, 625, 624, 632, 631, 651, 650, 658, 657, 665, 664, 684, 683, 691, 690, 698, 697, 717, 716, 724, 723, 731, 730, 750, 749, 757, 756, 764, 763, 783, 782, 790, 789, 797, 796, 891, 890, 898, 897, 905, 904, 912, 911, 931, 930, 938, 937, 945, 944, 964, 963, 971, 970, 978, 977, 997, 996, 1004, 1003, 1011, 1010, 1103, 1102, 1110, 1109, 1117, 1116, 1124, 1123]
abbrev RW : PySem.W.OpenRow := PySem.W.OpenLaw.row PySem.Challenge.rw_namewalk_k99_whole_trees_listed_and_clim
abbrev qW : Program := PySem.W.view RW.prog [105]
noncomputable abbrev endW (w : World) (os : OsState) := HandSHeadRun.endF (HandSHeadRun.stepQ (HandSHeadRun.denQ HandSHeadRun.tabQ) RW.prog w) 20000 RW.prog w os
end NW
set_option Elab.async false
set_option linter.all false
set_option maxRecDepth 100000
set_option maxHeartbeats 0
namespace NW
open PySem PySem.Spec PyProof.Rows L2
theorem runF (w : World) : ∀ os : OsState, (endW w os).map (fun s => obsN (He.frG (HandSHeadRun.getT s) as0)) = some valN := by
  intro os
  kernel_rfl
end NW
set_option Elab.async false
set_option linter.all false
set_option maxRecDepth 100000
set_option maxHeartbeats 0
namespace NW
open PySem PySem.Spec PyProof.Rows L2
theorem runL (w : World) : ∀ os : OsState, (endW w os).map (fun s => (HandSHeadRun.looksF RW.prog (PySem.W.boot_heap w.params) s.abs, HandSHeadRun.seenQ qW namesl (PySem.importedModules RW.prog.main.body) (fun s => PySem.W.xlAt qW [] s && PySem.W.recOk RW.toRowW.records s) s.abs)) = some (true, PySem.W.openGood qW namesl) := by
  intro os
  kernel_rfl
end NW
set_option Elab.async false
set_option linter.all false
set_option maxRecDepth 100000
set_option maxHeartbeats 0
namespace NW
open PySem PySem.Spec PyProof.Rows L2
def hkW : PySem.W.Hook where
  α := He.AlD
  obs := fun s => obsN (He.frG s.heap.get? as0)
  val := fun _ => valN
  says := fun _ h => ∃ K : PySem.W.Frag, K.In h ∧ obsN K = valN
  of := fun _ _ e => ⟨_, He.frG_in, e⟩
  keeps := fun _ _ _ ⟨K, hK, c⟩ k => ⟨K, PySem.W.Frag.In.keeps hK k, c⟩
def obW (s : PySem.W.SharedT) : He.AlD := obsN (He.frG (HandSHeadRun.getT s) as0)
theorem obW_eq (s : PySem.W.SharedT) : obW s = hkW.obs s.abs := by
  have e : HandSHeadRun.getT s = s.abs.heap.get? := funext (HandSHeadRun.getT_eq s)
  show obsN (He.frG (HandSHeadRun.getT s) as0) = obsN (He.frG s.abs.heap.get? as0)
  rw [e]
theorem map_join {α β γ δ : Type} {o : Option α} {f : α → β} {g : α → γ} {h : α → δ} {b : β} {c : γ} {d : δ} (h1 : o.map (fun s => (f s, g s)) = some (b, c)) (h2 : o.map (fun s => h s) = some d) : o.map (fun s => (f s, g s, h s)) = some (b, c, d) := by
  cases o with
  | none => cases h1
  | some s =>
    have e1 := Option.some.inj h1
    have e2 : h s = d := Option.some.inj h2
    have e3 : f s = b := congrArg Prod.fst e1
    have e4 : g s = c := congrArg Prod.snd e1
    show some (f s, g s, h s) = _
    rw [e2, e3, e4]
theorem runW (w : World) : HandSHeadRun.RunEq RW qW hkW obW 20000 namesl w := fun os => map_join (runL w os) (runF w os)
end NW
set_option Elab.async false
set_option linter.all false
set_option maxRecDepth 100000
/-! K2: names for the facts. -/
namespace NW
open PySem PySem.Spec PyProof.Rows L2
section
variable {K : Frag} {mg : Str → Option Value}
theorem Txt.g_is_number (T : Txt K mg) : mg "is_number" = some (.ref (He.ga K "is_number")) := T.glo 0
theorem Txt.g_is_name (T : Txt K mg) : mg "is_name" = some (.ref (He.ga K "is_name")) := T.glo 1
theorem Txt.g_read_path (T : Txt K mg) : mg "read_path" = some (.ref (He.ga K "read_path")) := T.glo 2
theorem Txt.g_path_text (T : Txt K mg) : mg "path_text" = some (.ref (He.ga K "path_text")) := T.glo 3
theorem Txt.g_is_owner (T : Txt K mg) : mg "is_owner" = some (.ref (He.ga K "is_owner")) := T.glo 4
theorem Txt.g_by_names (T : Txt K mg) : mg "by_names" = some (.ref (He.ga K "by_names")) := T.glo 5
theorem Txt.g_found_nodes (T : Txt K mg) : mg "found_nodes" = some (.ref (He.ga K "found_nodes")) := T.glo 6
theorem Txt.g_wrong_with_entries (T : Txt K mg) : mg "wrong_with_entries" = some (.ref (He.ga K "wrong_with_entries")) := T.glo 7
theorem Txt.g_wrong_with (T : Txt K mg) : mg "wrong_with" = some (.ref (He.ga K "wrong_with")) := T.glo 8
theorem Txt.g_check_node (T : Txt K mg) : mg "check_node" = some (.ref (He.ga K "check_node")) := T.glo 9
theorem Txt.g_is_place (T : Txt K mg) : mg "is_place" = some (.ref (He.ga K "is_place")) := T.glo 10
theorem Txt.g_check_place (T : Txt K mg) : mg "check_place" = some (.ref (He.ga K "check_place")) := T.glo 11
theorem Txt.g_node_at (T : Txt K mg) : mg "node_at" = some (.ref (He.ga K "node_at")) := T.glo 12
theorem Txt.g_entries_of (T : Txt K mg) : mg "entries_of" = some (.ref (He.ga K "entries_of")) := T.glo 13
theorem Txt.g_above (T : Txt K mg) : mg "above" = some (.ref (He.ga K "above")) := T.glo 14
theorem Txt.g_is_folder (T : Txt K mg) : mg "is_folder" = some (.ref (He.ga K "is_folder")) := T.glo 15
theorem Txt.g_is_below (T : Txt K mg) : mg "is_below" = some (.ref (He.ga K "is_below")) := T.glo 16
theorem Txt.g_made_node (T : Txt K mg) : mg "made_node" = some (.ref (He.ga K "made_node")) := T.glo 17
theorem Txt.g_wrong_names (T : Txt K mg) : mg "wrong_names" = some (.ref (He.ga K "wrong_names")) := T.glo 18
theorem Txt.g_is_leaf (T : Txt K mg) : mg "is_leaf" = some (.ref (He.ga K "is_leaf")) := T.glo 19
theorem Txt.g_wrong_move (T : Txt K mg) : mg "wrong_move" = some (.ref (He.ga K "wrong_move")) := T.glo 20
theorem Txt.g_wrong_deed (T : Txt K mg) : mg "wrong_deed" = some (.ref (He.ga K "wrong_deed")) := T.glo 21
theorem Txt.g_with_entry (T : Txt K mg) : mg "with_entry" = some (.ref (He.ga K "with_entry")) := T.glo 22
theorem Txt.g_without_entry (T : Txt K mg) : mg "without_entry" = some (.ref (He.ga K "without_entry")) := T.glo 23
theorem Txt.g_done (T : Txt K mg) : mg "done" = some (.ref (He.ga K "done")) := T.glo 24
theorem Txt.g_trees (T : Txt K mg) : mg "trees" = some (.ref (He.ga K "trees")) := T.glo 25
theorem Txt.g_first_state (T : Txt K mg) : mg "first_state" = some (.ref (He.ga K "first_state")) := T.glo 26
theorem Txt.g_seen_node (T : Txt K mg) : mg "seen_node" = some (.ref (He.ga K "seen_node")) := T.glo 27
theorem Txt.g_behind_node (T : Txt K mg) : mg "behind_node" = some (.ref (He.ga K "behind_node")) := T.glo 28
theorem Txt.g_look_once (T : Txt K mg) : mg "look_once" = some (.ref (He.ga K "look_once")) := T.glo 29
theorem Txt.g_ended (T : Txt K mg) : mg "ended" = some (.ref (He.ga K "ended")) := T.glo 30
theorem Txt.g_walk (T : Txt K mg) : mg "walk" = some (.ref (He.ga K "walk")) := T.glo 31
theorem Txt.g_check_numbers (T : Txt K mg) : mg "check_numbers" = some (.ref (He.ga K "check_numbers")) := T.glo 32
theorem Txt.g_looked_at (T : Txt K mg) : mg "looked_at" = some (.ref (He.ga K "looked_at")) := T.glo 33
theorem Txt.g_listing (T : Txt K mg) : mg "listing" = some (.ref (He.ga K "listing")) := T.glo 34
theorem Txt.g_listings (T : Txt K mg) : mg "listings" = some (.ref (He.ga K "listings")) := T.glo 35
theorem Txt.g_climb (T : Txt K mg) : mg "climb" = some (.ref (He.ga K "climb")) := T.glo 36
theorem Txt.g_whole_climb (T : Txt K mg) : mg "whole_climb" = some (.ref (He.ga K "whole_climb")) := T.glo 37
theorem Txt.g_climbs (T : Txt K mg) : mg "climbs" = some (.ref (He.ga K "climbs")) := T.glo 38
theorem Txt.g_Lcell (T : Txt K mg) : mg "_law_cell" = some (.ref (He.ga K "_law_cell")) := T.glo 39
theorem Txt.g_Lrng (T : Txt K mg) : mg "_law_rng" = some (.ref (He.ga K "_law_rng")) := T.glo 40
theorem Txt.g_Ldraw (T : Txt K mg) : mg "_law_draw" = some (.ref (He.ga K "_law_draw")) := T.glo 41
theorem Txt.g_Lpick (T : Txt K mg) : mg "_law_pick" = some (.ref (He.ga K "_law_pick")) := T.glo 42
theorem Txt.g_Lcopy (T : Txt K mg) : mg "_law_copy" = some (.ref (He.ga K "_law_copy")) := T.glo 43
theorem Txt.g_Labove (T : Txt K mg) : mg "_law_above" = some (.ref (He.ga K "_law_above")) := T.glo 44
theorem Txt.g_Lis_below (T : Txt K mg) : mg "_law_is_below" = some (.ref (He.ga K "_law_is_below")) := T.glo 45
theorem Txt.g_Ltaken (T : Txt K mg) : mg "_law_taken" = some (.ref (He.ga K "_law_taken")) := T.glo 46
theorem Txt.g_Ldone (T : Txt K mg) : mg "_law_done" = some (.ref (He.ga K "_law_done")) := T.glo 47
theorem Txt.g_Ldrawn_tree (T : Txt K mg) : mg "_law_drawn_tree" = some (.ref (He.ga K "_law_drawn_tree")) := T.glo 48
theorem Txt.g_Ldrawn_deed (T : Txt K mg) : mg "_law_drawn_deed" = some (.ref (He.ga K "_law_drawn_deed")) := T.glo 49
theorem Txt.g_Lrow (T : Txt K mg) : mg "_law_row" = some (.ref (He.ga K "_law_row")) := T.glo 50
theorem Txt.g_Ltree (T : Txt K mg) : mg "_law_tree" = some (.ref (He.ga K "_law_tree")) := T.glo 51
theorem Txt.g_Ldeed (T : Txt K mg) : mg "_law_deed" = some (.ref (He.ga K "_law_deed")) := T.glo 52
theorem Txt.g_Linner (T : Txt K mg) : mg "_law_inner" = some (.ref (He.ga K "_law_inner")) := T.glo 53
theorem Txt.g_Lvisit (T : Txt K mg) : mg "_law_visit" = some (.ref (He.ga K "_law_visit")) := T.glo 54
theorem Txt.g_Lbelow (T : Txt K mg) : mg "_law_below" = some (.ref (He.ga K "_law_below")) := T.glo 55
theorem Txt.g_Lstill_right (T : Txt K mg) : mg "_law_still_right" = some (.ref (He.ga K "_law_still_right")) := T.glo 56
theorem Txt.g_Lmoments_right (T : Txt K mg) : mg "_law_moments_right" = some (.ref (He.ga K "_law_moments_right")) := T.glo 57
theorem Txt.g_law (T : Txt K mg) : mg "law" = some (.ref (He.ga K "law")) := T.glo 58
theorem Txt.g_Thing (T : Txt K mg) : mg "Thing" = some (.ref (He.ga K "Thing")) := T.glo 59
theorem Txt.g_Path (T : Txt K mg) : mg "Path" = some (.ref (He.ga K "Path")) := T.glo 60
theorem Txt.g_Folder (T : Txt K mg) : mg "Folder" = some (.ref (He.ga K "Folder")) := T.glo 61
theorem Txt.g_File (T : Txt K mg) : mg "File" = some (.ref (He.ga K "File")) := T.glo 62
theorem Txt.g_Gone (T : Txt K mg) : mg "Gone" = some (.ref (He.ga K "Gone")) := T.glo 63
theorem Txt.g_Tree (T : Txt K mg) : mg "Tree" = some (.ref (He.ga K "Tree")) := T.glo 64
theorem Txt.g_MakeFolder (T : Txt K mg) : mg "MakeFolder" = some (.ref (He.ga K "MakeFolder")) := T.glo 65
theorem Txt.g_MakeFile (T : Txt K mg) : mg "MakeFile" = some (.ref (He.ga K "MakeFile")) := T.glo 66
theorem Txt.g_Put (T : Txt K mg) : mg "Put" = some (.ref (He.ga K "Put")) := T.glo 67
theorem Txt.g_Take (T : Txt K mg) : mg "Take" = some (.ref (He.ga K "Take")) := T.glo 68
theorem Txt.g_Move (T : Txt K mg) : mg "Move" = some (.ref (He.ga K "Move")) := T.glo 69
theorem Txt.g_Look (T : Txt K mg) : mg "Look" = some (.ref (He.ga K "Look")) := T.glo 70
theorem Txt.g_Came (T : Txt K mg) : mg "Came" = some (.ref (He.ga K "Came")) := T.glo 71
theorem Txt.g_Refused (T : Txt K mg) : mg "Refused" = some (.ref (He.ga K "Refused")) := T.glo 72
theorem Txt.g_State (T : Txt K mg) : mg "State" = some (.ref (He.ga K "State")) := T.glo 73
theorem Txt.g_Climb (T : Txt K mg) : mg "Climb" = some (.ref (He.ga K "Climb")) := T.glo 74
theorem Txt.n_abs (T : Txt K mg) : mg "abs" = none := T.free 75
theorem Txt.n_all (T : Txt K mg) : mg "all" = none := T.free 76
theorem Txt.n_bool (T : Txt K mg) : mg "bool" = none := T.free 77
theorem Txt.n_dict (T : Txt K mg) : mg "dict" = none := T.free 78
theorem Txt.n_enumerate (T : Txt K mg) : mg "enumerate" = none := T.free 79
theorem Txt.n_int (T : Txt K mg) : mg "int" = none := T.free 80
theorem Txt.n_isinstance (T : Txt K mg) : mg "isinstance" = none := T.free 81
theorem Txt.n_len (T : Txt K mg) : mg "len" = none := T.free 82
theorem Txt.n_list (T : Txt K mg) : mg "list" = none := T.free 83
theorem Txt.n_range (T : Txt K mg) : mg "range" = none := T.free 84
theorem Txt.n_sorted (T : Txt K mg) : mg "sorted" = none := T.free 85
theorem Txt.n_str (T : Txt K mg) : mg "str" = none := T.free 86
theorem Txt.n_sum (T : Txt K mg) : mg "sum" = none := T.free 87
theorem Txt.n_tuple (T : Txt K mg) : mg "tuple" = none := T.free 88
theorem Txt.c_Thing (T : Txt K mg) : Cls K (He.ga K "Thing") := He.cls_ok (T.fact 89 (f := .cls "Thing"))
theorem Txt.c_Path (T : Txt K mg) : Cls K (He.ga K "Path") := He.cls_ok (T.fact 90 (f := .cls "Path"))
theorem Txt.k_Path (T : Txt K mg) : Mk K (He.ga K "Path") (He.ma K (He.ga K "Path") "__init__") := He.mkr_ok (T.fact 91 (f := .mkr "Path"))
theorem Txt.a_Path_steps (T : Txt K mg) : NoAttr K (He.ga K "Path") "steps" := He.noat_ok (T.fact 92 (f := .noat "Path" "steps"))
theorem Txt.a_Path_absolute (T : Txt K mg) : NoAttr K (He.ga K "Path") "absolute" := He.noat_ok (T.fact 93 (f := .noat "Path" "absolute"))
theorem Txt.a_Path_folder (T : Txt K mg) : NoAttr K (He.ga K "Path") "folder" := He.noat_ok (T.fact 94 (f := .noat "Path" "folder"))
theorem Txt.c_Folder (T : Txt K mg) : Cls K (He.ga K "Folder") := He.cls_ok (T.fact 95 (f := .cls "Folder"))
theorem Txt.k_Folder (T : Txt K mg) : Mk K (He.ga K "Folder") (He.ma K (He.ga K "Folder") "__init__") := He.mkr_ok (T.fact 96 (f := .mkr "Folder"))
theorem Txt.a_Folder_owner (T : Txt K mg) : NoAttr K (He.ga K "Folder") "owner" := He.noat_ok (T.fact 97 (f := .noat "Folder" "owner"))
theorem Txt.a_Folder_entries (T : Txt K mg) : NoAttr K (He.ga K "Folder") "entries" := He.noat_ok (T.fact 98 (f := .noat "Folder" "entries"))
theorem Txt.c_File (T : Txt K mg) : Cls K (He.ga K "File") := He.cls_ok (T.fact 99 (f := .cls "File"))
theorem Txt.k_File (T : Txt K mg) : Mk K (He.ga K "File") (He.ma K (He.ga K "File") "__init__") := He.mkr_ok (T.fact 100 (f := .mkr "File"))
theorem Txt.a_File_owner (T : Txt K mg) : NoAttr K (He.ga K "File") "owner" := He.noat_ok (T.fact 101 (f := .noat "File" "owner"))
theorem Txt.c_Gone (T : Txt K mg) : Cls K (He.ga K "Gone") := He.cls_ok (T.fact 102 (f := .cls "Gone"))
theorem Txt.k_Gone (T : Txt K mg) : Mk K (He.ga K "Gone") (He.ma K (He.ga K "Gone") "__init__") := He.mkr_ok (T.fact 103 (f := .mkr "Gone"))
theorem Txt.a_Gone_owner (T : Txt K mg) : NoAttr K (He.ga K "Gone") "owner" := He.noat_ok (T.fact 104 (f := .noat "Gone" "owner"))
theorem Txt.a_Gone_above (T : Txt K mg) : NoAttr K (He.ga K "Gone") "above" := He.noat_ok (T.fact 105 (f := .noat "Gone" "above"))
theorem Txt.c_Tree (T : Txt K mg) : Cls K (He.ga K "Tree") := He.cls_ok (T.fact 106 (f := .cls "Tree"))
theorem Txt.k_Tree (T : Txt K mg) : Mk K (He.ga K "Tree") (He.ma K (He.ga K "Tree") "__init__") := He.mkr_ok (T.fact 107 (f := .mkr "Tree"))
theorem Txt.a_Tree_nodes (T : Txt K mg) : NoAttr K (He.ga K "Tree") "nodes" := He.noat_ok (T.fact 108 (f := .noat "Tree" "nodes"))
theorem Txt.c_MakeFolder (T : Txt K mg) : Cls K (He.ga K "MakeFolder") := He.cls_ok (T.fact 109 (f := .cls "MakeFolder"))
theorem Txt.k_MakeFolder (T : Txt K mg) : Mk K (He.ga K "MakeFolder") (He.ma K (He.ga K "MakeFolder") "__init__") := He.mkr_ok (T.fact 110 (f := .mkr "MakeFolder"))
theorem Txt.a_MakeFolder_folder (T : Txt K mg) : NoAttr K (He.ga K "MakeFolder") "folder" := He.noat_ok (T.fact 111 (f := .noat "MakeFolder" "folder"))
theorem Txt.a_MakeFolder_name (T : Txt K mg) : NoAttr K (He.ga K "MakeFolder") "name" := He.noat_ok (T.fact 112 (f := .noat "MakeFolder" "name"))
theorem Txt.a_MakeFolder_owner (T : Txt K mg) : NoAttr K (He.ga K "MakeFolder") "owner" := He.noat_ok (T.fact 113 (f := .noat "MakeFolder" "owner"))
theorem Txt.c_MakeFile (T : Txt K mg) : Cls K (He.ga K "MakeFile") := He.cls_ok (T.fact 114 (f := .cls "MakeFile"))
theorem Txt.k_MakeFile (T : Txt K mg) : Mk K (He.ga K "MakeFile") (He.ma K (He.ga K "MakeFile") "__init__") := He.mkr_ok (T.fact 115 (f := .mkr "MakeFile"))
theorem Txt.a_MakeFile_folder (T : Txt K mg) : NoAttr K (He.ga K "MakeFile") "folder" := He.noat_ok (T.fact 116 (f := .noat "MakeFile" "folder"))
theorem Txt.a_MakeFile_name (T : Txt K mg) : NoAttr K (He.ga K "MakeFile") "name" := He.noat_ok (T.fact 117 (f := .noat "MakeFile" "name"))
theorem Txt.a_MakeFile_owner (T : Txt K mg) : NoAttr K (He.ga K "MakeFile") "owner" := He.noat_ok (T.fact 118 (f := .noat "MakeFile" "owner"))
theorem Txt.c_Put (T : Txt K mg) : Cls K (He.ga K "Put") := He.cls_ok (T.fact 119 (f := .cls "Put"))
theorem Txt.k_Put (T : Txt K mg) : Mk K (He.ga K "Put") (He.ma K (He.ga K "Put") "__init__") := He.mkr_ok (T.fact 120 (f := .mkr "Put"))
theorem Txt.a_Put_folder (T : Txt K mg) : NoAttr K (He.ga K "Put") "folder" := He.noat_ok (T.fact 121 (f := .noat "Put" "folder"))
theorem Txt.a_Put_name (T : Txt K mg) : NoAttr K (He.ga K "Put") "name" := He.noat_ok (T.fact 122 (f := .noat "Put" "name"))
theorem Txt.a_Put_node (T : Txt K mg) : NoAttr K (He.ga K "Put") "node" := He.noat_ok (T.fact 123 (f := .noat "Put" "node"))
theorem Txt.c_Take (T : Txt K mg) : Cls K (He.ga K "Take") := He.cls_ok (T.fact 124 (f := .cls "Take"))
theorem Txt.k_Take (T : Txt K mg) : Mk K (He.ga K "Take") (He.ma K (He.ga K "Take") "__init__") := He.mkr_ok (T.fact 125 (f := .mkr "Take"))
theorem Txt.a_Take_folder (T : Txt K mg) : NoAttr K (He.ga K "Take") "folder" := He.noat_ok (T.fact 126 (f := .noat "Take" "folder"))
theorem Txt.a_Take_name (T : Txt K mg) : NoAttr K (He.ga K "Take") "name" := He.noat_ok (T.fact 127 (f := .noat "Take" "name"))
theorem Txt.c_Move (T : Txt K mg) : Cls K (He.ga K "Move") := He.cls_ok (T.fact 128 (f := .cls "Move"))
theorem Txt.k_Move (T : Txt K mg) : Mk K (He.ga K "Move") (He.ma K (He.ga K "Move") "__init__") := He.mkr_ok (T.fact 129 (f := .mkr "Move"))
theorem Txt.a_Move_folder (T : Txt K mg) : NoAttr K (He.ga K "Move") "folder" := He.noat_ok (T.fact 130 (f := .noat "Move" "folder"))
theorem Txt.a_Move_name (T : Txt K mg) : NoAttr K (He.ga K "Move") "name" := He.noat_ok (T.fact 131 (f := .noat "Move" "name"))
theorem Txt.a_Move_goal (T : Txt K mg) : NoAttr K (He.ga K "Move") "goal" := He.noat_ok (T.fact 132 (f := .noat "Move" "goal"))
theorem Txt.a_Move_other (T : Txt K mg) : NoAttr K (He.ga K "Move") "other" := He.noat_ok (T.fact 133 (f := .noat "Move" "other"))
theorem Txt.c_Look (T : Txt K mg) : Cls K (He.ga K "Look") := He.cls_ok (T.fact 134 (f := .cls "Look"))
theorem Txt.k_Look (T : Txt K mg) : Mk K (He.ga K "Look") (He.ma K (He.ga K "Look") "__init__") := He.mkr_ok (T.fact 135 (f := .mkr "Look"))
theorem Txt.a_Look_follow (T : Txt K mg) : NoAttr K (He.ga K "Look") "follow" := He.noat_ok (T.fact 136 (f := .noat "Look" "follow"))
theorem Txt.a_Look_last (T : Txt K mg) : NoAttr K (He.ga K "Look") "last" := He.noat_ok (T.fact 137 (f := .noat "Look" "last"))
theorem Txt.a_Look_owners (T : Txt K mg) : NoAttr K (He.ga K "Look") "owners" := He.noat_ok (T.fact 138 (f := .noat "Look" "owners"))
theorem Txt.c_Came (T : Txt K mg) : Cls K (He.ga K "Came") := He.cls_ok (T.fact 139 (f := .cls "Came"))
theorem Txt.k_Came (T : Txt K mg) : Mk K (He.ga K "Came") (He.ma K (He.ga K "Came") "__init__") := He.mkr_ok (T.fact 140 (f := .mkr "Came"))
theorem Txt.a_Came_node (T : Txt K mg) : NoAttr K (He.ga K "Came") "node" := He.noat_ok (T.fact 141 (f := .noat "Came" "node"))
theorem Txt.c_Refused (T : Txt K mg) : Cls K (He.ga K "Refused") := He.cls_ok (T.fact 142 (f := .cls "Refused"))
theorem Txt.k_Refused (T : Txt K mg) : Mk K (He.ga K "Refused") (He.ma K (He.ga K "Refused") "__init__") := He.mkr_ok (T.fact 143 (f := .mkr "Refused"))
theorem Txt.a_Refused_why (T : Txt K mg) : NoAttr K (He.ga K "Refused") "why" := He.noat_ok (T.fact 144 (f := .noat "Refused" "why"))
theorem Txt.c_State (T : Txt K mg) : Cls K (He.ga K "State") := He.cls_ok (T.fact 145 (f := .cls "State"))
theorem Txt.k_State (T : Txt K mg) : Mk K (He.ga K "State") (He.ma K (He.ga K "State") "__init__") := He.mkr_ok (T.fact 146 (f := .mkr "State"))
theorem Txt.a_State_place (T : Txt K mg) : NoAttr K (He.ga K "State") "place" := He.noat_ok (T.fact 147 (f := .noat "State" "place"))
theorem Txt.a_State_steps (T : Txt K mg) : NoAttr K (He.ga K "State") "steps" := He.noat_ok (T.fact 148 (f := .noat "State" "steps"))
theorem Txt.a_State_links (T : Txt K mg) : NoAttr K (He.ga K "State") "links" := He.noat_ok (T.fact 149 (f := .noat "State" "links"))
theorem Txt.a_State_wanted (T : Txt K mg) : NoAttr K (He.ga K "State") "wanted" := He.noat_ok (T.fact 150 (f := .noat "State" "wanted"))
theorem Txt.c_Climb (T : Txt K mg) : Cls K (He.ga K "Climb") := He.cls_ok (T.fact 151 (f := .cls "Climb"))
theorem Txt.k_Climb (T : Txt K mg) : Mk K (He.ga K "Climb") (He.ma K (He.ga K "Climb") "__init__") := He.mkr_ok (T.fact 152 (f := .mkr "Climb"))
theorem Txt.a_Climb_place (T : Txt K mg) : NoAttr K (He.ga K "Climb") "place" := He.noat_ok (T.fact 153 (f := .noat "Climb" "place"))
theorem Txt.a_Climb_names (T : Txt K mg) : NoAttr K (He.ga K "Climb") "names" := He.noat_ok (T.fact 154 (f := .noat "Climb" "names"))
theorem Txt.a_Climb_is_gone (T : Txt K mg) : NoAttr K (He.ga K "Climb") "is_gone" := He.noat_ok (T.fact 155 (f := .noat "Climb" "is_gone"))
theorem Txt.e_Tree_folder_numbers (T : Txt K mg) : Meth K (He.ga K "Tree") "folder_numbers" (He.ma K (He.ga K "Tree") "folder_numbers") := He.meth_ok (T.fact 156 (f := .meth "Tree" "folder_numbers"))
theorem Txt.e_Tree_check_folders (T : Txt K mg) : Meth K (He.ga K "Tree") "check_folders" (He.ma K (He.ga K "Tree") "check_folders") := He.meth_ok (T.fact 157 (f := .meth "Tree" "check_folders"))
theorem Txt.e_Look_accepts_owner (T : Txt K mg) : Meth K (He.ga K "Look") "accepts_owner" (He.ma K (He.ga K "Look") "accepts_owner") := He.meth_ok (T.fact 158 (f := .meth "Look" "accepts_owner"))
theorem Txt.e_Came_class_name (T : Txt K mg) : Meth K (He.ga K "Came") "class_name" (He.ma K (He.ga K "Came") "class_name") := He.meth_ok (T.fact 159 (f := .meth "Came" "class_name"))
theorem Txt.e_Came_facts (T : Txt K mg) : Meth K (He.ga K "Came") "facts" (He.ma K (He.ga K "Came") "facts") := He.meth_ok (T.fact 160 (f := .meth "Came" "facts"))
theorem Txt.e_Refused_class_name (T : Txt K mg) : Meth K (He.ga K "Refused") "class_name" (He.ma K (He.ga K "Refused") "class_name") := He.meth_ok (T.fact 161 (f := .meth "Refused" "class_name"))
theorem Txt.e_Refused_facts (T : Txt K mg) : Meth K (He.ga K "Refused") "facts" (He.ma K (He.ga K "Refused") "facts") := He.meth_ok (T.fact 162 (f := .meth "Refused" "facts"))
theorem Txt.e_Climb_is_over (T : Txt K mg) : Meth K (He.ga K "Climb") "is_over" (He.ma K (He.ga K "Climb") "is_over") := He.meth_ok (T.fact 163 (f := .meth "Climb" "is_over"))
theorem Txt.e_Climb_higher (T : Txt K mg) : Meth K (He.ga K "Climb") "higher" (He.ma K (He.ga K "Climb") "higher") := He.meth_ok (T.fact 164 (f := .meth "Climb" "higher"))
theorem Txt.e_Climb_outcome (T : Txt K mg) : Meth K (He.ga K "Climb") "outcome" (He.ma K (He.ga K "Climb") "outcome") := He.meth_ok (T.fact 165 (f := .meth "Climb" "outcome"))
theorem Txt.v_MOST_LETTERS (T : Txt K mg) : ∃ u, mg "MOST_LETTERS" = some u ∧ RelV (.int 12) u := let ⟨t, h⟩ := T.cint 166 (x := "MOST_LETTERS") (n := 12); ⟨_, h, t, rfl⟩
theorem Txt.v_MOST_LINKS (T : Txt K mg) : ∃ u, mg "MOST_LINKS" = some u ∧ RelV (.int 8) u := let ⟨t, h⟩ := T.cint 167 (x := "MOST_LINKS") (n := 8); ⟨_, h, t, rfl⟩
theorem Txt.v_MOST_LISTED (T : Txt K mg) : ∃ u, mg "MOST_LISTED" = some u ∧ RelV (.int 5000) u := let ⟨t, h⟩ := T.cint 168 (x := "MOST_LISTED") (n := 5000); ⟨_, h, t, rfl⟩
theorem Txt.v_UP (T : Txt K mg) : ∃ u, mg "UP" = some u ∧ RelV (.str "..") u := let ⟨t, h⟩ := T.cstr 169 (x := "UP") (z := ".."); ⟨_, h, t, rfl⟩
theorem Txt.v_HERE (T : Txt K mg) : ∃ u, mg "HERE" = some u ∧ RelV (.str ".") u := let ⟨t, h⟩ := T.cstr 170 (x := "HERE") (z := "."); ⟨_, h, t, rfl⟩
theorem Txt.v_LETTERS (T : Txt K mg) : ∃ u, mg "LETTERS" = some u ∧ RelV (.str "abcdefghijklmnopqrstuvwxyz0123456789_-.") u := let ⟨t, h⟩ := T.cstr 171 (x := "LETTERS") (z := "abcdefghijklmnopqrstuvwxyz0123456789_-."); ⟨_, h, t, rfl⟩
theorem Txt.f_is_number (T : Txt K mg) : ∃ fd, FunD K "is_number" "is_number" (defArgs s_is_number) (defBody s_is_number) (defScope s_is_number) [] [] (He.ga K "is_number") fd := T.def_ 0 (d := d_is_number)
theorem Txt.f_is_name (T : Txt K mg) : ∃ fd, FunD K "is_name" "is_name" (defArgs s_is_name) (defBody s_is_name) (defScope s_is_name) [] [] (He.ga K "is_name") fd := T.def_ 1 (d := d_is_name)
theorem Txt.f_read_path (T : Txt K mg) : ∃ fd, FunD K "read_path" "read_path" (defArgs s_read_path) (defBody s_read_path) (defScope s_read_path) [] [] (He.ga K "read_path") fd := T.def_ 2 (d := d_read_path)
theorem Txt.f_path_text (T : Txt K mg) : ∃ fd, FunD K "path_text" "path_text" (defArgs s_path_text) (defBody s_path_text) (defScope s_path_text) [] [] (He.ga K "path_text") fd := T.def_ 3 (d := d_path_text)
theorem Txt.f_is_owner (T : Txt K mg) : ∃ fd, FunD K "is_owner" "is_owner" (defArgs s_is_owner) (defBody s_is_owner) (defScope s_is_owner) [] [] (He.ga K "is_owner") fd := T.def_ 4 (d := d_is_owner)
theorem Txt.f_by_names (T : Txt K mg) : ∃ fd, FunD K "by_names" "by_names" (defArgs s_by_names) (defBody s_by_names) (defScope s_by_names) [] [] (He.ga K "by_names") fd := T.def_ 5 (d := d_by_names)
theorem Txt.f_found_nodes (T : Txt K mg) : ∃ fd, FunD K "found_nodes" "found_nodes" (defArgs s_found_nodes) (defBody s_found_nodes) (defScope s_found_nodes) [] [] (He.ga K "found_nodes") fd := T.def_ 6 (d := d_found_nodes)
theorem Txt.f_wrong_with_entries (T : Txt K mg) : ∃ fd, FunD K "wrong_with_entries" "wrong_with_entries" (defArgs s_wrong_with_entries) (defBody s_wrong_with_entries) (defScope s_wrong_with_entries) [] [] (He.ga K "wrong_with_entries") fd := T.def_ 7 (d := d_wrong_with_entries)
theorem Txt.f_wrong_with (T : Txt K mg) : ∃ fd, FunD K "wrong_with" "wrong_with" (defArgs s_wrong_with) (defBody s_wrong_with) (defScope s_wrong_with) [] [] (He.ga K "wrong_with") fd := T.def_ 8 (d := d_wrong_with)
theorem Txt.f_check_node (T : Txt K mg) : ∃ fd, FunD K "check_node" "check_node" (defArgs s_check_node) (defBody s_check_node) (defScope s_check_node) [] [] (He.ga K "check_node") fd := T.def_ 9 (d := d_check_node)
theorem Txt.f_is_place (T : Txt K mg) : ∃ fd, FunD K "is_place" "is_place" (defArgs s_is_place) (defBody s_is_place) (defScope s_is_place) [] [] (He.ga K "is_place") fd := T.def_ 10 (d := d_is_place)
theorem Txt.f_check_place (T : Txt K mg) : ∃ fd, FunD K "check_place" "check_place" (defArgs s_check_place) (defBody s_check_place) (defScope s_check_place) [] [] (He.ga K "check_place") fd := T.def_ 11 (d := d_check_place)
theorem Txt.f_node_at (T : Txt K mg) : ∃ fd, FunD K "node_at" "node_at" (defArgs s_node_at) (defBody s_node_at) (defScope s_node_at) [] [] (He.ga K "node_at") fd := T.def_ 12 (d := d_node_at)
theorem Txt.f_entries_of (T : Txt K mg) : ∃ fd, FunD K "entries_of" "entries_of" (defArgs s_entries_of) (defBody s_entries_of) (defScope s_entries_of) [] [] (He.ga K "entries_of") fd := T.def_ 13 (d := d_entries_of)
theorem Txt.f_above (T : Txt K mg) : ∃ fd, FunD K "above" "above" (defArgs s_above) (defBody s_above) (defScope s_above) [] [] (He.ga K "above") fd := T.def_ 14 (d := d_above)
theorem Txt.f_is_folder (T : Txt K mg) : ∃ fd, FunD K "is_folder" "is_folder" (defArgs s_is_folder) (defBody s_is_folder) (defScope s_is_folder) [] [] (He.ga K "is_folder") fd := T.def_ 15 (d := d_is_folder)
theorem Txt.f_is_below (T : Txt K mg) : ∃ fd, FunD K "is_below" "is_below" (defArgs s_is_below) (defBody s_is_below) (defScope s_is_below) [] [] (He.ga K "is_below") fd := T.def_ 16 (d := d_is_below)
theorem Txt.f_made_node (T : Txt K mg) : ∃ fd, FunD K "made_node" "made_node" (defArgs s_made_node) (defBody s_made_node) (defScope s_made_node) [] [] (He.ga K "made_node") fd := T.def_ 17 (d := d_made_node)
theorem Txt.f_wrong_names (T : Txt K mg) : ∃ fd, FunD K "wrong_names" "wrong_names" (defArgs s_wrong_names) (defBody s_wrong_names) (defScope s_wrong_names) [] [] (He.ga K "wrong_names") fd := T.def_ 18 (d := d_wrong_names)
theorem Txt.f_is_leaf (T : Txt K mg) : ∃ fd, FunD K "is_leaf" "is_leaf" (defArgs s_is_leaf) (defBody s_is_leaf) (defScope s_is_leaf) [] [] (He.ga K "is_leaf") fd := T.def_ 19 (d := d_is_leaf)
theorem Txt.f_wrong_move (T : Txt K mg) : ∃ fd, FunD K "wrong_move" "wrong_move" (defArgs s_wrong_move) (defBody s_wrong_move) (defScope s_wrong_move) [] [] (He.ga K "wrong_move") fd := T.def_ 20 (d := d_wrong_move)
theorem Txt.f_wrong_deed (T : Txt K mg) : ∃ fd, FunD K "wrong_deed" "wrong_deed" (defArgs s_wrong_deed) (defBody s_wrong_deed) (defScope s_wrong_deed) [] [] (He.ga K "wrong_deed") fd := T.def_ 21 (d := d_wrong_deed)
theorem Txt.f_with_entry (T : Txt K mg) : ∃ fd, FunD K "with_entry" "with_entry" (defArgs s_with_entry) (defBody s_with_entry) (defScope s_with_entry) [] [] (He.ga K "with_entry") fd := T.def_ 22 (d := d_with_entry)
theorem Txt.f_without_entry (T : Txt K mg) : ∃ fd, FunD K "without_entry" "without_entry" (defArgs s_without_entry) (defBody s_without_entry) (defScope s_without_entry) [] [] (He.ga K "without_entry") fd := T.def_ 23 (d := d_without_entry)
theorem Txt.f_done (T : Txt K mg) : ∃ fd, FunD K "done" "done" (defArgs s_done) (defBody s_done) (defScope s_done) [] [] (He.ga K "done") fd := T.def_ 24 (d := d_done)
theorem Txt.f_trees (T : Txt K mg) : ∃ fd, FunD K "trees" "trees" (defArgs s_trees) (defBody s_trees) (defScope s_trees) [] [] (He.ga K "trees") fd := T.def_ 25 (d := d_trees)
theorem Txt.f_first_state (T : Txt K mg) : ∃ fd, FunD K "first_state" "first_state" (defArgs s_first_state) (defBody s_first_state) (defScope s_first_state) [] [] (He.ga K "first_state") fd := T.def_ 26 (d := d_first_state)
theorem Txt.f_seen_node (T : Txt K mg) : ∃ fd, FunD K "seen_node" "seen_node" (defArgs s_seen_node) (defBody s_seen_node) (defScope s_seen_node) [] [] (He.ga K "seen_node") fd := T.def_ 27 (d := d_seen_node)
theorem Txt.f_behind_node (T : Txt K mg) : ∃ fd, FunD K "behind_node" "behind_node" (defArgs s_behind_node) (defBody s_behind_node) (defScope s_behind_node) [] [] (He.ga K "behind_node") fd := T.def_ 28 (d := d_behind_node)
theorem Txt.f_look_once (T : Txt K mg) : ∃ fd, FunD K "look_once" "look_once" (defArgs s_look_once) (defBody s_look_once) (defScope s_look_once) [] [] (He.ga K "look_once") fd := T.def_ 29 (d := d_look_once)
theorem Txt.f_ended (T : Txt K mg) : ∃ fd, FunD K "ended" "ended" (defArgs s_ended) (defBody s_ended) (defScope s_ended) [] [] (He.ga K "ended") fd := T.def_ 30 (d := d_ended)
theorem Txt.f_walk (T : Txt K mg) : ∃ fd, FunD K "walk" "walk" (defArgs s_walk) (defBody s_walk) (defScope s_walk) [] [] (He.ga K "walk") fd := T.def_ 31 (d := d_walk)
theorem Txt.f_check_numbers (T : Txt K mg) : ∃ fd, FunD K "check_numbers" "check_numbers" (defArgs s_check_numbers) (defBody s_check_numbers) (defScope s_check_numbers) [] [] (He.ga K "check_numbers") fd := T.def_ 32 (d := d_check_numbers)
theorem Txt.f_looked_at (T : Txt K mg) : ∃ fd, FunD K "looked_at" "looked_at" (defArgs s_looked_at) (defBody s_looked_at) (defScope s_looked_at) [] [] (He.ga K "looked_at") fd := T.def_ 33 (d := d_looked_at)
theorem Txt.f_listing (T : Txt K mg) : ∃ fd, FunD K "listing" "listing" (defArgs s_listing) (defBody s_listing) (defScope s_listing) [] [] (He.ga K "listing") fd := T.def_ 34 (d := d_listing)
theorem Txt.f_listings (T : Txt K mg) : ∃ fd, FunD K "listings" "listings" (defArgs s_listings) (defBody s_listings) (defScope s_listings) [] [] (He.ga K "listings") fd := T.def_ 35 (d := d_listings)
theorem Txt.f_climb (T : Txt K mg) : ∃ fd, FunD K "climb" "climb" (defArgs s_climb) (defBody s_climb) (defScope s_climb) [] [] (He.ga K "climb") fd := T.def_ 36 (d := d_climb)
theorem Txt.f_whole_climb (T : Txt K mg) : ∃ fd, FunD K "whole_climb" "whole_climb" (defArgs s_whole_climb) (defBody s_whole_climb) (defScope s_whole_climb) [] [] (He.ga K "whole_climb") fd := T.def_ 37 (d := d_whole_climb)
theorem Txt.f_climbs (T : Txt K mg) : ∃ fd, FunD K "climbs" "climbs" (defArgs s_climbs) (defBody s_climbs) (defScope s_climbs) [] [] (He.ga K "climbs") fd := T.def_ 38 (d := d_climbs)
theorem Txt.f_Lcell (T : Txt K mg) : ∃ fd, FunD K "_law_cell" "_law_cell" (defArgs s_Lcell) (defBody s_Lcell) (defScope s_Lcell) [] [] (He.ga K "_law_cell") fd := T.def_ 39 (d := d_Lcell)
theorem Txt.f_Lrng (T : Txt K mg) : ∃ fd, FunD K "_law_rng" "_law_rng" (defArgs s_Lrng) (defBody s_Lrng) (defScope s_Lrng) [] [] (He.ga K "_law_rng") fd := T.def_ 40 (d := d_Lrng)
theorem Txt.f_Ldraw (T : Txt K mg) : ∃ fd, FunD K "_law_draw" "_law_draw" (defArgs s_Ldraw) (defBody s_Ldraw) (defScope s_Ldraw) [] [] (He.ga K "_law_draw") fd := T.def_ 41 (d := d_Ldraw)
theorem Txt.f_Lpick (T : Txt K mg) : ∃ fd, FunD K "_law_pick" "_law_pick" (defArgs s_Lpick) (defBody s_Lpick) (defScope s_Lpick) [] [] (He.ga K "_law_pick") fd := T.def_ 42 (d := d_Lpick)
theorem Txt.f_Lcopy (T : Txt K mg) : ∃ fd, FunD K "_law_copy" "_law_copy" (defArgs s_Lcopy) (defBody s_Lcopy) (defScope s_Lcopy) [] [] (He.ga K "_law_copy") fd := T.def_ 43 (d := d_Lcopy)
theorem Txt.f_Labove (T : Txt K mg) : ∃ fd, FunD K "_law_above" "_law_above" (defArgs s_Labove) (defBody s_Labove) (defScope s_Labove) [] [] (He.ga K "_law_above") fd := T.def_ 44 (d := d_Labove)
theorem Txt.f_Lis_below (T : Txt K mg) : ∃ fd, FunD K "_law_is_below" "_law_is_below" (defArgs s_Lis_below) (defBody s_Lis_below) (defScope s_Lis_below) [] [] (He.ga K "_law_is_below") fd := T.def_ 45 (d := d_Lis_below)
theorem Txt.f_Ltaken (T : Txt K mg) : ∃ fd, FunD K "_law_taken" "_law_taken" (defArgs s_Ltaken) (defBody s_Ltaken) (defScope s_Ltaken) [] [] (He.ga K "_law_taken") fd := T.def_ 46 (d := d_Ltaken)
theorem Txt.f_Ldone (T : Txt K mg) : ∃ fd, FunD K "_law_done" "_law_done" (defArgs s_Ldone) (defBody s_Ldone) (defScope s_Ldone) [] [] (He.ga K "_law_done") fd := T.def_ 47 (d := d_Ldone)
theorem Txt.f_Ldrawn_tree (T : Txt K mg) : ∃ fd, FunD K "_law_drawn_tree" "_law_drawn_tree" (defArgs s_Ldrawn_tree) (defBody s_Ldrawn_tree) (defScope s_Ldrawn_tree) [] [] (He.ga K "_law_drawn_tree") fd := T.def_ 48 (d := d_Ldrawn_tree)
theorem Txt.f_Ldrawn_deed (T : Txt K mg) : ∃ fd, FunD K "_law_drawn_deed" "_law_drawn_deed" (defArgs s_Ldrawn_deed) (defBody s_Ldrawn_deed) (defScope s_Ldrawn_deed) [] [] (He.ga K "_law_drawn_deed") fd := T.def_ 49 (d := d_Ldrawn_deed)
theorem Txt.f_Lrow (T : Txt K mg) : ∃ fd, FunD K "_law_row" "_law_row" (defArgs s_Lrow) (defBody s_Lrow) (defScope s_Lrow) [] [] (He.ga K "_law_row") fd := T.def_ 50 (d := d_Lrow)
theorem Txt.f_Ltree (T : Txt K mg) : ∃ fd, FunD K "_law_tree" "_law_tree" (defArgs s_Ltree) (defBody s_Ltree) (defScope s_Ltree) [] [] (He.ga K "_law_tree") fd := T.def_ 51 (d := d_Ltree)
theorem Txt.f_Ldeed (T : Txt K mg) : ∃ fd, FunD K "_law_deed" "_law_deed" (defArgs s_Ldeed) (defBody s_Ldeed) (defScope s_Ldeed) [] [] (He.ga K "_law_deed") fd := T.def_ 52 (d := d_Ldeed)
theorem Txt.f_Linner (T : Txt K mg) : ∃ fd, FunD K "_law_inner" "_law_inner" (defArgs s_Linner) (defBody s_Linner) (defScope s_Linner) [] [] (He.ga K "_law_inner") fd := T.def_ 53 (d := d_Linner)
theorem Txt.f_Lvisit (T : Txt K mg) : ∃ fd, FunD K "_law_visit" "_law_visit" (defArgs s_Lvisit) (defBody s_Lvisit) (defScope s_Lvisit) [] [] (He.ga K "_law_visit") fd := T.def_ 54 (d := d_Lvisit)
theorem Txt.f_Lbelow (T : Txt K mg) : ∃ fd, FunD K "_law_below" "_law_below" (defArgs s_Lbelow) (defBody s_Lbelow) (defScope s_Lbelow) [] [] (He.ga K "_law_below") fd := T.def_ 55 (d := d_Lbelow)
theorem Txt.f_Lstill_right (T : Txt K mg) : ∃ fd, FunD K "_law_still_right" "_law_still_right" (defArgs s_Lstill_right) (defBody s_Lstill_right) (defScope s_Lstill_right) [] [] (He.ga K "_law_still_right") fd := T.def_ 56 (d := d_Lstill_right)
theorem Txt.f_Lmoments_right (T : Txt K mg) : ∃ fd, FunD K "_law_moments_right" "_law_moments_right" (defArgs s_Lmoments_right) (defBody s_Lmoments_right) (defScope s_Lmoments_right) [] [] (He.ga K "_law_moments_right") fd := T.def_ 57 (d := d_Lmoments_right)
theorem Txt.f_law (T : Txt K mg) : ∃ fd, FunD K "law" "law" (defArgs s_law) (defBody s_law) (defScope s_law) [] [] (He.ga K "law") fd := T.def_ 58 (d := d_law)
theorem Txt.f_Thing_eq (T : Txt K mg) : ∃ fd, FunD K "__eq__" "Thing.__eq__" (defArgs s_Thing_eq) (defBody s_Thing_eq) (defScope s_Thing_eq) [] [] (He.ma K (He.ga K "Thing") "__eq__") fd := T.def_ 59 (d := d_Thing_eq)
theorem Txt.f_Path_init (T : Txt K mg) : ∃ fd, FunD K "__init__" "Path.__init__" (defArgs s_Path_init) (defBody s_Path_init) (defScope s_Path_init) [] [] (He.ma K (He.ga K "Path") "__init__") fd := T.def_ 60 (d := d_Path_init)
theorem Txt.f_Folder_init (T : Txt K mg) : ∃ fd, FunD K "__init__" "Folder.__init__" (defArgs s_Folder_init) (defBody s_Folder_init) (defScope s_Folder_init) [] [] (He.ma K (He.ga K "Folder") "__init__") fd := T.def_ 61 (d := d_Folder_init)
theorem Txt.f_File_init (T : Txt K mg) : ∃ fd, FunD K "__init__" "File.__init__" (defArgs s_File_init) (defBody s_File_init) (defScope s_File_init) [] [] (He.ma K (He.ga K "File") "__init__") fd := T.def_ 62 (d := d_File_init)
theorem Txt.f_Gone_init (T : Txt K mg) : ∃ fd, FunD K "__init__" "Gone.__init__" (defArgs s_Gone_init) (defBody s_Gone_init) (defScope s_Gone_init) [] [] (He.ma K (He.ga K "Gone") "__init__") fd := T.def_ 63 (d := d_Gone_init)
theorem Txt.f_Tree_init (T : Txt K mg) : ∃ fd, FunD K "__init__" "Tree.__init__" (defArgs s_Tree_init) (defBody s_Tree_init) (defScope s_Tree_init) [] [] (He.ma K (He.ga K "Tree") "__init__") fd := T.def_ 64 (d := d_Tree_init)
theorem Txt.f_Tree_folder_numbers (T : Txt K mg) : ∃ fd, FunD K "folder_numbers" "Tree.folder_numbers" (defArgs s_Tree_folder_numbers) (defBody s_Tree_folder_numbers) (defScope s_Tree_folder_numbers) [] [] (He.ma K (He.ga K "Tree") "folder_numbers") fd := T.def_ 65 (d := d_Tree_folder_numbers)
theorem Txt.f_Tree_check_folders (T : Txt K mg) : ∃ fd, FunD K "check_folders" "Tree.check_folders" (defArgs s_Tree_check_folders) (defBody s_Tree_check_folders) (defScope s_Tree_check_folders) [] [] (He.ma K (He.ga K "Tree") "check_folders") fd := T.def_ 66 (d := d_Tree_check_folders)
theorem Txt.f_MakeFolder_init (T : Txt K mg) : ∃ fd, FunD K "__init__" "MakeFolder.__init__" (defArgs s_MakeFolder_init) (defBody s_MakeFolder_init) (defScope s_MakeFolder_init) [] [] (He.ma K (He.ga K "MakeFolder") "__init__") fd := T.def_ 67 (d := d_MakeFolder_init)
theorem Txt.f_MakeFile_init (T : Txt K mg) : ∃ fd, FunD K "__init__" "MakeFile.__init__" (defArgs s_MakeFile_init) (defBody s_MakeFile_init) (defScope s_MakeFile_init) [] [] (He.ma K (He.ga K "MakeFile") "__init__") fd := T.def_ 68 (d := d_MakeFile_init)
theorem Txt.f_Put_init (T : Txt K mg) : ∃ fd, FunD K "__init__" "Put.__init__" (defArgs s_Put_init) (defBody s_Put_init) (defScope s_Put_init) [] [] (He.ma K (He.ga K "Put") "__init__") fd := T.def_ 69 (d := d_Put_init)
theorem Txt.f_Take_init (T : Txt K mg) : ∃ fd, FunD K "__init__" "Take.__init__" (defArgs s_Take_init) (defBody s_Take_init) (defScope s_Take_init) [] [] (He.ma K (He.ga K "Take") "__init__") fd := T.def_ 70 (d := d_Take_init)
theorem Txt.f_Move_init (T : Txt K mg) : ∃ fd, FunD K "__init__" "Move.__init__" (defArgs s_Move_init) (defBody s_Move_init) (defScope s_Move_init) [] [] (He.ma K (He.ga K "Move") "__init__") fd := T.def_ 71 (d := d_Move_init)
theorem Txt.f_Look_init (T : Txt K mg) : ∃ fd, FunD K "__init__" "Look.__init__" (defArgs s_Look_init) (defBody s_Look_init) (defScope s_Look_init) [] [] (He.ma K (He.ga K "Look") "__init__") fd := T.def_ 72 (d := d_Look_init)
theorem Txt.f_Look_accepts_owner (T : Txt K mg) : ∃ fd, FunD K "accepts_owner" "Look.accepts_owner" (defArgs s_Look_accepts_owner) (defBody s_Look_accepts_owner) (defScope s_Look_accepts_owner) [] [] (He.ma K (He.ga K "Look") "accepts_owner") fd := T.def_ 73 (d := d_Look_accepts_owner)
theorem Txt.f_Came_init (T : Txt K mg) : ∃ fd, FunD K "__init__" "Came.__init__" (defArgs s_Came_init) (defBody s_Came_init) (defScope s_Came_init) [] [] (He.ma K (He.ga K "Came") "__init__") fd := T.def_ 74 (d := d_Came_init)
theorem Txt.f_Came_class_name (T : Txt K mg) : ∃ fd, FunD K "class_name" "Came.class_name" (defArgs s_Came_class_name) (defBody s_Came_class_name) (defScope s_Came_class_name) [] [] (He.ma K (He.ga K "Came") "class_name") fd := T.def_ 75 (d := d_Came_class_name)
theorem Txt.f_Came_facts (T : Txt K mg) : ∃ fd, FunD K "facts" "Came.facts" (defArgs s_Came_facts) (defBody s_Came_facts) (defScope s_Came_facts) [] [] (He.ma K (He.ga K "Came") "facts") fd := T.def_ 76 (d := d_Came_facts)
theorem Txt.f_Refused_init (T : Txt K mg) : ∃ fd, FunD K "__init__" "Refused.__init__" (defArgs s_Refused_init) (defBody s_Refused_init) (defScope s_Refused_init) [] [] (He.ma K (He.ga K "Refused") "__init__") fd := T.def_ 77 (d := d_Refused_init)
theorem Txt.f_Refused_class_name (T : Txt K mg) : ∃ fd, FunD K "class_name" "Refused.class_name" (defArgs s_Refused_class_name) (defBody s_Refused_class_name) (defScope s_Refused_class_name) [] [] (He.ma K (He.ga K "Refused") "class_name") fd := T.def_ 78 (d := d_Refused_class_name)
theorem Txt.f_Refused_facts (T : Txt K mg) : ∃ fd, FunD K "facts" "Refused.facts" (defArgs s_Refused_facts) (defBody s_Refused_facts) (defScope s_Refused_facts) [] [] (He.ma K (He.ga K "Refused") "facts") fd := T.def_ 79 (d := d_Refused_facts)
theorem Txt.f_State_init (T : Txt K mg) : ∃ fd, FunD K "__init__" "State.__init__" (defArgs s_State_init) (defBody s_State_init) (defScope s_State_init) [] [] (He.ma K (He.ga K "State") "__init__") fd := T.def_ 80 (d := d_State_init)
theorem Txt.f_Climb_init (T : Txt K mg) : ∃ fd, FunD K "__init__" "Climb.__init__" (defArgs s_Climb_init) (defBody s_Climb_init) (defScope s_Climb_init) [] [] (He.ma K (He.ga K "Climb") "__init__") fd := T.def_ 81 (d := d_Climb_init)
theorem Txt.f_Climb_is_over (T : Txt K mg) : ∃ fd, FunD K "is_over" "Climb.is_over" (defArgs s_Climb_is_over) (defBody s_Climb_is_over) (defScope s_Climb_is_over) [] [] (He.ma K (He.ga K "Climb") "is_over") fd := T.def_ 82 (d := d_Climb_is_over)
theorem Txt.f_Climb_higher (T : Txt K mg) : ∃ fd, FunD K "higher" "Climb.higher" (defArgs s_Climb_higher) (defBody s_Climb_higher) (defScope s_Climb_higher) [] [] (He.ma K (He.ga K "Climb") "higher") fd := T.def_ 83 (d := d_Climb_higher)
theorem Txt.f_Climb_outcome (T : Txt K mg) : ∃ fd, FunD K "outcome" "Climb.outcome" (defArgs s_Climb_outcome) (defBody s_Climb_outcome) (defScope s_Climb_outcome) [] [] (He.ma K (He.ga K "Climb") "outcome") fd := T.def_ 84 (d := d_Climb_outcome)
theorem Txt.i_Folder (T : Txt K mg) : fIns "Folder" K = true := T.moreI 5 (f := fIns "Folder")
theorem Txt.i_File (T : Txt K mg) : fIns "File" K = true := T.moreI 6 (f := fIns "File")
theorem Txt.i_Gone (T : Txt K mg) : fIns "Gone" K = true := T.moreI 7 (f := fIns "Gone")
theorem Txt.i_MakeFolder (T : Txt K mg) : fIns "MakeFolder" K = true := T.moreI 8 (f := fIns "MakeFolder")
theorem Txt.i_MakeFile (T : Txt K mg) : fIns "MakeFile" K = true := T.moreI 9 (f := fIns "MakeFile")
theorem Txt.i_Put (T : Txt K mg) : fIns "Put" K = true := T.moreI 10 (f := fIns "Put")
theorem Txt.i_Take (T : Txt K mg) : fIns "Take" K = true := T.moreI 11 (f := fIns "Take")
theorem Txt.i_Move (T : Txt K mg) : fIns "Move" K = true := T.moreI 12 (f := fIns "Move")
theorem Txt.i_State (T : Txt K mg) : fIns "State" K = true := T.moreI 13 (f := fIns "State")
theorem Txt.i_Came (T : Txt K mg) : fIns "Came" K = true := T.moreI 14 (f := fIns "Came")
theorem Txt.i_Refused (T : Txt K mg) : fIns "Refused" K = true := T.moreI 15 (f := fIns "Refused")
theorem Txt.q_Came (T : Txt K mg) : fEq "Came" K = true := T.moreI 16 (f := fEq "Came")
theorem Txt.q_Refused (T : Txt K mg) : fEq "Refused" K = true := T.moreI 17 (f := fEq "Refused")
theorem Txt.t_Came_Thing (T : Txt K mg) : PySem.W.kitOne K (.ref (He.ga K "Came")) (.ref (He.ga K "Thing")) = some true := of_decide_eq_true (T.moreI 18 (f := fKit "Came" "Thing" true))
theorem Txt.t_Refused_Thing (T : Txt K mg) : PySem.W.kitOne K (.ref (He.ga K "Refused")) (.ref (He.ga K "Thing")) = some true := of_decide_eq_true (T.moreI 19 (f := fKit "Refused" "Thing" true))
theorem Txt.t_State_State (T : Txt K mg) : PySem.W.kitOne K (.ref (He.ga K "State")) (.ref (He.ga K "State")) = some true := of_decide_eq_true (T.moreI 20 (f := fKit "State" "State" true))
theorem Txt.t_Came_State (T : Txt K mg) : PySem.W.kitOne K (.ref (He.ga K "Came")) (.ref (He.ga K "State")) = some false := of_decide_eq_true (T.moreI 21 (f := fKit "Came" "State" false))
theorem Txt.t_Refused_State (T : Txt K mg) : PySem.W.kitOne K (.ref (He.ga K "Refused")) (.ref (He.ga K "State")) = some false := of_decide_eq_true (T.moreI 22 (f := fKit "Refused" "State" false))
theorem Txt.t_Refused_Refused (T : Txt K mg) : PySem.W.kitOne K (.ref (He.ga K "Refused")) (.ref (He.ga K "Refused")) = some true := of_decide_eq_true (T.moreI 23 (f := fKit "Refused" "Refused" true))
theorem Txt.t_Folder_Folder (T : Txt K mg) : PySem.W.kitOne K (.ref (He.ga K "Folder")) (.ref (He.ga K "Folder")) = some true := of_decide_eq_true (T.moreI 24 (f := fKit "Folder" "Folder" true))
theorem Txt.t_Folder_File (T : Txt K mg) : PySem.W.kitOne K (.ref (He.ga K "Folder")) (.ref (He.ga K "File")) = some false := of_decide_eq_true (T.moreI 25 (f := fKit "Folder" "File" false))
theorem Txt.t_Folder_Gone (T : Txt K mg) : PySem.W.kitOne K (.ref (He.ga K "Folder")) (.ref (He.ga K "Gone")) = some false := of_decide_eq_true (T.moreI 26 (f := fKit "Folder" "Gone" false))
theorem Txt.t_Folder_Link (T : Txt K mg) : PySem.W.kitOne K (.ref (He.ga K "Folder")) (.ref (He.ga K "Link")) = some false := of_decide_eq_true (T.moreI 27 (f := fKit "Folder" "Link" false))
theorem Txt.t_File_Folder (T : Txt K mg) : PySem.W.kitOne K (.ref (He.ga K "File")) (.ref (He.ga K "Folder")) = some false := of_decide_eq_true (T.moreI 28 (f := fKit "File" "Folder" false))
theorem Txt.t_File_File (T : Txt K mg) : PySem.W.kitOne K (.ref (He.ga K "File")) (.ref (He.ga K "File")) = some true := of_decide_eq_true (T.moreI 29 (f := fKit "File" "File" true))
theorem Txt.t_File_Gone (T : Txt K mg) : PySem.W.kitOne K (.ref (He.ga K "File")) (.ref (He.ga K "Gone")) = some false := of_decide_eq_true (T.moreI 30 (f := fKit "File" "Gone" false))
theorem Txt.t_File_Link (T : Txt K mg) : PySem.W.kitOne K (.ref (He.ga K "File")) (.ref (He.ga K "Link")) = some false := of_decide_eq_true (T.moreI 31 (f := fKit "File" "Link" false))
theorem Txt.t_Gone_Folder (T : Txt K mg) : PySem.W.kitOne K (.ref (He.ga K "Gone")) (.ref (He.ga K "Folder")) = some false := of_decide_eq_true (T.moreI 32 (f := fKit "Gone" "Folder" false))
theorem Txt.t_Gone_File (T : Txt K mg) : PySem.W.kitOne K (.ref (He.ga K "Gone")) (.ref (He.ga K "File")) = some false := of_decide_eq_true (T.moreI 33 (f := fKit "Gone" "File" false))
theorem Txt.t_Gone_Gone (T : Txt K mg) : PySem.W.kitOne K (.ref (He.ga K "Gone")) (.ref (He.ga K "Gone")) = some true := of_decide_eq_true (T.moreI 34 (f := fKit "Gone" "Gone" true))
theorem Txt.t_Gone_Link (T : Txt K mg) : PySem.W.kitOne K (.ref (He.ga K "Gone")) (.ref (He.ga K "Link")) = some false := of_decide_eq_true (T.moreI 35 (f := fKit "Gone" "Link" false))
theorem Txt.t_MakeFolder_MakeFolder (T : Txt K mg) : PySem.W.kitOne K (.ref (He.ga K "MakeFolder")) (.ref (He.ga K "MakeFolder")) = some true := of_decide_eq_true (T.moreI 36 (f := fKit "MakeFolder" "MakeFolder" true))
theorem Txt.t_MakeFolder_MakeFile (T : Txt K mg) : PySem.W.kitOne K (.ref (He.ga K "MakeFolder")) (.ref (He.ga K "MakeFile")) = some false := of_decide_eq_true (T.moreI 37 (f := fKit "MakeFolder" "MakeFile" false))
theorem Txt.t_MakeFolder_MakeLink (T : Txt K mg) : PySem.W.kitOne K (.ref (He.ga K "MakeFolder")) (.ref (He.ga K "MakeLink")) = some false := of_decide_eq_true (T.moreI 38 (f := fKit "MakeFolder" "MakeLink" false))
theorem Txt.t_MakeFolder_Put (T : Txt K mg) : PySem.W.kitOne K (.ref (He.ga K "MakeFolder")) (.ref (He.ga K "Put")) = some false := of_decide_eq_true (T.moreI 39 (f := fKit "MakeFolder" "Put" false))
theorem Txt.t_MakeFolder_Take (T : Txt K mg) : PySem.W.kitOne K (.ref (He.ga K "MakeFolder")) (.ref (He.ga K "Take")) = some false := of_decide_eq_true (T.moreI 40 (f := fKit "MakeFolder" "Take" false))
theorem Txt.t_MakeFolder_Move (T : Txt K mg) : PySem.W.kitOne K (.ref (He.ga K "MakeFolder")) (.ref (He.ga K "Move")) = some false := of_decide_eq_true (T.moreI 41 (f := fKit "MakeFolder" "Move" false))
theorem Txt.t_MakeFile_MakeFolder (T : Txt K mg) : PySem.W.kitOne K (.ref (He.ga K "MakeFile")) (.ref (He.ga K "MakeFolder")) = some false := of_decide_eq_true (T.moreI 42 (f := fKit "MakeFile" "MakeFolder" false))
theorem Txt.t_MakeFile_MakeFile (T : Txt K mg) : PySem.W.kitOne K (.ref (He.ga K "MakeFile")) (.ref (He.ga K "MakeFile")) = some true := of_decide_eq_true (T.moreI 43 (f := fKit "MakeFile" "MakeFile" true))
theorem Txt.t_MakeFile_MakeLink (T : Txt K mg) : PySem.W.kitOne K (.ref (He.ga K "MakeFile")) (.ref (He.ga K "MakeLink")) = some false := of_decide_eq_true (T.moreI 44 (f := fKit "MakeFile" "MakeLink" false))
theorem Txt.t_MakeFile_Put (T : Txt K mg) : PySem.W.kitOne K (.ref (He.ga K "MakeFile")) (.ref (He.ga K "Put")) = some false := of_decide_eq_true (T.moreI 45 (f := fKit "MakeFile" "Put" false))
theorem Txt.t_MakeFile_Take (T : Txt K mg) : PySem.W.kitOne K (.ref (He.ga K "MakeFile")) (.ref (He.ga K "Take")) = some false := of_decide_eq_true (T.moreI 46 (f := fKit "MakeFile" "Take" false))
theorem Txt.t_MakeFile_Move (T : Txt K mg) : PySem.W.kitOne K (.ref (He.ga K "MakeFile")) (.ref (He.ga K "Move")) = some false := of_decide_eq_true (T.moreI 47 (f := fKit "MakeFile" "Move" false))
theorem Txt.t_Put_MakeFolder (T : Txt K mg) : PySem.W.kitOne K (.ref (He.ga K "Put")) (.ref (He.ga K "MakeFolder")) = some false := of_decide_eq_true (T.moreI 48 (f := fKit "Put" "MakeFolder" false))
theorem Txt.t_Put_MakeFile (T : Txt K mg) : PySem.W.kitOne K (.ref (He.ga K "Put")) (.ref (He.ga K "MakeFile")) = some false := of_decide_eq_true (T.moreI 49 (f := fKit "Put" "MakeFile" false))
theorem Txt.t_Put_MakeLink (T : Txt K mg) : PySem.W.kitOne K (.ref (He.ga K "Put")) (.ref (He.ga K "MakeLink")) = some false := of_decide_eq_true (T.moreI 50 (f := fKit "Put" "MakeLink" false))
theorem Txt.t_Put_Put (T : Txt K mg) : PySem.W.kitOne K (.ref (He.ga K "Put")) (.ref (He.ga K "Put")) = some true := of_decide_eq_true (T.moreI 51 (f := fKit "Put" "Put" true))
theorem Txt.t_Put_Take (T : Txt K mg) : PySem.W.kitOne K (.ref (He.ga K "Put")) (.ref (He.ga K "Take")) = some false := of_decide_eq_true (T.moreI 52 (f := fKit "Put" "Take" false))
theorem Txt.t_Put_Move (T : Txt K mg) : PySem.W.kitOne K (.ref (He.ga K "Put")) (.ref (He.ga K "Move")) = some false := of_decide_eq_true (T.moreI 53 (f := fKit "Put" "Move" false))
theorem Txt.t_Take_MakeFolder (T : Txt K mg) : PySem.W.kitOne K (.ref (He.ga K "Take")) (.ref (He.ga K "MakeFolder")) = some false := of_decide_eq_true (T.moreI 54 (f := fKit "Take" "MakeFolder" false))
theorem Txt.t_Take_MakeFile (T : Txt K mg) : PySem.W.kitOne K (.ref (He.ga K "Take")) (.ref (He.ga K "MakeFile")) = some false := of_decide_eq_true (T.moreI 55 (f := fKit "Take" "MakeFile" false))
theorem Txt.t_Take_MakeLink (T : Txt K mg) : PySem.W.kitOne K (.ref (He.ga K "Take")) (.ref (He.ga K "MakeLink")) = some false := of_decide_eq_true (T.moreI 56 (f := fKit "Take" "MakeLink" false))
theorem Txt.t_Take_Put (T : Txt K mg) : PySem.W.kitOne K (.ref (He.ga K "Take")) (.ref (He.ga K "Put")) = some false := of_decide_eq_true (T.moreI 57 (f := fKit "Take" "Put" false))
theorem Txt.t_Take_Take (T : Txt K mg) : PySem.W.kitOne K (.ref (He.ga K "Take")) (.ref (He.ga K "Take")) = some true := of_decide_eq_true (T.moreI 58 (f := fKit "Take" "Take" true))
theorem Txt.t_Take_Move (T : Txt K mg) : PySem.W.kitOne K (.ref (He.ga K "Take")) (.ref (He.ga K "Move")) = some false := of_decide_eq_true (T.moreI 59 (f := fKit "Take" "Move" false))
theorem Txt.t_Move_MakeFolder (T : Txt K mg) : PySem.W.kitOne K (.ref (He.ga K "Move")) (.ref (He.ga K "MakeFolder")) = some false := of_decide_eq_true (T.moreI 60 (f := fKit "Move" "MakeFolder" false))
theorem Txt.t_Move_MakeFile (T : Txt K mg) : PySem.W.kitOne K (.ref (He.ga K "Move")) (.ref (He.ga K "MakeFile")) = some false := of_decide_eq_true (T.moreI 61 (f := fKit "Move" "MakeFile" false))
theorem Txt.t_Move_MakeLink (T : Txt K mg) : PySem.W.kitOne K (.ref (He.ga K "Move")) (.ref (He.ga K "MakeLink")) = some false := of_decide_eq_true (T.moreI 62 (f := fKit "Move" "MakeLink" false))
theorem Txt.t_Move_Put (T : Txt K mg) : PySem.W.kitOne K (.ref (He.ga K "Move")) (.ref (He.ga K "Put")) = some false := of_decide_eq_true (T.moreI 63 (f := fKit "Move" "Put" false))
theorem Txt.t_Move_Take (T : Txt K mg) : PySem.W.kitOne K (.ref (He.ga K "Move")) (.ref (He.ga K "Take")) = some false := of_decide_eq_true (T.moreI 64 (f := fKit "Move" "Take" false))
theorem Txt.t_Move_Move (T : Txt K mg) : PySem.W.kitOne K (.ref (He.ga K "Move")) (.ref (He.ga K "Move")) = some true := of_decide_eq_true (T.moreI 65 (f := fKit "Move" "Move" true))
theorem Txt.g_Link (T : Txt K mg) : mg "Link" = some (.ref (He.ga K "Link")) := T.gloM 3
theorem Txt.g_MakeLink (T : Txt K mg) : mg "MakeLink" = some (.ref (He.ga K "MakeLink")) := T.gloM 4
end
end NW
set_option Elab.async false
set_option linter.all false
set_option maxRecDepth 100000
set_option maxHeartbeats 1000000
/-! KR: how the data stand in the heap. -/
namespace NW
open PySem PySem.Spec PyProof.Rows L2
/-! heaps -/
theorem upd_at {H : Hp} {a b : Addr} {o u : HO} (h : H b = some u) (n : b ≠ a) : upd H a o b = some u := by rw [upd_ne n]; exact h
theorem sput {H0 H : Hp} {l : Addr} {o : HO} (s : Same H0 H) (n : H0 l = none) : Same H0 (upd H l o) := fun b u e => by
  rw [upd_ne (ne_of_none e n)]
  exact s b u e
theorem snew {H0 H : Hp} {l : Addr} {o : HO} (s : Same H0 H) (n : H l = none) : Same H0 (upd H l o) := sput s (s.free n)
theorem same_new {H : Hp} {p : Addr} {o : HO} (h : H p = none) : Same H (upd H p o) := snew (Same.refl H) h
theorem same_mk {H : Hp} {x dx : Addr} {C : Addr} {fs : List (Str × V)} (nx : H x = none) (nd : H dx = none) : Same H (upd (upd H dx (.own x)) x (.ins C dx fs)) := sput (same_new nd) nx
/-- all but r is kept -/
def Sb (r : Addr) (H H' : Hp) : Prop := ∀ b o, b ≠ r → H b = some o → H' b = some o
theorem ssb {H H' : Hp} (s : Same H H') (r : Addr) : Sb r H H' := fun b o _ e => s b o e
theorem Sb.trans {r : Addr} {H H1 H2 : Hp} (a : Sb r H H1) (b : Sb r H1 H2) : Sb r H H2 := fun c o n e => b c o n (a c o n e)
theorem sb_upd {r : Addr} {H : Hp} {o : HO} : Sb r H (upd H r o) := fun b u n e => by rw [upd_ne n]; exact e
theorem Sb.at {r b : Addr} {H H' : Hp} {o : HO} (s : Sb r H H') (e : H b = some o) (n : b ≠ r) : H' b = some o := s b o n e
theorem Sb.refl (r : Addr) (H : Hp) : Sb r H H := fun _ _ _ e => e
theorem sbSame {H0 B H : Hp} {c : Addr} (s : Same H0 B) (n : H0 c = none) (k : Sb c B H) : Same H0 H := fun b o e => k b o (ne_of_none e n) (s b o e)
theorem Sb.put {c : Addr} {B H : Hp} {o : HO} (k : Sb c B H) : Sb c B (upd H c o) := fun b u n e => by rw [upd_ne n]; exact k b u n e
theorem Sb.new {c p : Addr} {B H : Hp} {o : HO} (k : Sb c B H) (n : H p = none) : Sb c B (upd H p o) := fun b u nb e => upd_at (k b u nb e) (ne_of_none (k b u nb e) n)
theorem Sb.same {c : Addr} {B H H' : Hp} (k : Sb c B H) (s : Same H H') : Sb c B H' := fun b u nb e => s _ _ (k b u nb e)
/-- what a list of ints, or an empty one, is not -/
def good : HO → Bool
  | .lst [] => false
  | .lst (.int _ :: _) => false
  | _ => true
/-- all good objects are kept -/
def Gx (H H' : Hp) : Prop := ∀ b o, H b = some o → good o = true → H' b = some o
theorem Gx.refl (H : Hp) : Gx H H := fun _ _ e _ => e
theorem Gx.trans {H H1 H2 : Hp} (a : Gx H H1) (b : Gx H1 H2) : Gx H H2 := fun c o e g => b c o (a c o e g) g
theorem sgx {H H' : Hp} (s : Same H H') : Gx H H' := fun b o e _ => s b o e
theorem Sb.gx {r : Addr} {H H' : Hp} {o : HO} (s : Sb r H H') (h : H r = some o) (g : good o = false) : Gx H H' := fun b u e gu => s b u (fun q => by subst q; rw [h] at e; cases e; rw [g] at gu; cases gu) e
/-! names -/
def nm : Nat → Str
  | 0 => "..."
  | 1 => "_0"
  | 2 => "a"
  | _ => "ab"
theorem nm_inj : ∀ {i j : Nat}, i < 4 → j < 4 → nm i = nm j → i = j := by
  have h : ∀ i : _root_.Fin 4, ∀ j : _root_.Fin 4, nm i.1 = nm j.1 → i.1 = j.1 := by decide +kernel
  exact fun {i j} hi hj e => h ⟨i, hi⟩ ⟨j, hj⟩ e
/-! instances -/
section
variable {K : Frag} {mg : Str → Option Value}
theorem ty_ins (T : Txt K mg) {H : Hp} {x : Str} {a dx : Addr} {fs : List (Str × V)} (f : fIns x K = true) (c : Cls K (He.ga K x)) (e : H a = some (.ins (He.ga K x) dx fs)) : TyX K H (.ref a) (.ref (He.ga K x)) := by
  obtain ⟨f1, f2⟩ := He.ba f
  obtain ⟨g1, g2⟩ := He.ba (T.moreI 0 (f := fGen))
  exact .base (.ins e c (He.eqO_ok f1) (of_decide_eq_true g1) (of_decide_eq_true g2) (of_decide_eq_true f2))
end
/-! a tree of the program's -/
abbrev EPair (H : Hp) (q : Addr) (kn : Nat × Nat) : Prop := H q = some (.tup [.str (nm kn.1), .int kn.2])
def fFol (o : Int) (e : Addr) : List (Str × V) := [("owner", .int o), ("entries", .ref e)]
def fFil (o : Int) : List (Str × V) := [("owner", .int o)]
def fGon (o : Int) (a : Nat) : List (Str × V) := [("owner", .int o), ("above", .int a)]
def PNode (K : Frag) (H : Hp) (p : Addr) : Nd → Prop
  | .fol o es => ∃ dx e qs, H p = some (.ins (He.ga K "Folder") dx (fFol o e)) ∧ H e = some (.tup (qs.map V.ref)) ∧ Paired (EPair H) qs es
  | .fil o => ∃ dx, H p = some (.ins (He.ga K "File") dx (fFil o))
  | .gon o a => ∃ dx, H p = some (.ins (He.ga K "Gone") dx (fGon o a))
def PTree (K : Frag) (H : Hp) (a : Addr) (t : Tr) : Prop := ∃ dx tp ps, H a = some (.ins (He.ga K "Tree") dx [("nodes", .ref tp)]) ∧ H tp = some (.tup (ps.map V.ref)) ∧ Paired (PNode K H) ps t
theorem Pmap {α β : Type} {F G : α → β → Prop} {l₁ : List α} {l₂ : List β} (p : Paired F l₁ l₂) (h : ∀ a b, F a b → G a b) : Paired G l₁ l₂ := Paired.mapP p h
theorem Pget {α β : Type} {F : α → β → Prop} : ∀ {l₁ : List α} {l₂ : List β} {i : Nat} {b : β}, Paired F l₁ l₂ → l₂[i]? = some b → ∃ a, l₁[i]? = some a ∧ F a b
  | _, _, _, _, .nil, e => by simp at e
  | _, _, 0, _, .cons r _, e => by simp at e; subst e; exact ⟨_, rfl, r⟩
  | _, _, i + 1, b, .cons _ t, e => by
    obtain ⟨u, h1, h2⟩ := Pget (i := i) (b := b) t (by simpa using e)
    exact ⟨u, by simpa using h1, h2⟩
theorem Pget' {α β : Type} {F : α → β → Prop} : ∀ {l₁ : List α} {l₂ : List β} {i : Nat} {a : α}, Paired F l₁ l₂ → l₁[i]? = some a → ∃ b, l₂[i]? = some b ∧ F a b
  | _, _, _, _, .nil, e => by simp at e
  | _, _, 0, _, .cons r _, e => by simp at e; subst e; exact ⟨_, rfl, r⟩
  | _, _, i + 1, b, .cons _ t, e => by
    obtain ⟨u, h1, h2⟩ := Pget' (i := i) (a := b) t (by simpa using e)
    exact ⟨u, by simpa using h1, h2⟩
theorem Plen {α β : Type} {F : α → β → Prop} {l₁ : List α} {l₂ : List β} (p : Paired F l₁ l₂) : l₁.length = l₂.length := Paired.length p
section
variable {K : Frag} {H H' : Hp} {a p : Addr} {t : Tr} {nd : Nd}
theorem EPair.gx {q : Addr} {kn : Nat × Nat} (s : Gx H H') (h : EPair H q kn) : EPair H' q kn := s _ _ h rfl
theorem PNode.gx (s : Gx H H') (h : PNode K H p nd) : PNode K H' p nd := by
  cases nd with
  | fol o es => obtain ⟨dx, e, qs, h1, h2, h3⟩ := h; exact ⟨dx, e, qs, s _ _ h1 rfl, s _ _ h2 rfl, Pmap h3 fun _ _ => EPair.gx s⟩
  | fil o => obtain ⟨dx, h1⟩ := h; exact ⟨dx, s _ _ h1 rfl⟩
  | gon o a => obtain ⟨dx, h1⟩ := h; exact ⟨dx, s _ _ h1 rfl⟩
theorem PTree.gx (s : Gx H H') (h : PTree K H a t) : PTree K H' a t := by
  obtain ⟨dx, tp, ps, h1, h2, h3⟩ := h
  exact ⟨dx, tp, ps, s _ _ h1 rfl, s _ _ h2 rfl, Pmap h3 fun _ _ => PNode.gx s⟩
end
/-! a law's tree: rows of kind, owner and more -/
def dkv (es : List (Nat × Nat)) : List (Key × V) := es.map fun e => (Sum.inr (nm e.1), V.int e.2)
def LRow (H : Hp) (r : Addr) : Nd → Prop
  | .fol o es => ∃ d kvs, H r = some (.lst [.str "folder", .int o, .ref d]) ∧ H d = some (.dK kvs) ∧ kvs.Perm (dkv es)
  | .fil o => H r = some (.lst [.str "file", .int o, .non])
  | .gon o a => H r = some (.lst [.str "gone", .int o, .int a])
def LTree (H : Hp) (a : Addr) (t : Tr) : Prop := ∃ rs, H a = some (.lst (rs.map V.ref)) ∧ rs ≠ [] ∧ Paired (LRow H) rs t
section
variable {K : Frag} {H H' : Hp} {a p : Addr} {t : Tr} {nd : Nd}
theorem LRow.gx (s : Gx H H') (h : LRow H p nd) : LRow H' p nd := by
  cases nd with
  | fol o es => obtain ⟨d, kvs, h1, h2, h3⟩ := h; exact ⟨d, kvs, s _ _ h1 rfl, s _ _ h2 rfl, h3⟩
  | fil o => exact s _ _ (show H p = _ from h) rfl
  | gon o a => exact s _ _ (show H p = _ from h) rfl
theorem good_refs {rs : List Addr} (h : rs ≠ []) : good (.lst (rs.map V.ref)) = true := by
  cases rs with
  | nil => exact absurd rfl h
  | cons r rs => rfl
theorem LTree.gx (s : Gx H H') (h : LTree H a t) : LTree H' a t := by
  obtain ⟨rs, h1, h2, h3⟩ := h
  exact ⟨rs, s _ _ h1 (good_refs h2), h2, Pmap h3 fun _ _ => LRow.gx s⟩
end
end NW
set_option Elab.async false
set_option linter.all false
set_option maxRecDepth 100000
set_option maxHeartbeats 1000000
/-! KX: rules of our own, at constructs that the layer has no row for. -/
namespace NW
open PySem PySem.Spec PyProof.Rows L2
section
variable {X : Cx}
/-! xs.count(y), flat items -/
def rCntV (K : Frag) : V → List V → Hp → VK → Prop := fun x xs H Q => ∃ (p : Addr) (ys : List V) (y : V), x = .ref p ∧ xs = [y] ∧ SqL K H p ys ∧ flatV y = true ∧ ys.all flatV = true ∧ Q (.int (ys.countP (fun z => eqV z y) : Nat)) H
theorem countP_eqU {x : V} : ∀ {xs : List V} {us : List Value}, Vals xs us → xs.all flatV = true → us.countP (eqU x) = xs.countP fun y => eqV y x
  | _, _, .nil, _ => rfl
  | y :: xs, u :: us, .cons r t, f => by
    rw [List.all_cons, Bool.and_eq_true] at f
    rw [List.countP_cons, List.countP_cons, eqU_of r f.1, countP_eqU t f.2]
theorem mt_countV : MtR X "list.count" (rCntV X.K) := by
  intro pins s σ H x xs v us Q I rx rxs h
  obtain ⟨p, ys, y, rfl, rfl, hs, fy, fa, q⟩ := h
  cases rx
  obtain ⟨u, rfl, ru⟩ := rxs.one
  obtain ⟨its, rv, ⟨⟨cls, dd, data, sl⟩, n, ho, hc, hdn, hd⟩, hlen⟩ := I.list hs
  simp only at hc hd
  subst hc hd
  refine call_meets PySem.F.slot_list_count ⟨_, ho, rfl⟩ PySem.F.entry_list_count (PySem.F.args_list_count_2 _ _)
    (SeqAt.list_countAt p its.toArray n dd sl u (eqU y)) ⟨ho, fun z hz => mem_eqAt ru fy rv fa z (by simpa using hz), ?_⟩
  have ec : its.toArray.toList.countP (eqU y) = ys.countP fun z => eqV z y := countP_eqU rv fa
  refine ⟨.int (ys.countP (fun z => eqV z y) : Nat), H, I.tok _, ⟨s.toks, ?_⟩, q⟩
  show Value.int ((its.toArray.toList.countP (eqU y) : Nat) : Int) s.toks = Value.int ((ys.countP (fun z => eqV z y) : Nat) : Int) s.toks
  rw [ec]
/-! == and != with an empty list, an empty tuple, whatever the items are -/
def rNilL (K : Frag) (neg : Bool) : R2 := fun x y H Q => ∃ a b xs, x = .ref a ∧ y = .ref b ∧ SqL K H a xs ∧ SqL K H b [] ∧ Q (.bl (if neg then !xs.isEmpty else xs.isEmpty)) H
def rNilT (K : Frag) : R2 := fun x y H Q => ∃ a b xs, x = .ref a ∧ y = .ref b ∧ SqT K H a xs ∧ SqT K H b [] ∧ Q (.bl xs.isEmpty) H
theorem vals_nil {us : List Value} (r : Vals [] us) : us = [] := by cases r; rfl
theorem op_eqNil (hu : X.A.units < cLine) : OpR X (compareOp .Eq) (rNilL X.K false) := by
  intro pins s σ H x y v u Q I rx ry h
  obtain ⟨a, b, xs, rfl, rfl, h1, h2, q⟩ := h
  cases rx
  cases ry
  obtain ⟨its, r, pl, hz⟩ := I.list h1
  obtain ⟨its2, r2, pl2, hz2⟩ := I.list h2
  cases vals_nil r2
  cases xs with
  | nil =>
    cases vals_nil r
    exact SeqAt.eq_listAt (e := fun _ => true) pl.isList pl2.isList rfl hu (fun j h1 => by simp at h1) ⟨.bl true, H, I, rfl, q⟩
  | cons z zs =>
    have hl := r.length
    exact SeqAt.eq_list_lengthsAt pl.isList pl2.isList (by
      have e : its.toArray.size = zs.length + 1 := by rw [List.size_toArray, ← hl]; rfl
      rw [e]
      rfl) hu ⟨.bl false, H, I, rfl, q⟩
theorem op_neNil (hu : X.A.units < cLine) : OpR X (compareOp .NotEq) (rNilL X.K true) := by
  intro pins s σ H x y v u Q I rx ry h
  obtain ⟨a, b, xs, rfl, rfl, h1, h2, q⟩ := h
  cases rx
  cases ry
  obtain ⟨its, r, pl, hz⟩ := I.list h1
  obtain ⟨its2, r2, pl2, hz2⟩ := I.list h2
  cases vals_nil r2
  cases xs with
  | nil =>
    cases vals_nil r
    exact SeqAt.RcNeAt.lists (e := fun _ => true) pl.isList pl2.isList rfl hu (fun j h1 => by simp at h1) X.prog X.w _ _ ⟨.bl false, H, I, rfl, q⟩
  | cons z zs =>
    have hl := r.length
    exact SeqAt.RcNeAt.lists_lengths pl.isList pl2.isList (by
      have e : its.toArray.size = zs.length + 1 := by rw [List.size_toArray, ← hl]; rfl
      rw [e]
      rfl) hu X.prog X.w _ _ ⟨.bl true, H, I, rfl, q⟩
theorem op_eqNilT (hu : X.A.units < cLine) : OpR X (compareOp .Eq) (rNilT X.K) := by
  intro pins s σ H x y v u Q I rx ry h
  obtain ⟨a, b, xs, rfl, rfl, h1, h2, q⟩ := h
  cases rx
  cases ry
  obtain ⟨its, r, pl, hz⟩ := I.tuple h1
  obtain ⟨its2, r2, pl2, hz2⟩ := I.tuple h2
  cases vals_nil r2
  have hl := r.length
  refine SeqAt.eq_tupleAt (e := fun _ => true) pl pl2 hu (fun j h1 h2 => absurd h2 (Nat.not_lt_zero _)) ⟨.bl xs.isEmpty, H, I, ?_, q⟩
  show Value.bool _ = Value.bool _
  congr 1
  cases xs with
  | nil => cases vals_nil r; rfl
  | cons z zs =>
    have e : its.toArray.size = zs.length + 1 := by rw [List.size_toArray, ← hl]; rfl
    rw [e]
    simp
/-! the same rules with the written part by its name (for a comprehension's block) -/
theorem tupK {K : Frag} {a : Expr} {ta : TE} {p pos : Pos} (hg : Gl X "tuple") (hm : X.mg "tuple" = none) (ha : PE X a ta) (na : starEach [a] X.env = (false, eval a X.env) :: starEach [] X.env := by rfl) (hK : X.K = K := by rfl) : PE X (.Call (.Name "tuple" p) [a] [] pos) (tThen ta (kTup K)) := hK ▸ pe_tupleOf hg hm ha na
theorem isiK {K : Frag} (hK : X.K = K := by rfl) : CallR X (.builtin "isinstance") (rIsi K) := hK ▸ call_isi
theorem isiTK {K : Frag} (hK : X.K = K := by rfl) : CallR X (.builtin "isinstance") (rIsiT K) := hK ▸ call_isiT
theorem ixL {K : Frag} (hK : X.K = K := by rfl) : IxR X (rIxL K) := hK ▸ ix_list
theorem ixT {K : Frag} (hK : X.K = K := by rfl) : IxR X (rIxT K) := hK ▸ ix_tup
theorem slL {K : Frag} (hK : X.K = K := by rfl) : SlR X (rSlL K) := hK ▸ sl_list
/-- a class by its name -/
theorem pcls {x : Str} {C : Addr} {pos : Pos} (hm : X.mg x = some (.ref C)) (hg : Gl X x := by rfl) (hd : (x == ("__debug__" : Str)) = false := by decide) : PE X (.Name x pos) (tC (.ref C)) := pe_glob hg hm rfl hd
/-- what is never asked -/
def tNeverE : TE := fun _ _ _ => False
def tNeverT : TT := fun _ _ _ => False
theorem pe_never {e : Expr} : PE X e tNeverE := ⟨fun _ _ _ _ _ _ h => h.elim⟩
theorem pt_never {e : Expr} : PT X e tNeverT := ⟨fun _ _ _ _ _ _ h => h.elim⟩
/-! two ways to walk one thing -/
theorem pi_or {tg e : Expr} {w1 w2 : TI} (h1 : PI X tg e w1) (h2 : PI X tg e w2) : PI X tg e (fun σ H R => w1 σ H R ∨ w2 σ H R) :=
  ⟨fun pins s σ H R I h => h.elim (h1.run pins s σ H R I) (h2.run pins s σ H R I)⟩
end
end NW
set_option Elab.async false
set_option linter.all false
set_option maxRecDepth 100000
set_option maxHeartbeats 1000000
/-! KL: comprehensions and loops that leave the heap as it is. -/
namespace NW
open PySem PySem.Spec PyProof.Rows L2
def outsTo (out : Nat → Option V) (n : Nat) : List V := (List.range n).filterMap out
theorem outsTo_succ (out : Nat → Option V) (n : Nat) : outsTo out (n + 1) = outsTo out n ++ (out n).toList := by
  unfold outsTo
  rw [List.range_succ, List.filterMap_append]
  congr 1
theorem outsTo_le (out : Nat → Option V) (n : Nat) : (outsTo out n).length ≤ n := by
  have := List.length_filterMap_le out (List.range n)
  rw [List.length_range] at this
  exact this
/-- a comprehension whose parts leave the heap as it is: out i is what turn i adds -/
theorem lc_fm {J : It} {n : Nat} {G : Hp → Prop} {Y : Nat → Hp → V → Hp → Prop} (w : Walk J n G Y) {g : TG} {tt : TT} {te : TE} {vs : List Nat} {σ : L2.St} {H1 : Hp} {D : Addr} {Qd : Hp → Prop} (out : Nat → Option V)
    (hD : H1 D = none) (hG : ∀ H', Same H1 H' → G H') (hn : n ≤ sizeLine)
    (hs : ∀ (i : Nat) (x : V) (H' H2 : Hp) (Qy : V → Hp → Prop) (Qn : Hp → Prop), i < n → Same H1 H' → Y i H' x H2 → (∀ y, out i = some y → Qy y H') → (out i = none → Qn H') →
      g x (wipe σ vs) H2 fun σ2 H2 => wipe σ2 vs = wipe σ vs ∧ tt σ2 H2 fun b H3 => if b = true then te σ2 H3 Qy else Qn H3)
    (hd : Qd (upd H1 D (.lst (outsTo out n)))) :
    ∃ W : Nat → Nat → Hp → Prop, (∃ m, W 0 m (upd H1 D (.lst []))) ∧ ∀ i m H, W i m H →
      (J.stop i H ∧ Qd H) ∨ (J.go i H ∧ ∃ Nx : Hp → Prop, (∀ H', Nx H' → ∃ m', m' < m ∧ W (i + 1) m' H') ∧ ∀ x H', J.yld i H x H' → g x (wipe σ vs) H' fun σ2 H2 => wipe σ2 vs = wipe σ vs ∧ tt σ2 H2 fun b H3 =>
        if b = true then te σ2 H3 fun y H4 => ∃ acc, H4 D = some (.lst acc) ∧ acc.length < sizeLine ∧ Nx (upd H4 D (.lst (acc ++ [y]))) else Nx H3) := by
  refine lc_it w (fun i H => H = upd H1 D (.lst (outsTo out i))) rfl (fun i H _ e => hG _ (by subst e; exact same_new hD)) (fun i x H H' hi e hy => ?_) (fun H e => by subst e; exact hd)
  subst e
  refine hs i x _ H' _ _ hi (same_new hD) hy (fun y ey => ⟨_, upd_same, Nat.lt_of_lt_of_le (Nat.lt_of_le_of_lt (outsTo_le out i) hi) hn, ?_⟩) (fun en => ?_)
  · rw [upd_upd, outsTo_succ, ey]
    rfl
  · show upd H1 D (.lst (outsTo out i)) = upd H1 D (.lst (outsTo out (i + 1)))
    rw [outsTo_succ, en]
    simp
theorem outsTo_map {α : Type} (xs : List α) (f : α → Option V) (out : Nat → Option V) (h : ∀ i a, xs[i]? = some a → out i = f a) : outsTo out xs.length = xs.filterMap f := by
  have key : ∀ n, n ≤ xs.length → outsTo out n = (xs.take n).filterMap f := by
    intro n
    induction n with
    | zero => intro _; simp [outsTo]
    | succ n ih =>
      intro hn
      have hlt : n < xs.length := hn
      rw [outsTo_succ, ih (by omega), List.take_succ, List.filterMap_append, List.getElem?_eq_getElem hlt, h n _ (List.getElem?_eq_getElem hlt)]
      cases e : f xs[n] <;> simp [e]
  rw [key _ (Nat.le_refl _), List.take_length]
theorem cut_to (xs : List V) (n : Nat) : cutV xs none (some (n : Int)) = xs.take n := by
  unfold cutV
  rw [HT.sIx_none, HT.sIx_nat, Nat.sub_zero, List.drop_zero, Nat.min_comm, List.take_eq_take_iff]
  omega
theorem cut_from (xs : List V) (n : Nat) : cutV xs (some (n : Int)) none = xs.drop n := by
  unfold cutV
  rw [HT.sIx_none, HT.sIx_nat]
  by_cases h : n ≤ xs.length
  · rw [Nat.min_eq_left h, List.take_of_length_le (by rw [List.length_drop]; exact Nat.le_refl _)]
  · rw [Nat.min_eq_right (by omega), List.drop_eq_nil_of_le (Nat.le_refl _), List.drop_eq_nil_of_le (by omega), List.take_nil]
theorem outs_true (n : Nat) : outsTo (fun _ => some (V.bl true)) n = (List.replicate n true).map V.bl := by
  induction n with
  | zero => rfl
  | succ n ih => rw [outsTo_succ, ih]; simp [List.replicate_succ']
theorem all_true (n : Nat) : (List.replicate n true).all id = true := by simp
end NW
set_option Elab.async false
set_option linter.all false
set_option maxRecDepth 100000
set_option maxHeartbeats 1000000
/-! W1: is_number, is_owner, small classes. -/
namespace NW
open PySem PySem.Spec PyProof.Rows L2
section
variable {P : Program} {w : World} {K : Frag} {mg : Str → Option Value} {base : Heap}
/-! is_number -/
def spIsNumber : Sp := fun vs H Q _ => ∃ i : Int, vs = [.int i] ∧ Q (.bl true) H
theorem sc_is_number : FnScope ["thing"] ["thing"] (defScope s_is_number) := ⟨rfl, rfl, rfl, by decide +kernel, rfl, by decide +kernel, by decide +kernel⟩
theorem ok_is_number (T : Txt K mg) : Cal P w K mg base 1 "is_number" spIsNumber [] := by
  refine cal T.f_is_number T.g_is_number sc_is_number (fun _ _ _ _ _ _ us hl => match us, hl with | [_], _ => rfl) (fun vs H Q E h => ?_) (fun cdv A outer s H vs Q E hr h => ?_)
  · obtain ⟨i, rfl, _⟩ := h
    rfl
  · obtain ⟨i, rfl, q⟩ := h
    refine ⟨_, pss_one (ps_ret (pe_and (pe_callB call_isi (by rfl) T.n_isinstance (by decide +kernel) (pa_cons (pv 0) (pa_cons (pe_bltn (v := .ty "int") (by rfl) T.n_int (by decide +kernel) rfl) pa_nil)))
      (pe_one (pe_not (pe_callB call_isi (by rfl) T.n_isinstance (by decide +kernel) (pa_cons (pv 0) (pa_cons (pe_bltn (v := .ty "bool") (by rfl) T.n_bool (by decide +kernel) rfl) pa_nil))))))), ?_⟩
    refine ⟨_, rfl, _, _, _, _, true, rfl, .ty _, .base (.int _), kit_ty (by decide +kernel), _, rfl, ?_⟩
    refine iteT ⟨_, rfl, _, _, _, _, false, rfl, .ty _, .base (.int _), kit_ty (by decide +kernel), _, rfl, q⟩
/-! is_owner -/
def spIsOwner : Sp := fun vs H Q _ => ∃ i : Int, vs = [.int i] ∧ 0 ≤ i ∧ Q (.bl true) H
theorem sc_is_owner : FnScope ["thing"] ["thing"] (defScope s_is_owner) := ⟨rfl, rfl, rfl, by decide +kernel, rfl, by decide +kernel, by decide +kernel⟩
theorem ok_is_owner (T : Txt K mg) : Cal P w K mg base 2 "is_owner" spIsOwner [] := by
  refine cal T.f_is_owner T.g_is_owner sc_is_owner (fun _ _ _ _ _ _ us hl => match us, hl with | [_], _ => rfl) (fun vs H Q E h => ?_) (fun cdv A outer s H vs Q E hr h => ?_)
  · obtain ⟨i, rfl, _⟩ := h
    rfl
  · obtain ⟨i, rfl, h0, q⟩ := h
    refine ⟨_, pss_one (ps_ret (pe_and (C8.pe_c (ok_is_number T) hr (by decide) rfl (pa_cons (pv 0) pa_nil)) (pe_one (pe_cmpR op_ge (pv 0) pe_int (nomark _))))), ?_⟩
    refine ⟨_, rfl, i, rfl, _, rfl, iteT ⟨_, rfl, _, _, rfl, rfl, ?_⟩⟩
    show Q (.bl (decide (0 ≤ i))) H
    rw [decide_eq_true h0]
    exact q
/-! small classes: what a new one holds -/
/-- making one: x is new, its dict is dx, the fields fs are set -/
def spMk (C : Addr) (ar : List V) (pre : Hp → Prop) (rep : Hp → Addr → Prop) : Sp := fun vs H Q _ => ∃ (H1 : Hp) (x dx : Addr), vs = .ref x :: ar ∧ H = upd (upd H1 dx (.own x)) x (.ins C dx []) ∧ H1 x = none ∧ H1 dx = none ∧ dx ≠ x ∧ pre H1 ∧
  ∀ H2, Same H1 H2 → rep H2 x → Q .non H2
/-- the same over all arguments -/
def spMkA {α : Type} (C : Addr) (ar : α → List V) (pre : α → Hp → Prop) (rep : α → Hp → Addr → Prop) : Sp := fun vs H Q E => ∃ a : α, spMk C (ar a) (pre a) (rep a) vs H Q E
/-- an instance with these fields -/
def InsF (C : Addr) (fs : List (Str × V)) (H : Hp) (x : Addr) : Prop := ∃ dx, H x = some (.ins C dx fs)
theorem InsF.gx {C : Addr} {fs : List (Str × V)} {H H' : Hp} {x : Addr} (s : Gx H H') (h : InsF C fs H x) : InsF C fs H' x := let ⟨dx, e⟩ := h; ⟨dx, s _ _ e rfl⟩
theorem putF2 {a b : Str} {x y : V} (h : ([a, b] : List Str).Nodup) : putF b y (putF a x []) = [(a, x), (b, y)] := by
  have e : ¬ a = b := by simp at h; exact h
  simp [putF, e]
theorem putF3 {a b c : Str} {x y z : V} (h : ([a, b, c] : List Str).Nodup) : putF c z (putF b y (putF a x [])) = [(a, x), (b, y), (c, z)] := by
  simp at h
  obtain ⟨⟨e1, e2⟩, e3⟩ := h
  simp [putF, e1, e2, e3]
theorem putF4 {a b c d : Str} {x y z u : V} (h : ([a, b, c, d] : List Str).Nodup) : putF d u (putF c z (putF b y (putF a x []))) = [(a, x), (b, y), (c, z), (d, u)] := by
  simp at h
  obtain ⟨⟨e1, e2, e3⟩, ⟨e4, e5⟩, e6⟩ := h
  simp [putF, e1, e2, e3, e4, e5, e6]
theorem len1 {a : Str} {x : V} : (putF a x []).length < 1000 := Nat.lt_of_le_of_lt (length_putF _ _ _) (by decide)
theorem len2 {a b : Str} {x y : V} : (putF b y (putF a x [])).length < 1000 := by
  have h1 := length_putF b y (putF a x [])
  have h2 := length_putF a x []
  simp at h2
  omega
theorem len3 {a b c : Str} {x y z : V} : (putF c z (putF b y (putF a x []))).length < 1000 := by
  have h1 := length_putF b y (putF a x [])
  have h2 := length_putF a x []
  have h3 := length_putF c z (putF b y (putF a x []))
  simp at h2
  omega
theorem sc_File : FnScope ["self", "owner"] ["self", "owner"] (defScope s_File_init) := ⟨rfl, rfl, rfl, by decide +kernel, rfl, by decide +kernel, by decide +kernel⟩
theorem mk_File (T : Txt K mg) : Mak P w K mg base 1 "File" (He.ga K "File") (spMkA (He.ga K "File") (fun o : Int => [.int o]) (fun _ _ => True) (fun o => InsF (He.ga K "File") (fFil o))) [] := by
  refine mak T.f_File_init T.k_File T.g_File sc_File (fun _ _ _ _ _ _ us hl => match us, hl with | [_, _], _ => rfl) (fun vs H Q E h => ?_) (fun cdv A outer s H vs Q E hr h => ?_)
  · obtain ⟨a, _, _, _, rfl, _⟩ := h
    rfl
  · obtain ⟨o, H1, x, dx, rfl, rfl, nx, nd, ne, _, q⟩ := h
    refine ⟨_, pss_one (ps_fld (pv 0) (pv 1) rfl), ?_⟩
    refine ⟨_, rfl, _, rfl, x, _, dx, _, rfl, upd_same, T.c_File, T.a_File_owner, by decide, ?_⟩
    refine q _ (sput (same_mk nx nd) nx) ⟨dx, upd_same⟩
theorem sc_Gone : FnScope ["self", "owner", "above"] ["self", "owner", "above"] (defScope s_Gone_init) := ⟨rfl, rfl, rfl, by decide +kernel, rfl, by decide +kernel, by decide +kernel⟩
def fGone (a : V × V) : List (Str × V) := [("owner", a.1), ("above", a.2)]
theorem mk_Gone (T : Txt K mg) : Mak P w K mg base 1 "Gone" (He.ga K "Gone") (spMkA (He.ga K "Gone") (fun a : V × V => [a.1, a.2]) (fun _ _ => True) (fun a => InsF (He.ga K "Gone") (fGone a))) [] := by
  refine mak T.f_Gone_init T.k_Gone T.g_Gone sc_Gone (fun _ _ _ _ _ _ us hl => match us, hl with | [_, _, _], _ => rfl) (fun vs H Q E h => ?_) (fun cdv A outer s H vs Q E hr h => ?_)
  · obtain ⟨a, _, _, _, rfl, _⟩ := h
    rfl
  · obtain ⟨a, H1, x, dx, rfl, rfl, nx, nd, ne, _, q⟩ := h
    refine ⟨_, pss_cons (ps_fld (pv 0) (pv 1) rfl) (pss_one (ps_fld (pv 0) (pv 2) rfl)), ?_⟩
    refine ⟨_, rfl, _, rfl, x, _, dx, _, rfl, upd_same, T.c_Gone, T.a_Gone_owner, by decide, _, rfl, _, rfl, x, _, dx, _, rfl, upd_same, T.c_Gone, T.a_Gone_above, len1, ?_⟩
    exact q _ (sput (sput (same_mk nx nd) nx) nx) ⟨dx, upd_same.trans (congrArg (fun z => some (HO.ins _ _ z)) (putF2 (by decide +kernel)))⟩
theorem sc_MakeFolder : FnScope ["self", "folder", "name", "owner"] ["self", "folder", "name", "owner"] (defScope s_MakeFolder_init) := ⟨rfl, rfl, rfl, by decide +kernel, rfl, by decide +kernel, by decide +kernel⟩
def fMakeFolder (a : V × V × V) : List (Str × V) := [("folder", a.1), ("name", a.2.1), ("owner", a.2.2)]
theorem mk_MakeFolder (T : Txt K mg) : Mak P w K mg base 1 "MakeFolder" (He.ga K "MakeFolder") (spMkA (He.ga K "MakeFolder") (fun a : V × V × V => [a.1, a.2.1, a.2.2]) (fun _ _ => True) (fun a => InsF (He.ga K "MakeFolder") (fMakeFolder a))) [] := by
  refine mak T.f_MakeFolder_init T.k_MakeFolder T.g_MakeFolder sc_MakeFolder (fun _ _ _ _ _ _ us hl => match us, hl with | [_, _, _, _], _ => rfl) (fun vs H Q E h => ?_) (fun cdv A outer s H vs Q E hr h => ?_)
  · obtain ⟨a, _, _, _, rfl, _⟩ := h
    rfl
  · obtain ⟨a, H1, x, dx, rfl, rfl, nx, nd, ne, _, q⟩ := h
    refine ⟨_, pss_cons (ps_fld (pv 0) (pv 1) rfl) (pss_cons (ps_fld (pv 0) (pv 2) rfl) (pss_one (ps_fld (pv 0) (pv 3) rfl))), ?_⟩
    refine ⟨_, rfl, _, rfl, x, _, dx, _, rfl, upd_same, T.c_MakeFolder, T.a_MakeFolder_folder, by decide, _, rfl, _, rfl, x, _, dx, _, rfl, upd_same, T.c_MakeFolder, T.a_MakeFolder_name, len1, _, rfl, _, rfl, x, _, dx, _, rfl, upd_same, T.c_MakeFolder, T.a_MakeFolder_owner, len2, ?_⟩
    exact q _ (sput (sput (sput (same_mk nx nd) nx) nx) nx) ⟨dx, upd_same.trans (congrArg (fun z => some (HO.ins _ _ z)) (putF3 (by decide +kernel)))⟩
theorem sc_MakeFile : FnScope ["self", "folder", "name", "owner"] ["self", "folder", "name", "owner"] (defScope s_MakeFile_init) := ⟨rfl, rfl, rfl, by decide +kernel, rfl, by decide +kernel, by decide +kernel⟩
def fMakeFile (a : V × V × V) : List (Str × V) := [("folder", a.1), ("name", a.2.1), ("owner", a.2.2)]
theorem mk_MakeFile (T : Txt K mg) : Mak P w K mg base 1 "MakeFile" (He.ga K "MakeFile") (spMkA (He.ga K "MakeFile") (fun a : V × V × V => [a.1, a.2.1, a.2.2]) (fun _ _ => True) (fun a => InsF (He.ga K "MakeFile") (fMakeFile a))) [] := by
  refine mak T.f_MakeFile_init T.k_MakeFile T.g_MakeFile sc_MakeFile (fun _ _ _ _ _ _ us hl => match us, hl with | [_, _, _, _], _ => rfl) (fun vs H Q E h => ?_) (fun cdv A outer s H vs Q E hr h => ?_)
  · obtain ⟨a, _, _, _, rfl, _⟩ := h
    rfl
  · obtain ⟨a, H1, x, dx, rfl, rfl, nx, nd, ne, _, q⟩ := h
    refine ⟨_, pss_cons (ps_fld (pv 0) (pv 1) rfl) (pss_cons (ps_fld (pv 0) (pv 2) rfl) (pss_one (ps_fld (pv 0) (pv 3) rfl))), ?_⟩
    refine ⟨_, rfl, _, rfl, x, _, dx, _, rfl, upd_same, T.c_MakeFile, T.a_MakeFile_folder, by decide, _, rfl, _, rfl, x, _, dx, _, rfl, upd_same, T.c_MakeFile, T.a_MakeFile_name, len1, _, rfl, _, rfl, x, _, dx, _, rfl, upd_same, T.c_MakeFile, T.a_MakeFile_owner, len2, ?_⟩
    exact q _ (sput (sput (sput (same_mk nx nd) nx) nx) nx) ⟨dx, upd_same.trans (congrArg (fun z => some (HO.ins _ _ z)) (putF3 (by decide +kernel)))⟩
theorem sc_Put : FnScope ["self", "folder", "name", "node"] ["self", "folder", "name", "node"] (defScope s_Put_init) := ⟨rfl, rfl, rfl, by decide +kernel, rfl, by decide +kernel, by decide +kernel⟩
def fPut (a : V × V × V) : List (Str × V) := [("folder", a.1), ("name", a.2.1), ("node", a.2.2)]
theorem mk_Put (T : Txt K mg) : Mak P w K mg base 1 "Put" (He.ga K "Put") (spMkA (He.ga K "Put") (fun a : V × V × V => [a.1, a.2.1, a.2.2]) (fun _ _ => True) (fun a => InsF (He.ga K "Put") (fPut a))) [] := by
  refine mak T.f_Put_init T.k_Put T.g_Put sc_Put (fun _ _ _ _ _ _ us hl => match us, hl with | [_, _, _, _], _ => rfl) (fun vs H Q E h => ?_) (fun cdv A outer s H vs Q E hr h => ?_)
  · obtain ⟨a, _, _, _, rfl, _⟩ := h
    rfl
  · obtain ⟨a, H1, x, dx, rfl, rfl, nx, nd, ne, _, q⟩ := h
    refine ⟨_, pss_cons (ps_fld (pv 0) (pv 1) rfl) (pss_cons (ps_fld (pv 0) (pv 2) rfl) (pss_one (ps_fld (pv 0) (pv 3) rfl))), ?_⟩
    refine ⟨_, rfl, _, rfl, x, _, dx, _, rfl, upd_same, T.c_Put, T.a_Put_folder, by decide, _, rfl, _, rfl, x, _, dx, _, rfl, upd_same, T.c_Put, T.a_Put_name, len1, _, rfl, _, rfl, x, _, dx, _, rfl, upd_same, T.c_Put, T.a_Put_node, len2, ?_⟩
    exact q _ (sput (sput (sput (same_mk nx nd) nx) nx) nx) ⟨dx, upd_same.trans (congrArg (fun z => some (HO.ins _ _ z)) (putF3 (by decide +kernel)))⟩
theorem sc_Take : FnScope ["self", "folder", "name"] ["self", "folder", "name"] (defScope s_Take_init) := ⟨rfl, rfl, rfl, by decide +kernel, rfl, by decide +kernel, by decide +kernel⟩
def fTake (a : V × V) : List (Str × V) := [("folder", a.1), ("name", a.2)]
theorem mk_Take (T : Txt K mg) : Mak P w K mg base 1 "Take" (He.ga K "Take") (spMkA (He.ga K "Take") (fun a : V × V => [a.1, a.2]) (fun _ _ => True) (fun a => InsF (He.ga K "Take") (fTake a))) [] := by
  refine mak T.f_Take_init T.k_Take T.g_Take sc_Take (fun _ _ _ _ _ _ us hl => match us, hl with | [_, _, _], _ => rfl) (fun vs H Q E h => ?_) (fun cdv A outer s H vs Q E hr h => ?_)
  · obtain ⟨a, _, _, _, rfl, _⟩ := h
    rfl
  · obtain ⟨a, H1, x, dx, rfl, rfl, nx, nd, ne, _, q⟩ := h
    refine ⟨_, pss_cons (ps_fld (pv 0) (pv 1) rfl) (pss_one (ps_fld (pv 0) (pv 2) rfl)), ?_⟩
    refine ⟨_, rfl, _, rfl, x, _, dx, _, rfl, upd_same, T.c_Take, T.a_Take_folder, by decide, _, rfl, _, rfl, x, _, dx, _, rfl, upd_same, T.c_Take, T.a_Take_name, len1, ?_⟩
    exact q _ (sput (sput (same_mk nx nd) nx) nx) ⟨dx, upd_same.trans (congrArg (fun z => some (HO.ins _ _ z)) (putF2 (by decide +kernel)))⟩
theorem sc_Move : FnScope ["self", "folder", "name", "goal", "other"] ["self", "folder", "name", "goal", "other"] (defScope s_Move_init) := ⟨rfl, rfl, rfl, by decide +kernel, rfl, by decide +kernel, by decide +kernel⟩
def fMove (a : V × V × V × V) : List (Str × V) := [("folder", a.1), ("name", a.2.1), ("goal", a.2.2.1), ("other", a.2.2.2)]
theorem mk_Move (T : Txt K mg) : Mak P w K mg base 1 "Move" (He.ga K "Move") (spMkA (He.ga K "Move") (fun a : V × V × V × V => [a.1, a.2.1, a.2.2.1, a.2.2.2]) (fun _ _ => True) (fun a => InsF (He.ga K "Move") (fMove a))) [] := by
  refine mak T.f_Move_init T.k_Move T.g_Move sc_Move (fun _ _ _ _ _ _ us hl => match us, hl with | [_, _, _, _, _], _ => rfl) (fun vs H Q E h => ?_) (fun cdv A outer s H vs Q E hr h => ?_)
  · obtain ⟨a, _, _, _, rfl, _⟩ := h
    rfl
  · obtain ⟨a, H1, x, dx, rfl, rfl, nx, nd, ne, _, q⟩ := h
    refine ⟨_, pss_cons (ps_fld (pv 0) (pv 1) rfl) (pss_cons (ps_fld (pv 0) (pv 2) rfl) (pss_cons (ps_fld (pv 0) (pv 3) rfl) (pss_one (ps_fld (pv 0) (pv 4) rfl)))), ?_⟩
    refine ⟨_, rfl, _, rfl, x, _, dx, _, rfl, upd_same, T.c_Move, T.a_Move_folder, by decide, _, rfl, _, rfl, x, _, dx, _, rfl, upd_same, T.c_Move, T.a_Move_name, len1, _, rfl, _, rfl, x, _, dx, _, rfl, upd_same, T.c_Move, T.a_Move_goal, len2, _, rfl, _, rfl, x, _, dx, _, rfl, upd_same, T.c_Move, T.a_Move_other, len3, ?_⟩
    exact q _ (sput (sput (sput (sput (same_mk nx nd) nx) nx) nx) nx) ⟨dx, upd_same.trans (congrArg (fun z => some (HO.ins _ _ z)) (putF4 (by decide +kernel)))⟩
theorem sc_Came : FnScope ["self", "node"] ["self", "node"] (defScope s_Came_init) := ⟨rfl, rfl, rfl, by decide +kernel, rfl, by decide +kernel, by decide +kernel⟩
def fCame (a : V) : List (Str × V) := [("node", a)]
theorem mk_Came (T : Txt K mg) : Mak P w K mg base 1 "Came" (He.ga K "Came") (spMkA (He.ga K "Came") (fun a : V => [a]) (fun _ _ => True) (fun a => InsF (He.ga K "Came") (fCame a))) [] := by
  refine mak T.f_Came_init T.k_Came T.g_Came sc_Came (fun _ _ _ _ _ _ us hl => match us, hl with | [_, _], _ => rfl) (fun vs H Q E h => ?_) (fun cdv A outer s H vs Q E hr h => ?_)
  · obtain ⟨a, _, _, _, rfl, _⟩ := h
    rfl
  · obtain ⟨a, H1, x, dx, rfl, rfl, nx, nd, ne, _, q⟩ := h
    refine ⟨_, pss_one (ps_fld (pv 0) (pv 1) rfl), ?_⟩
    refine ⟨_, rfl, _, rfl, x, _, dx, _, rfl, upd_same, T.c_Came, T.a_Came_node, by decide, ?_⟩
    exact q _ (sput (same_mk nx nd) nx) ⟨dx, upd_same⟩
theorem sc_Refused : FnScope ["self", "why"] ["self", "why"] (defScope s_Refused_init) := ⟨rfl, rfl, rfl, by decide +kernel, rfl, by decide +kernel, by decide +kernel⟩
def fRefused (a : V) : List (Str × V) := [("why", a)]
theorem mk_Refused (T : Txt K mg) : Mak P w K mg base 1 "Refused" (He.ga K "Refused") (spMkA (He.ga K "Refused") (fun a : V => [a]) (fun _ _ => True) (fun a => InsF (He.ga K "Refused") (fRefused a))) [] := by
  refine mak T.f_Refused_init T.k_Refused T.g_Refused sc_Refused (fun _ _ _ _ _ _ us hl => match us, hl with | [_, _], _ => rfl) (fun vs H Q E h => ?_) (fun cdv A outer s H vs Q E hr h => ?_)
  · obtain ⟨a, _, _, _, rfl, _⟩ := h
    rfl
  · obtain ⟨a, H1, x, dx, rfl, rfl, nx, nd, ne, _, q⟩ := h
    refine ⟨_, pss_one (ps_fld (pv 0) (pv 1) rfl), ?_⟩
    refine ⟨_, rfl, _, rfl, x, _, dx, _, rfl, upd_same, T.c_Refused, T.a_Refused_why, by decide, ?_⟩
    exact q _ (sput (same_mk nx nd) nx) ⟨dx, upd_same⟩
theorem sc_State : FnScope ["self", "place", "steps", "links", "wanted"] ["self", "place", "steps", "links", "wanted"] (defScope s_State_init) := ⟨rfl, rfl, rfl, by decide +kernel, rfl, by decide +kernel, by decide +kernel⟩
def fState (a : V × V × V × V) : List (Str × V) := [("place", a.1), ("steps", a.2.1), ("links", a.2.2.1), ("wanted", a.2.2.2)]
theorem mk_State (T : Txt K mg) : Mak P w K mg base 1 "State" (He.ga K "State") (spMkA (He.ga K "State") (fun a : V × V × V × V => [a.1, a.2.1, a.2.2.1, a.2.2.2]) (fun _ _ => True) (fun a => InsF (He.ga K "State") (fState a))) [] := by
  refine mak T.f_State_init T.k_State T.g_State sc_State (fun _ _ _ _ _ _ us hl => match us, hl with | [_, _, _, _, _], _ => rfl) (fun vs H Q E h => ?_) (fun cdv A outer s H vs Q E hr h => ?_)
  · obtain ⟨a, _, _, _, rfl, _⟩ := h
    rfl
  · obtain ⟨a, H1, x, dx, rfl, rfl, nx, nd, ne, _, q⟩ := h
    refine ⟨_, pss_cons (ps_fld (pv 0) (pv 1) rfl) (pss_cons (ps_fld (pv 0) (pv 2) rfl) (pss_cons (ps_fld (pv 0) (pv 3) rfl) (pss_one (ps_fld (pv 0) (pv 4) rfl)))), ?_⟩
    refine ⟨_, rfl, _, rfl, x, _, dx, _, rfl, upd_same, T.c_State, T.a_State_place, by decide, _, rfl, _, rfl, x, _, dx, _, rfl, upd_same, T.c_State, T.a_State_steps, len1, _, rfl, _, rfl, x, _, dx, _, rfl, upd_same, T.c_State, T.a_State_links, len2, _, rfl, _, rfl, x, _, dx, _, rfl, upd_same, T.c_State, T.a_State_wanted, len3, ?_⟩
    exact q _ (sput (sput (sput (sput (same_mk nx nd) nx) nx) nx) nx) ⟨dx, upd_same.trans (congrArg (fun z => some (HO.ins _ _ z)) (putF4 (by decide +kernel)))⟩
theorem sc_Climb : FnScope ["self", "place", "names", "is_gone"] ["self", "place", "names", "is_gone"] (defScope s_Climb_init) := ⟨rfl, rfl, rfl, by decide +kernel, rfl, by decide +kernel, by decide +kernel⟩
def fClimb (a : V × V × V) : List (Str × V) := [("place", a.1), ("names", a.2.1), ("is_gone", a.2.2)]
theorem mk_Climb (T : Txt K mg) : Mak P w K mg base 1 "Climb" (He.ga K "Climb") (spMkA (He.ga K "Climb") (fun a : V × V × V => [a.1, a.2.1, a.2.2]) (fun _ _ => True) (fun a => InsF (He.ga K "Climb") (fClimb a))) [] := by
  refine mak T.f_Climb_init T.k_Climb T.g_Climb sc_Climb (fun _ _ _ _ _ _ us hl => match us, hl with | [_, _, _, _], _ => rfl) (fun vs H Q E h => ?_) (fun cdv A outer s H vs Q E hr h => ?_)
  · obtain ⟨a, _, _, _, rfl, _⟩ := h
    rfl
  · obtain ⟨a, H1, x, dx, rfl, rfl, nx, nd, ne, _, q⟩ := h
    refine ⟨_, pss_cons (ps_fld (pv 0) (pv 1) rfl) (pss_cons (ps_fld (pv 0) (pv 2) rfl) (pss_one (ps_fld (pv 0) (pv 3) rfl))), ?_⟩
    refine ⟨_, rfl, _, rfl, x, _, dx, _, rfl, upd_same, T.c_Climb, T.a_Climb_place, by decide, _, rfl, _, rfl, x, _, dx, _, rfl, upd_same, T.c_Climb, T.a_Climb_names, len1, _, rfl, _, rfl, x, _, dx, _, rfl, upd_same, T.c_Climb, T.a_Climb_is_gone, len2, ?_⟩
    exact q _ (sput (sput (sput (same_mk nx nd) nx) nx) nx) ⟨dx, upd_same.trans (congrArg (fun z => some (HO.ins _ _ z)) (putF3 (by decide +kernel)))⟩
end
end NW
set_option Elab.async false
set_option linter.all false
set_option maxRecDepth 100000
set_option maxHeartbeats 1000000
/-! W2: is_name, found_nodes, by_names, Folder. -/
namespace NW
open PySem PySem.Spec PyProof.Rows L2
/-! one entry of a name -/
theorem fm_one {r n : Nat} : ∀ {es : List (Nat × Nat)}, (es.map (·.1)).Nodup → (r, n) ∈ es → (es.filterMap fun e => if e.1 = r then some (V.int (e.2 : Nat)) else none) = [V.int (n : Nat)]
  | [], _, h => by simp at h
  | e :: es, hn, h => by
    rw [List.map_cons, List.nodup_cons] at hn
    rcases List.mem_cons.mp h with h | h
    · subst h
      have q : (es.filterMap fun e => if e.1 = r then some (V.int (e.2 : Nat)) else none) = [] := by
        rw [List.filterMap_eq_nil_iff]
        intro e he
        have : e.1 ≠ r := fun z => hn.1 (z ▸ List.mem_map_of_mem (f := (·.1)) he)
        simp [this]
      simp [q]
    · have hne : ¬ e.1 = r := fun z => hn.1 (z ▸ List.mem_map_of_mem (f := (·.1)) h)
      simp [hne, fm_one hn.2 h]
theorem cnt_one {r : Nat} (hr : r < 4) : ∀ {ks : List Nat}, ks.Nodup → (∀ k ∈ ks, k < 4) → r ∈ ks → (ks.map fun k => V.str (nm k)).countP (fun z => eqV z (.str (nm r))) = 1
  | [], _, _, h => by simp at h
  | k :: ks, hn, hl, h => by
    rw [List.nodup_cons] at hn
    have e : ∀ j, j < 4 → (eqV (.str (nm j)) (.str (nm r)) = true ↔ j = r) := fun j hj => by
      show (nm j == nm r) = true ↔ j = r
      rw [beq_iff_eq]
      exact ⟨nm_inj hj hr, fun z => by rw [z]⟩
    rw [List.map_cons, List.countP_cons]
    rcases List.mem_cons.mp h with h | h
    · subst h
      have q : (ks.map fun k => V.str (nm k)).countP (fun z => eqV z (.str (nm r))) = 0 := by
        rw [List.countP_eq_zero]
        intro z hz
        obtain ⟨j, hj, rfl⟩ := List.mem_map.mp hz
        intro c
        exact hn.1 (((e j (hl j (List.mem_cons_of_mem _ hj))).mp c) ▸ hj)
      rw [q, if_pos ((e r hr).mpr rfl)]
    · have c : ¬ eqV (.str (nm k)) (.str (nm r)) = true := fun c => hn.1 (((e k (hl k List.mem_cons_self)).mp c) ▸ h)
      rw [if_neg c, cnt_one hr hn.2 (fun j hj => hl j (List.mem_cons_of_mem _ hj)) h]
section
variable {P : Program} {w : World} {K : Frag} {mg : Str → Option Value} {base : Heap}
def letters : Str := "abcdefghijklmnopqrstuvwxyz0123456789_-."
theorem nm_len : ∀ k : _root_.Fin 4, (nm k.1).length ≤ sizeLine ∧ 1 ≤ ((nm k.1).length : Int) ∧ ((nm k.1).length : Int) ≤ 12 ∧ (nm k.1).cps.size ≤ 12 := by decide +kernel
theorem nm_in : ∀ k : _root_.Fin 4, inV (.str (nm k.1)) [.str ".", .str ".."] = false := by decide +kernel
theorem nm_all : ∀ k : _root_.Fin 4, ((nm k.1).cps.toList.all fun c => decide (c ∈ letters.cps.toList)) = true := by decide +kernel
def spIsName : Sp := fun vs H Q _ => ∃ k : Nat, k < 4 ∧ vs = [.str (nm k)] ∧ ∀ H', Same H H' → Q (.bl true) H'
theorem sc_is_name : FnScope ["thing", "letter"] ["thing"] (defScope s_is_name) := ⟨rfl, rfl, rfl, by decide +kernel, rfl, by decide +kernel, by decide +kernel⟩
theorem ok_is_name (T : Txt K mg) : Cal P w K mg base 1 "is_name" spIsName [] := by
  refine cal T.f_is_name T.g_is_name sc_is_name (fun _ _ _ _ _ _ us hl => match us, hl with | [_], _ => rfl) (fun vs H Q E h => ?_) (fun cdv A outer s H vs Q E hr h => ?_)
  · obtain ⟨k, _, rfl, _⟩ := h
    rfl
  · obtain ⟨k, hk, rfl, q⟩ := h
    have e1 := nm_len ⟨k, hk⟩
    have e2 := nm_in ⟨k, hk⟩
    have e3 := nm_all ⟨k, hk⟩
    simp only at e1 e2 e3
    refine ⟨_, pss_cons (ps_if (PW.pt (pw_or (pt_not (pt_val (pe_callB call_isi (by rfl) T.n_isinstance (by decide +kernel) (pa_cons (pv 0) (pa_cons (pe_bltn (v := .ty "str") (by rfl) T.n_str (by decide +kernel) rfl) pa_nil)))))
        (pw_or (pt_not (pt_chain op_le op_le pe_int (pe_callB call_len_str (by rfl) T.n_len PySem.boot_len (pa_cons (pv 0) pa_nil)) (C8.pe_gc (by rfl) T.v_MOST_LETTERS)))
        (pw_or1 (pt_cmpR op_in_seq (pv 0) (pe_tup (pa_cons (C8.pe_gc (by rfl) T.v_HERE) (pa_cons (C8.pe_gc (by rfl) T.v_UP) pa_nil))) (by rfl)))))) pss_never pss_nil)
      (pss_one (ps_ret (pe_callB (cr_all rfl) (by rfl) T.n_all (by decide +kernel) (pa_cons (pe_lc (own := [("letter", 1)]) (g := gName 1) (tt := tYes) rfl sc_is_name.nd (pi_str (pv 0)) (blkOk_by (N := ["thing", "letter"]) (sc := defScope s_is_name) (by decide +kernel))
        (fun _ _ _ _ _ => pg_name (i := 1) sc_is_name.nd rfl (Or.inl rfl)) (fun _ _ _ _ _ => pts_nil) (fun _ _ _ _ _ => pe_cmpR op_in_sign (pv 1) (C8.pe_gc (by rfl) T.v_LETTERS) (by rfl))) pa_nil)))), ?_⟩
    refine ⟨_, rfl, _, _, _, _, true, rfl, .ty _, .base (.str _), kit_ty (by decide +kernel), _, rfl, iteF ?_⟩
    refine ⟨_, rfl, _, rfl, e1.1, 1, _, rfl, rfl, true, congrArg V.bl (decide_eq_true e1.2.1), iteT ⟨_, _, rfl, rfl, true, congrArg V.bl (decide_eq_true e1.2.2.1), iteF ?_⟩⟩
    refine ⟨_, rfl, (by show 2 ≤ sizeLine; decide), fun p np => ⟨p, _, rfl, .inr (SqT.of upd_same), rfl, rfl, _, rfl, ?_⟩⟩
    rw [show (if false = true then !inV (.str (nm k)) [.str ".", .str ".."] else inV (.str (nm k)) [.str ".", .str ".."]) = false from e2]
    refine iteF ?_
    refine ⟨_, rfl, _, rfl, fun D nD => lc_fm walk_str (fun i => some (.bl true)) nD (fun _ _ => True.intro) (Nat.le_trans e1.2.2.2 (by decide)) ?_ ?_⟩
    · intro i x H' H2 Qy Qn hi s hy ky _
      obtain ⟨rfl, c, hc, rfl⟩ := hy
      refine ⟨rfl, _, rfl, c, _, rfl, rfl, ?_⟩
      have hm : c ∈ (nm k).cps.toList := by
        rw [← Array.getElem?_toList] at hc
        exact List.mem_of_getElem? hc
      have hq : decide (c ∈ letters.cps.toList) = true := List.all_eq_true.mp e3 c hm
      show Qy (.bl (decide (c ∈ letters.cps.toList))) _
      rw [hq]
      exact ky _ rfl
    · have eo : outsTo (fun _ => some (V.bl true)) (nm k).cps.size = (List.replicate (nm k).cps.size true).map V.bl := by
        unfold outsTo
        rw [List.map_replicate]
        generalize (nm k).cps.size = n
        induction n with
        | zero => rfl
        | succ n ih => rw [List.range_succ, List.filterMap_append, ih]; simp [List.replicate_succ']
      refine ⟨D, List.replicate (nm k).cps.size true, rfl, SqL.of (by rw [← eo]; exact upd_same), ?_⟩
      have ea : (List.replicate (nm k).cps.size true).all id = true := by simp
      rw [ea]
      exact q _ (snew (same_new np) nD)
/-! found_nodes -/
def spFoundNodes (K : Frag) : Sp := fun vs H Q _ => ∃ (a b : Addr) (qs : List Addr) (es : List (Nat × Nat)) (ks : List Nat) (r n : Nat), vs = [.ref a, .ref b] ∧ SqL K H a (qs.map V.ref) ∧ Paired (EPair H) qs es ∧ (es.map (·.1)).Nodup ∧ (∀ e ∈ es, e.1 < 4) ∧ es.length ≤ 100 ∧
  SqL K H b ((ks ++ [r]).map fun k => V.str (nm k)) ∧ (ks ++ [r]).Nodup ∧ (∀ k ∈ ks ++ [r], k < 4) ∧ (r, n) ∈ es ∧ ∀ H', Same H H' → Q (.int n) H'
theorem sc_found_nodes : FnScope ["entries", "names", "some", "name", "node"] ["entries", "names"] (defScope s_found_nodes) := ⟨rfl, rfl, rfl, by decide +kernel, rfl, by decide +kernel, by decide +kernel⟩
theorem ok_found_nodes (T : Txt K mg) : Cal P w K mg base 1 "found_nodes" (spFoundNodes K) [] := by
  refine cal T.f_found_nodes T.g_found_nodes sc_found_nodes (fun _ _ _ _ _ _ us hl => match us, hl with | [_, _], _ => rfl) (fun vs H Q E h => ?_) (fun cdv A outer s H vs Q E hr h => ?_)
  · obtain ⟨a, b, qs, es, ks, r, n, rfl, _⟩ := h
    rfl
  · obtain ⟨a, b, qs, es, ks, r, n, rfl, ha, hp, hnd, hl4, hlen, hb, hkn, hk4, hrn, q⟩ := h
    have nd := sc_found_nodes.nd
    refine ⟨_, pss_cons (ps_setLc (i := 2) (own := [("name", 3), ("node", 4)]) (g := gTup K 2 (gCons (gName 3) (gCons (gName 4) gNil))) (tt := tTest _) rfl nd rfl rfl (sw_true rfl rfl rfl (by decide +kernel)) (pi_list (pv 0)) (blkOk_by (N := ["entries", "names", "some", "name", "node"]) (sc := defScope s_found_nodes) (by decide +kernel))
        (fun _ _ _ _ _ => pg_tup rfl (pgs_cons (pg_name (i := 3) nd rfl (Or.inl rfl)) (pgs_cons (pg_name (i := 4) nd rfl (Or.inl rfl)) pgs_nil)))
        (fun _ _ _ _ _ => pts_one (pt_cmpR op_eq (pv 3) (pe_ix (r := rIxL K) ix_list (pv 1) (pe_un un_neg pe_int) (fun _ _ => rfl)) (nomark _))) (fun _ _ _ _ _ => pv 4))
      (pss_one (ps_ret (pe_ix (r := rIxL K) ix_list (pv 2) (pe_op op_sub (pe_bm PySem.F.plainAttrs_list PySem.F.slot_list_count PySem.F.type_list_count mt_countV (pv 1) (pa_cons (pe_ix (r := rIxL K) ix_list (pv 1) (pe_un un_neg pe_int) (fun _ _ => rfl)) pa_nil)) pe_int) (fun _ _ => rfl)))), ?_⟩
    have elast : atI ((ks ++ [r]).map fun k => V.str (nm k)) (-1) = some (.str (nm r)) := by
      rw [List.map_append]
      exact atI_last _ _
    have hr4 : r < 4 := hk4 r (by simp)
    refine ⟨_, rfl, a, rfl, ⟨_, ha⟩, fun D nD => lc_fm walk_list (fun i => (es[i]?).bind fun e => if e.1 = r then some (V.int (e.2 : Nat)) else none) nD (fun H' s => s.seq ha) (by rw [List.length_map, Plen hp]; exact Nat.le_trans hlen (by decide)) ?_ ?_⟩
    · intro i x H' H2 Qy Qn hi s hy ky kn
      obtain ⟨rfl, hx⟩ := hy
      rw [List.getElem?_map] at hx
      cases hq : qs[i]? with
      | none =>
        rw [hq] at hx
        cases hx
      | some t =>
        rw [hq] at hx
        cases hx
        obtain ⟨⟨k, m⟩, he, hE⟩ := Pget' hp hq
        have hk : k < 4 := hl4 _ (List.mem_of_getElem? he)
        refine ⟨t, _, rfl, SqT.of (s _ _ hE), rfl, _, _, rfl, _, _, rfl, rfl, rfl, _, rfl, _, rfl, _, rfl, b, _, _, _, rfl, rfl, s.seq hb, elast, rfl, _, rfl, ?_⟩
        rw [he] at ky kn
        by_cases hkr : k = r
        · rw [if_pos (decide_eq_true (by rw [hkr]))]
          exact ⟨_, rfl, ky _ (by simp [hkr])⟩
        · rw [if_neg (fun z => hkr (nm_inj hk hr4 (V.str.inj (of_decide_eq_true z))))]
          exact kn (by simp [hkr])
    · have eo : outsTo (fun i => (es[i]?).bind fun e => if e.1 = r then some (V.int (e.2 : Nat)) else none) (qs.map V.ref).length = [V.int (n : Nat)] := by
        rw [List.length_map, Plen hp, outsTo_map es (fun e => if e.1 = r then some (V.int (e.2 : Nat)) else none) _ (fun i e he => by rw [he]; rfl)]
        exact fm_one hnd hrn
      rw [eo]
      have s1 : Same H (upd H D (.lst [V.int (n : Nat)])) := same_new nD
      have ec : ((ks ++ [r]).map fun k => V.str (nm k)).countP (fun z => eqV z (.str (nm r))) = 1 := cnt_one hr4 hkn hk4 (by simp)
      refine ⟨_, rfl, _, rfl, .inl ⟨rfl, _, s1.seq hb⟩, _, rfl, _, rfl, b, _, _, _, rfl, rfl, s1.seq hb, elast, b, _, _, rfl, rfl, s1.seq hb, rfl, ?_, _, _, rfl, rfl, D, _, _, _, rfl, rfl, SqL.of upd_same, ?_, q _ s1⟩
      · rw [List.all_map]
        exact List.all_eq_true.mpr fun _ _ => rfl
      · rw [ec]
        rfl
end
end NW
set_option Elab.async false
set_option linter.all false
set_option maxRecDepth 100000
/-! KS: sorted entries, sorted names. -/
namespace NW
open PySem PySem.Spec PyProof.Rows
theorem insE_perm (k n : Nat) : ∀ es : List (Nat × Nat), (insE k n es).Perm ((k, n) :: es)
  | [] => .refl _
  | e :: r => by
    unfold insE
    split
    · exact .refl _
    · exact ((insE_perm k n r).cons e).trans (.swap _ _ _)
theorem srtE_perm : ∀ es : List (Nat × Nat), (srtE es).Perm es
  | [] => .refl _
  | e :: r => (insE_perm e.1 e.2 (srtE r)).trans ((srtE_perm r).cons e)
abbrev Srt (es : List (Nat × Nat)) : Prop := es.Pairwise fun a b => a.1 < b.1
theorem insE_srt {k n : Nat} : ∀ {es : List (Nat × Nat)}, Srt es → (∀ e ∈ es, e.1 ≠ k) → Srt (insE k n es)
  | [], _, _ => by simp [insE]
  | e :: r, h, hn => by
    unfold insE
    obtain ⟨h1, h2⟩ := List.pairwise_cons.mp h
    split
    · rename_i c
      refine List.pairwise_cons.mpr ⟨fun x hx => ?_, h⟩
      rcases List.mem_cons.mp hx with rfl | hx
      · exact c
      · have := h1 x hx
        show k < x.1
        omega
    · rename_i c
      refine List.pairwise_cons.mpr ⟨fun x hx => ?_, insE_srt h2 fun e he => hn e (List.mem_cons_of_mem _ he)⟩
      rcases List.mem_cons.mp ((insE_perm k n r).mem_iff.mp hx) with rfl | hx
      · have := hn e List.mem_cons_self
        show e.1 < k
        omega
      · exact h1 x hx
theorem srtE_srt : ∀ {es : List (Nat × Nat)}, (es.map (·.1)).Nodup → Srt (srtE es)
  | [], _ => List.Pairwise.nil
  | e :: r, h => by
    rw [List.map_cons, List.nodup_cons] at h
    refine insE_srt (srtE_srt h.2) fun x hx q => h.1 ?_
    rw [← q]
    exact List.mem_map_of_mem (f := (·.1)) ((srtE_perm r).mem_iff.mp hx)
theorem srt_nodup {es : List (Nat × Nat)} (h : Srt es) : (es.map (·.1)).Nodup := by
  unfold List.Nodup
  rw [List.pairwise_map]
  exact h.imp fun h => Nat.ne_of_lt h
/-- two rising lists of the same members are one -/
theorem rise_ext : ∀ {l1 l2 : List Nat}, l1.Pairwise (· < ·) → l2.Pairwise (· < ·) → (∀ x, x ∈ l1 ↔ x ∈ l2) → l1 = l2
  | [], [], _, _, _ => rfl
  | [], y :: r, _, _, h => absurd ((h y).mpr List.mem_cons_self) (by simp)
  | x :: r, [], _, _, h => absurd ((h x).mp List.mem_cons_self) (by simp)
  | x :: r, y :: q, h1, h2, h => by
    obtain ⟨a1, a2⟩ := List.pairwise_cons.mp h1
    obtain ⟨b1, b2⟩ := List.pairwise_cons.mp h2
    have e : x = y := by
      rcases List.mem_cons.mp ((h x).mp List.mem_cons_self) with e | hx
      · exact e
      · rcases List.mem_cons.mp ((h y).mpr List.mem_cons_self) with e | hy
        · exact e.symm
        · have := b1 x hx
          have := a1 y hy
          omega
    subst e
    refine congrArg (x :: ·) (rise_ext a2 b2 fun z => ⟨fun hz => ?_, fun hz => ?_⟩)
    · rcases List.mem_cons.mp ((h z).mp (List.mem_cons_of_mem _ hz)) with e | hz'
      · have := a1 z hz
        omega
      · exact hz'
    · rcases List.mem_cons.mp ((h z).mpr (List.mem_cons_of_mem _ hz)) with e | hz'
      · have := b1 z hz
        omega
      · exact hz'
/-- the same of entries -/
theorem rise_extE : ∀ {l1 l2 : List (Nat × Nat)}, Srt l1 → Srt l2 → (∀ x, x ∈ l1 ↔ x ∈ l2) → l1 = l2
  | [], [], _, _, _ => rfl
  | [], y :: r, _, _, h => absurd ((h y).mpr List.mem_cons_self) (by simp)
  | x :: r, [], _, _, h => absurd ((h x).mp List.mem_cons_self) (by simp)
  | x :: r, y :: q, h1, h2, h => by
    obtain ⟨a1, a2⟩ := List.pairwise_cons.mp h1
    obtain ⟨b1, b2⟩ := List.pairwise_cons.mp h2
    have e : x = y := by
      rcases List.mem_cons.mp ((h x).mp List.mem_cons_self) with e | hx
      · exact e
      · rcases List.mem_cons.mp ((h y).mpr List.mem_cons_self) with e | hy
        · exact e.symm
        · have := b1 x hx
          have := a1 y hy
          omega
    subst e
    refine congrArg (x :: ·) (rise_extE a2 b2 fun z => ⟨fun hz => ?_, fun hz => ?_⟩)
    · rcases List.mem_cons.mp ((h z).mp (List.mem_cons_of_mem _ hz)) with e | hz'
      · have := a1 z hz
        subst e
        omega
      · exact hz'
    · rcases List.mem_cons.mp ((h z).mpr (List.mem_cons_of_mem _ hz)) with e | hz'
      · have := b1 z hz
        subst e
        omega
      · exact hz'
theorem srtE_id {es : List (Nat × Nat)} (h : Srt es) : srtE es = es := rise_extE (srtE_srt (srt_nodup h)) h fun x => (srtE_perm es).mem_iff
theorem srtE_add {k n : Nat} {es : List (Nat × Nat)} (h : Srt es) (hn : ∀ e ∈ es, e.1 ≠ k) : srtE (es ++ [(k, n)]) = insE k n es := by
  refine rise_extE (srtE_srt ?_) (insE_srt h hn) fun x => ?_
  · rw [List.map_append, List.nodup_append]
    refine ⟨srt_nodup h, by simp, fun a ha b hb => ?_⟩
    obtain ⟨e, he, rfl⟩ := List.mem_map.mp ha
    simp at hb
    subst hb
    exact hn e he
  · rw [(srtE_perm _).mem_iff, (insE_perm k n es).mem_iff]
    simp [or_comm]
/-- a name's rank -/
def rk (x : Str) : Nat := if x = nm 0 then 0 else if x = nm 1 then 1 else if x = nm 2 then 2 else 3
theorem rk_nm : ∀ {k : Nat}, k < 4 → rk (nm k) = k := by
  have h : ∀ k : _root_.Fin 4, rk (nm k.1) = k.1 := by decide +kernel
  exact fun {k} hk => h ⟨k, hk⟩
theorem nm_lt : ∀ {i j : Nat}, i < 4 → j < 4 → ltCps (nm j).cps.toList (nm i).cps.toList = false → i ≤ j := by
  have h : ∀ i j : _root_.Fin 4, ltCps (nm j.1).cps.toList (nm i.1).cps.toList = false → i.1 ≤ j.1 := by decide +kernel
  exact fun {i j} hi hj e => h ⟨i, hi⟩ ⟨j, hj⟩ e
theorem rising_ranks : ∀ (p : Nat) (js : List Nat), p < 4 → (∀ j ∈ js, j < 4) → risingS (nm p) (js.map nm) = true → (p :: js).Pairwise (· ≤ ·)
  | p, [], _, _, _ => by simp
  | p, j :: js, hp, hj, h => by
    have hj4 := hj j List.mem_cons_self
    rw [List.map_cons] at h
    unfold risingS at h
    rw [Bool.and_eq_true, Bool.not_eq_true'] at h
    have h1 := nm_lt hp hj4 h.1
    have h2 := rising_ranks j js hj4 (fun x hx => hj x (List.mem_cons_of_mem _ hx)) h.2
    refine List.pairwise_cons.mpr ⟨fun x hx => ?_, h2⟩
    rcases List.mem_cons.mp hx with rfl | hx
    · exact h1
    · exact Nat.le_trans h1 ((List.pairwise_cons.mp h2).1 x hx)
/-- sorted names are the names of the sorted ranks -/
theorem sorted_names {ks : List Nat} {ys : List Str} (hn : ks.Nodup) (h4 : ∀ k ∈ ks, k < 4) (hp : ys.Perm (ks.map nm)) (hs : sortedS ys = true) : ∃ js : List Nat, ys = js.map nm ∧ js.Perm ks ∧ js.Pairwise (· < ·) := by
  have hy : ∀ y ∈ ys, ∃ k, k < 4 ∧ y = nm k := fun y hy => by
    obtain ⟨k, hk, e⟩ := List.mem_map.mp (hp.mem_iff.mp hy)
    exact ⟨k, h4 k hk, e.symm⟩
  have e1 : ys = (ys.map rk).map nm := by
    rw [List.map_map]
    refine (List.map_id ys).symm.trans (List.map_congr_left fun y hym => ?_)
    obtain ⟨k, hk, rfl⟩ := hy y hym
    show nm k = nm (rk (nm k))
    rw [rk_nm hk]
  have e2 : (ks.map nm).map rk = ks := by
    rw [List.map_map]
    refine Eq.trans (List.map_congr_left fun k hk => ?_) (List.map_id ks)
    exact rk_nm (h4 k hk)
  have p2 : (ys.map rk).Perm ks := by
    have := hp.map rk
    rw [e2] at this
    exact this
  refine ⟨ys.map rk, e1, p2, ?_⟩
  have le : (ys.map rk).Pairwise (· ≤ ·) := by
    rw [e1] at hs
    have j4 : ∀ j ∈ ys.map rk, j < 4 := fun j hj => h4 j (p2.mem_iff.mp hj)
    cases hq : ys.map rk with
    | nil => exact List.Pairwise.nil
    | cons p js =>
      rw [hq] at hs j4
      rw [List.map_cons] at hs
      exact rising_ranks p js (j4 p List.mem_cons_self) (fun j hj => j4 j (List.mem_cons_of_mem _ hj)) hs
  have nd : (ys.map rk).Nodup := p2.nodup_iff.mpr hn
  exact (le.and nd).imp fun h => Nat.lt_of_le_of_ne h.1 h.2
theorem sorted_entries {es : List (Nat × Nat)} {ys : List Str} (hn : (es.map (·.1)).Nodup) (h4 : ∀ e ∈ es, e.1 < 4) (hp : ys.Perm ((es.map (·.1)).map nm)) (hs : sortedS ys = true) : ys = ((srtE es).map (·.1)).map nm := by
  obtain ⟨js, e, p, r⟩ := sorted_names hn (fun k hk => by obtain ⟨e, he, rfl⟩ := List.mem_map.mp hk; exact h4 e he) hp hs
  have q := srtE_srt hn
  rw [e]
  congr 1
  refine rise_ext r (by rw [List.pairwise_map]; exact q) fun x => ?_
  rw [p.mem_iff, ((srtE_perm es).map (·.1)).mem_iff]
theorem nodup_len : ∀ {n : Nat} {l : List Nat}, l.Nodup → (∀ x ∈ l, x < n) → l.length ≤ n
  | 0, [], _, _ => Nat.le_refl 0
  | 0, x :: l, _, h => absurd (h x List.mem_cons_self) (Nat.not_lt_zero _)
  | n + 1, l, hn, h => by
    by_cases hm : n ∈ l
    · have e := List.length_erase_of_mem hm
      have := nodup_len (n := n) (hn.erase n) fun x hx => by
        have h1 := (hn.mem_erase_iff).mp hx
        have h2 := h x h1.2
        have h3 := h1.1
        omega
      have hp : 0 < l.length := List.length_pos_of_mem hm
      omega
    · have := nodup_len (n := n) hn fun x hx => by
        have h2 := h x hx
        have h3 : x ≠ n := fun z => hm (z ▸ hx)
        omega
      omega
theorem srt_len {es : List (Nat × Nat)} (h : Srt es) (h4 : ∀ e ∈ es, e.1 < 4) : es.length ≤ 4 := by
  have := nodup_len (n := 4) (srt_nodup h) fun x hx => by
    obtain ⟨e, he, rfl⟩ := List.mem_map.mp hx
    exact h4 e he
  rw [List.length_map] at this
  exact this
end NW
set_option Elab.async false
set_option linter.all false
set_option maxRecDepth 100000
set_option maxHeartbeats 1000000
/-! W3: by_names, Folder. -/
namespace NW
open PySem PySem.Spec PyProof.Rows L2
section
variable {P : Program} {w : World} {K : Frag} {mg : Str → Option Value} {base : Heap}
/-- a list or a tuple -/
def SqA (K : Frag) (H : Hp) (a : Addr) (xs : List V) : Prop := SqL K H a xs ∨ SqT K H a xs
theorem SqA.same {H H' : Hp} {a : Addr} {xs : List V} (s : Same H H') (h : SqA K H a xs) : SqA K H' a xs := by
  rcases h with h | h
  · exact .inl (s.seq h)
  · refine .inr ?_
    rcases h with (h | ⟨o, h⟩) | h
    · exact .inl (.inl (s _ _ h))
    · exact .inl (.inr ⟨o, s _ _ h⟩)
    · exact .inr h
theorem seqT {H H' : Hp} {a : Addr} {xs : List V} (s : Same H H') (h : SqT K H a xs) : SqT K H' a xs := by
  rcases h with (h | ⟨o, h⟩) | h
  · exact .inl (.inl (s _ _ h))
  · exact .inl (.inr ⟨o, s _ _ h⟩)
  · exact .inr h
/-- unsorted entries at an address -/
def EArg (K : Frag) (H : Hp) (a : Addr) (es : List (Nat × Nat)) : Prop := ∃ qs, SqA K H a (qs.map V.ref) ∧ Paired (EPair H) qs es ∧ (es.map (·.1)).Nodup ∧ (∀ e ∈ es, e.1 < 4) ∧ es.length ≤ 60
def EOut (H : Hp) (r : Addr) (es : List (Nat × Nat)) : Prop := ∃ qs : List Addr, H r = some (.tup (qs.map V.ref)) ∧ Paired (EPair H) qs es
def spByNames (K : Frag) : Sp := fun vs H Q _ => ∃ (a : Addr) (es : List (Nat × Nat)), vs = [.ref a] ∧ EArg K H a es ∧ ∀ r H', Same H H' → EOut H' r (srtE es) → Q (.ref r) H'
theorem sc_by_names : FnScope ["entries", "found", "names", "entry", "index", "name"] ["entries"] (defScope s_by_names) := ⟨rfl, rfl, rfl, by decide +kernel, rfl, by decide +kernel, by decide +kernel⟩
theorem ok_by_names (T : Txt K mg) : Cal P w K mg base 2 "by_names" (spByNames K) [] := by
  refine cal T.f_by_names T.g_by_names sc_by_names (fun _ _ _ _ _ _ us hl => match us, hl with | [_], _ => rfl) (fun vs H Q E h => ?_) (fun cdv A outer s H vs Q E hr h => ?_)
  · obtain ⟨a, es, rfl, _⟩ := h
    rfl
  · obtain ⟨a, es, rfl, ⟨qs, ha, hp, hnd, h4, hlen⟩, q⟩ := h
    have nd := sc_by_names.nd
    refine ⟨_, C8.pss_cut (ps_set (i := 1) nd rfl (Or.inr rfl) (pe_lc (own := [("entry", 3)]) (g := gName 3) (tt := tYes) rfl nd (pi_or (pi_list (pv 0)) (pi_tup (pv 0))) (blkOk_by (N := ["entries", "found", "names", "entry", "index", "name"]) (sc := defScope s_by_names) (by decide +kernel))
        (fun _ _ _ _ _ => pg_name (i := 3) nd rfl (Or.inl rfl)) (fun _ _ _ _ _ => pts_nil) (fun _ _ _ _ _ => tupK (K := K) (by rfl) T.n_tuple (pv 3))))
      (pss_cons (ps_if (pt_val (pe_callB (cr_all rfl) (by rfl) T.n_all (by decide +kernel) (pa_cons (pe_lc (own := [("entry", 3)]) (g := gName 3) (tt := tYes) rfl nd (pi_list (pv 1)) (blkOk_by (N := ["entries", "found", "names", "entry", "index", "name"]) (sc := defScope s_by_names) (by decide +kernel))
        (fun _ _ _ _ _ => pg_name (i := 3) nd rfl (Or.inl rfl)) (fun _ _ _ _ _ => pts_nil) (fun _ _ _ _ _ => pe_callB (isiK (K := K)) (by rfl) T.n_isinstance (by decide +kernel) (pa_cons (pe_ix (ixT (K := K)) (pv 3) pe_int (fun _ _ => rfl)) (pa_cons (pe_bltn (v := .ty "str") (by rfl) T.n_str (by decide +kernel) rfl) pa_nil)))) pa_nil)))
        (pss_cons (ps_set (i := 2) nd rfl (Or.inr rfl) (pe_callB cr_sortedS (by rfl) T.n_sorted (by decide +kernel) (pa_cons (pe_lc (own := [("entry", 3)]) (g := gName 3) (tt := tYes) rfl nd (pi_list (pv 1)) (blkOk_by (N := ["entries", "found", "names", "entry", "index", "name"]) (sc := defScope s_by_names) (by decide +kernel))
          (fun _ _ _ _ _ => pg_name (i := 3) nd rfl (Or.inl rfl)) (fun _ _ _ _ _ => pts_nil) (fun _ _ _ _ _ => pe_ix (ixT (K := K)) (pv 3) pe_int (fun _ _ => rfl))) pa_nil)))
        (pss_one (ps_set (i := 1) nd rfl (Or.inr rfl) (pe_lc (own := [("index", 4), ("name", 5)]) (g := gTup K 2 (gCons (gName 4) (gCons (gName 5) gNil))) (tt := tYes) rfl nd (pi_enum (by rfl) T.n_enumerate (pa_cons (pv 2) pa_nil)) (blkOk_by (N := ["entries", "found", "names", "entry", "index", "name"]) (sc := defScope s_by_names) (by decide +kernel))
          (fun _ _ _ _ _ => pg_tup rfl (pgs_cons (pg_name (i := 4) nd rfl (Or.inl rfl)) (pgs_cons (pg_name (i := 5) nd rfl (Or.inl rfl)) pgs_nil))) (fun _ _ _ _ _ => pts_nil)
          (fun _ _ _ _ _ => pe_tup (pa_cons (pv 5) (pa_cons (C8.pe_c (ok_found_nodes T) hr (by decide) rfl (pa_cons (pv 1) (pa_cons (pe_slice (slL (K := K)) (pv 2) po_none (po_some (pe_op op_add (pv 4) pe_int))) pa_nil))) pa_nil))))))) pss_nil)
      (pss_one (ps_ret (pe_tupleOf (by rfl) T.n_tuple (pv 1))))), ?_⟩
    have hq : ∀ (i : Nat) (x : V) (Hs : Hp), Same H Hs → (qs.map V.ref)[i]? = some x → ∃ t e, qs[i]? = some t ∧ es[i]? = some e ∧ x = .ref t ∧ Hs t = some (.tup [.str (nm e.1), .int e.2]) := fun i x Hs sm hx => by
      rw [List.getElem?_map] at hx
      cases hi : qs[i]? with
      | none => rw [hi] at hx; cases hx
      | some t =>
        rw [hi] at hx
        cases hx
        obtain ⟨e, he, hE⟩ := Pget' hp hi
        exact ⟨t, e, rfl, he, rfl, sm _ _ hE⟩
    have ll : (qs.map V.ref).length = es.length := by rw [List.length_map, Plen hp]
    have lz : (qs.map V.ref).length ≤ sizeLine := by rw [ll]; exact Nat.le_trans hlen (by decide)
    refine ⟨fun σ' H' => ∃ D, σ' = [some (.ref a), some (.ref D), none, none, none, none] ∧ H D = none ∧ H' = upd H D (.lst (qs.map V.ref)), ?_, ?_⟩
    · have eo : outsTo (fun i => (qs[i]?).map V.ref) (qs.map V.ref).length = qs.map V.ref := by
        rw [List.length_map, outsTo_map qs (fun t => some (V.ref t)) _ (fun i t e => by rw [e]; rfl), List.filterMap_eq_map']
      rcases ha with ha | ha
      · refine .inl ⟨_, rfl, a, rfl, ⟨_, ha⟩, fun D nD => lc_fm walk_list (fun i => (qs[i]?).map V.ref) nD (fun H' s => s.seq ha) lz (fun i x H' H2 Qy Qn hi s hy ky kn => ?_) ⟨D, rfl, nD, by rw [eo]⟩⟩
        obtain ⟨rfl, hx⟩ := hy
        obtain ⟨t, e, h1, h2, rfl, h3⟩ := hq i x _ s hx
        exact ⟨rfl, _, rfl, .inr ⟨t, _, rfl, SqT.of h3, ky _ (by rw [h1]; rfl)⟩⟩
      · refine .inr ⟨_, rfl, a, rfl, ⟨_, ha⟩, fun D nD => lc_fm walk_tup (fun i => (qs[i]?).map V.ref) nD (fun H' s => seqT s ha) lz (fun i x H' H2 Qy Qn hi s hy ky kn => ?_) ⟨D, rfl, nD, by rw [eo]⟩⟩
        obtain ⟨rfl, hx⟩ := hy
        obtain ⟨t, e, h1, h2, rfl, h3⟩ := hq i x _ s hx
        exact ⟨rfl, _, rfl, .inr ⟨t, _, rfl, SqT.of h3, ky _ (by rw [h1]; rfl)⟩⟩
    · rintro σ' H' ⟨D, rfl, nD, rfl⟩
      have s1 : Same H (upd H D (.lst (qs.map V.ref))) := same_new nD
      have hD : SqL K (upd H D (.lst (qs.map V.ref))) D (qs.map V.ref) := SqL.of upd_same
      -- all are texts
      refine ⟨_, rfl, D, rfl, ⟨_, hD⟩, fun D2 n2 => lc_fm walk_list (fun i => some (V.bl true)) n2 (fun H' s => s.seq hD) lz (fun i x H' H2 Qy Qn hi s hy ky kn => ?_) ?_⟩
      · obtain ⟨rfl, hx⟩ := hy
        obtain ⟨t, e, h1, h2, rfl, h3⟩ := hq i x _ (s1.trans s) hx
        exact ⟨rfl, _, rfl, t, _, _, _, rfl, rfl, SqT.of h3, rfl, _, _, _, _, true, rfl, .ty _, .base (.str _), kit_ty (by decide +kernel), ky _ rfl⟩
      have eb := outs_true (qs.map V.ref).length
      have s2 : Same (upd H D (.lst (qs.map V.ref))) (upd (upd H D (.lst (qs.map V.ref))) D2 (.lst (outsTo (fun _ => some (V.bl true)) (qs.map V.ref).length))) := same_new n2
      refine ⟨D2, List.replicate (qs.map V.ref).length true, rfl, SqL.of (by rw [← eb]; exact upd_same), _, rfl, ?_⟩
      rw [all_true]
      -- names
      generalize upd (upd H D (.lst (qs.map V.ref))) D2 (.lst (outsTo (fun _ => some (V.bl true)) (qs.map V.ref).length)) = H2 at s2
      have hD2 := s2.seq hD
      refine ⟨_, rfl, D, rfl, ⟨_, hD2⟩, fun D3 n3 => lc_fm walk_list (fun i => (es[i]?).map fun e => V.str (nm e.1)) n3 (fun H' s => s.seq hD2) lz (fun i x H' H2 Qy Qn hi s hy ky kn => ?_) ?_⟩
      · obtain ⟨rfl, hx⟩ := hy
        obtain ⟨t, e, h1, h2, rfl, h3⟩ := hq i x _ ((s1.trans s2).trans s) hx
        exact ⟨rfl, _, rfl, t, _, _, _, rfl, rfl, SqT.of h3, rfl, ky _ (by rw [h2]; rfl)⟩
      have en : outsTo (fun i => (es[i]?).map fun e => V.str (nm e.1)) (qs.map V.ref).length = (((es.map (·.1)).map nm).map V.str) := by
        rw [ll, outsTo_map es (fun e => some (V.str (nm e.1))) _ (fun i t e => by rw [e]; rfl), List.filterMap_eq_map', List.map_map, List.map_map]
        rfl
      refine ⟨D3, (es.map (·.1)).map nm, rfl, SqL.of (by rw [← en]; exact upd_same), by rw [List.length_map, List.length_map]; omega, fun ys p hys hso np => ?_⟩
      rw [sorted_entries hnd h4 hys hso]
      have s3 := s2.trans (same_new (o := .lst (outsTo (fun i => (es[i]?).map fun e => V.str (nm e.1)) (qs.map V.ref).length)) n3)
      generalize upd H2 D3 (.lst (outsTo (fun i => (es[i]?).map fun e => V.str (nm e.1)) (qs.map V.ref).length)) = H3 at np s3
      have hsr := srtE_srt hnd
      have hpm := srtE_perm es
      generalize hss : srtE es = ss at hsr hpm
      have hsl : ss.length = es.length := hpm.length_eq
      have xl : ((ss.map (·.1)).map nm).map V.str = ss.map fun e => V.str (nm e.1) := by rw [List.map_map, List.map_map]; rfl
      have hnn : (((ss.map (·.1)).map nm).map V.str).length = ss.length := by rw [xl, List.length_map]
      have s4 := snew (o := .lst (((ss.map (·.1)).map nm).map V.str)) s3 np
      have hp4 : SqL K (upd H3 p (.lst (((ss.map (·.1)).map nm).map V.str))) p (((ss.map (·.1)).map nm).map V.str) := SqL.of upd_same
      have hD4 : SqL K (upd H3 p (.lst (((ss.map (·.1)).map nm).map V.str))) D (qs.map V.ref) := s4.seq hD
      generalize upd H3 p (.lst (((ss.map (·.1)).map nm).map V.str)) = H4 at s4 hp4 hD4
      refine ⟨_, rfl, p, _, rfl, hp4, fun D4 n4 => lc_it walk_enum (fun i Hi => Same H4 Hi ∧ ∃ ts : List Addr, Hi D4 = some (.lst (ts.map V.ref)) ∧ Paired (EPair Hi) ts (ss.take i)) ⟨same_new n4, [], upd_same, .nil⟩ (fun i Hi _ h => h.1.seq hp4) (fun i x Hi H' hi hI hy => ?_) (fun Hi hI => ?_)⟩
      · obtain ⟨sm, ts, hts, hP⟩ := hI
        obtain ⟨t1, x1, y1, rfl, n1, rfl, ex, ey⟩ := hy
        cases ex
        dsimp only at ey
        rw [xl, List.getElem?_map] at ey
        have hi' : i < ss.length := by rw [hnn] at hi; exact hi
        rw [List.getElem?_eq_getElem hi'] at ey
        cases ey
        have hrl : (ss.take (i + 1)).map (·.1) = (ss.take i).map (·.1) ++ [ss[i].1] := by
          rw [List.take_succ, List.getElem?_eq_getElem hi', List.map_append]
          rfl
        have ecut : cutV (((ss.map (·.1)).map nm).map V.str) none (some (((i + 1 : Nat)) : Int)) = ((ss.take i).map (·.1) ++ [ss[i].1]).map fun k => V.str (nm k) := by
          rw [cut_to, xl, ← List.map_take, ← hrl, List.map_map]
          rfl
        have hnd2 : (((ss.take i).map (·.1)) ++ [ss[i].1]).Nodup := by
          rw [← hrl]
          exact srt_nodup (hsr.sublist (List.take_sublist _ _))
        have hk4 : ∀ k ∈ (ss.take i).map (·.1) ++ [ss[i].1], k < 4 := fun k hk => by
          rw [← hrl] at hk
          obtain ⟨e, he, rfl⟩ := List.mem_map.mp hk
          exact h4 e (hpm.mem_iff.mp (List.mem_of_mem_take he))
        have sT : Same H4 (upd Hi t1 (.tup [.int i, .str (nm ss[i].1)])) := snew sm n1
        refine ⟨t1, _, rfl, SqT.of upd_same, rfl, _, _, rfl, _, _, rfl, rfl, rfl, _, rfl, _, rfl, _, rfl, _, rfl, _, _, rfl, rfl, _, rfl, p, _, rfl, sT.seq hp4, fun p5 n5 => ?_⟩
        have s5 := snew (o := .lst (cutV (((ss.map (·.1)).map nm).map V.str) none (some ((i : Int) + 1)))) sT n5
        refine ⟨D, p5, qs, es, (ss.take i).map (·.1), ss[i].1, ss[i].2, rfl, s5.seq hD4, Pmap hp fun _ _ h => EPair.gx (sgx ((s1.trans s4).trans s5)) h, hnd, h4, by omega, SqL.of (by rw [← ecut]; exact upd_same), hnd2, hk4, hpm.mem_iff.mp (List.getElem_mem hi'), fun H6 s6 => ?_⟩
        refine ⟨(by show 2 ≤ sizeLine; decide), fun p7 n7 => ?_⟩
        have s7 := snew (o := .tup [.str (nm ss[i].1), .int ss[i].2]) ((snew (o := .lst (cutV (((ss.map (·.1)).map nm).map V.str) none (some ((i : Int) + 1)))) (same_new (o := .tup [.int i, .str (nm ss[i].1)]) n1) n5).trans s6) n7
        refine ⟨_, s7 _ _ hts, ?_, sput (sm.trans s7) n4, ts ++ [p7], ?_, ?_⟩
        · rw [List.length_map, Plen hP, List.length_take]
          exact Nat.lt_of_lt_of_le (by omega : min i ss.length < 61) (by decide)
        · rw [upd_same, List.map_append]
          rfl
        · rw [List.take_succ, List.getElem?_eq_getElem hi']
          have nD7 : p7 ≠ D4 := fun z => by
            subst z
            rw [(snew (o := .lst (cutV (((ss.map (·.1)).map nm).map V.str) none (some ((i : Int) + 1)))) (same_new (o := .tup [.int i, .str (nm ss[i].1)]) n1) n5).trans s6 _ _ hts] at n7
            cases n7
          refine Paired.snoc (Pmap hP fun q e hE => ?_) (upd_at upd_same nD7)
          exact upd_at (s7 _ _ hE) (ne_of (s7 _ _ hE) (s7 _ _ hts) (by intro z; cases z))
      · obtain ⟨sm, ts, hts, hP⟩ := hI
        refine ⟨_, rfl, .inl ⟨D4, _, rfl, SqL.of hts, fun r nr => q r _ (snew ((s1.trans s4).trans sm) nr) ⟨ts, upd_same, ?_⟩⟩⟩
        rw [hnn, List.take_length] at hP
        rw [hss]
        exact Pmap hP fun x e hE => upd_at hE (ne_of_none hE nr)
/-! Folder -/
theorem sc_Folder : FnScope ["self", "owner", "entries"] ["self", "owner", "entries"] (defScope s_Folder_init) := ⟨rfl, rfl, rfl, by decide +kernel, rfl, by decide +kernel, by decide +kernel⟩
theorem mk_Folder (T : Txt K mg) : Mak P w K mg base 3 "Folder" (He.ga K "Folder") (spMkA (He.ga K "Folder") (fun a : Int × Addr × List (Nat × Nat) => [.int a.1, .ref a.2.1]) (fun a H => EArg K H a.2.1 a.2.2) (fun a H x => PNode K H x (.fol a.1 (srtE a.2.2)))) [] := by
  refine mak T.f_Folder_init T.k_Folder T.g_Folder sc_Folder (fun _ _ _ _ _ _ us hl => match us, hl with | [_, _, _], _ => rfl) (fun vs H Q E h => ?_) (fun cdv A outer s H vs Q E hr h => ?_)
  · obtain ⟨a, _, _, _, rfl, _⟩ := h
    rfl
  · obtain ⟨⟨o, a, es⟩, H1, x, dx, rfl, rfl, nx, nd, ne, ha, q⟩ := h
    refine ⟨_, pss_cons (ps_fld (pv 0) (pv 1) rfl) (pss_one (ps_fld (pv 0) (C8.pe_c (ok_by_names T) hr (by decide) rfl (pa_cons (pv 2) pa_nil)) rfl)), ?_⟩
    refine ⟨_, rfl, _, rfl, x, _, dx, _, rfl, upd_same, T.c_Folder, T.a_Folder_owner, by decide, ?_⟩
    have s1 := sput (o := .ins (He.ga K "Folder") dx (putF "owner" (.int o) [])) (same_mk (C := He.ga K "Folder") (fs := []) nx nd) nx
    refine ⟨_, rfl, a, es, rfl, ?_, fun r H' s2 hO => ?_⟩
    · obtain ⟨qs, h1, h2, h3⟩ := ha
      exact ⟨qs, h1.same s1, Pmap h2 fun _ _ h => EPair.gx (sgx s1) h, h3⟩
    · refine ⟨_, rfl, x, _, dx, _, rfl, s2 _ _ upd_same, T.c_Folder, T.a_Folder_entries, len1, ?_⟩
      obtain ⟨qs, h1, h2⟩ := hO
      have nr : r ≠ x := ne_of h1 (s2 _ _ upd_same) (by intro z; cases z)
      refine q _ (sput (s1.trans s2) nx) ⟨dx, r, qs, upd_same.trans (congrArg (fun z => some (HO.ins _ _ z)) (putF2 (by decide +kernel))), upd_at h1 nr, Pmap h2 fun q e hE => upd_at hE (ne_of hE (s2 _ _ upd_same) (by intro z; cases z))⟩
end
end NW
set_option Elab.async false
set_option linter.all false
set_option maxRecDepth 100000
set_option maxHeartbeats 1000000
/-! W4: what is wrong with a node. -/
namespace NW
open PySem PySem.Spec PyProof.Rows L2
def Nd.cls : Nd → Str
  | .fol _ _ => "Folder"
  | .fil _ => "File"
  | .gon _ _ => "Gone"
section
variable {P : Program} {w : World} {K : Frag} {mg : Str → Option Value} {base : Heap}
theorem PNode.ty (T : Txt K mg) {H : Hp} {p : Addr} {nd : Nd} (h : PNode K H p nd) : TyX K H (.ref p) (.ref (He.ga K nd.cls)) := by
  cases nd with
  | fol o es => obtain ⟨dx, e, qs, h1, _⟩ := h; exact ty_ins T T.i_Folder T.c_Folder h1
  | fil o => obtain ⟨dx, h1⟩ := h; exact ty_ins T T.i_File T.c_File h1
  | gon o a => obtain ⟨dx, h1⟩ := h; exact ty_ins T T.i_Gone T.c_Gone h1
theorem kit_Folder (T : Txt K mg) (nd : Nd) : PySem.W.kitOne K (.ref (He.ga K nd.cls)) (.ref (He.ga K "Folder")) = some nd.isF := by
  cases nd with
  | fol o es => exact T.t_Folder_Folder
  | fil o => exact T.t_File_Folder
  | gon o a => exact T.t_Gone_Folder
theorem kit_Gone (T : Txt K mg) (nd : Nd) : PySem.W.kitOne K (.ref (He.ga K nd.cls)) (.ref (He.ga K "Gone")) = some nd.isG := by
  cases nd with
  | fol o es => exact T.t_Folder_Gone
  | fil o => exact T.t_File_Gone
  | gon o a => exact T.t_Gone_Gone
theorem kit_File (T : Txt K mg) (nd : Nd) : PySem.W.kitOne K (.ref (He.ga K nd.cls)) (.ref (He.ga K "File")) = some (!(nd.isF || nd.isG)) := by
  cases nd with
  | fol o es => exact T.t_Folder_File
  | fil o => exact T.t_File_File
  | gon o a => exact T.t_Gone_File
theorem kit_Link (T : Txt K mg) (nd : Nd) : PySem.W.kitOne K (.ref (He.ga K nd.cls)) (.ref (He.ga K "Link")) = some false := by
  cases nd with
  | fol o es => exact T.t_Folder_Link
  | fil o => exact T.t_File_Link
  | gon o a => exact T.t_Gone_Link
theorem kit_FG (T : Txt K mg) (nd : Nd) : PySem.W.kitAny K (.ref (He.ga K nd.cls)) [.ref (He.ga K "Folder"), .ref (He.ga K "Gone")] = some (nd.isF || nd.isG) := by
  unfold PySem.W.kitAny
  rw [kit_Folder T nd]
  cases e : nd.isF with
  | true => rfl
  | false =>
    show PySem.W.kitAny K _ _ = _
    unfold PySem.W.kitAny
    rw [kit_Gone T nd]
    cases nd.isG <;> rfl
theorem kit_LL (T : Txt K mg) (nd : Nd) : PySem.W.kitAny K (.ref (He.ga K nd.cls)) [.ref (He.ga K "File"), .ref (He.ga K "Link")] = some (!(nd.isF || nd.isG)) := by
  unfold PySem.W.kitAny
  rw [kit_File T nd]
  cases e : (!(nd.isF || nd.isG)) with
  | true => rfl
  | false =>
    show PySem.W.kitAny K _ _ = _
    unfold PySem.W.kitAny
    rw [kit_Link T nd]
    rfl
theorem isG_at {t : Tr} {i : Nat} {nd : Nd} (h : t[i]? = some nd) : isG t i = nd.isG := by unfold isG; rw [h]
theorem isF_at {t : Tr} {i : Nat} {nd : Nd} (h : t[i]? = some nd) : isF t i = nd.isF := by unfold isF; rw [h]
theorem isP_at {t : Tr} {i : Nat} {nd : Nd} (h : t[i]? = some nd) : isP t i = (nd.isF || nd.isG) := by unfold isP; rw [isF_at h, isG_at h]
theorem ents_at {t : Tr} {i : Nat} {nd : Nd} (h : t[i]? = some nd) : ents t i = nd.ents := by unfold ents; rw [h]
/-- an item of a tuple of nodes -/
theorem node_at {H : Hp} {ps : List Addr} {t : Tr} (hp : Paired (PNode K H) ps t) {i : Nat} {nd : Nd} (h : t[i]? = some nd) : ∃ p, atI (ps.map V.ref) (i : Int) = some (.ref p) ∧ PNode K H p nd := by
  obtain ⟨p, h1, h2⟩ := Pget hp h
  exact ⟨p, atI_nat (by rw [List.getElem?_map, h1]; rfl), h2⟩
/-! wrong_with_entries -/
def spWwe (K : Frag) : Sp := fun vs H Q _ => ∃ (a e : Addr) (ps qs : List Addr) (t : Tr) (es : List (Nat × Nat)), vs = [.ref a, .ref e] ∧ H a = some (.tup (ps.map V.ref)) ∧ Paired (PNode K H) ps t ∧ H e = some (.tup (qs.map V.ref)) ∧ Paired (EPair H) qs es ∧
  Srt es ∧ (∀ kn ∈ es, kn.1 < 4 ∧ 0 < kn.2 ∧ kn.2 < t.length ∧ isG t kn.2 = false) ∧ ∀ H', Same H H' → Q .non H'
theorem sc_wrong_with_entries : FnScope ["nodes", "entries", "names", "name", "node", "index"] ["nodes", "entries"] (defScope s_wrong_with_entries) := ⟨rfl, rfl, rfl, by decide +kernel, rfl, by decide +kernel, by decide +kernel⟩
theorem ok_wrong_with_entries (T : Txt K mg) : Cal P w K mg base 2 "wrong_with_entries" (spWwe K) [] := by
  refine cal T.f_wrong_with_entries T.g_wrong_with_entries sc_wrong_with_entries (fun _ _ _ _ _ _ us hl => match us, hl with | [_, _], _ => rfl) (fun vs H Q E h => ?_) (fun cdv A outer s H vs Q E hr h => ?_)
  · obtain ⟨a, e, ps, qs, t, es, rfl, _⟩ := h
    rfl
  · obtain ⟨a, e, ps, qs, t, es, rfl, ha, hp, he, hq, hs, hv, q⟩ := h
    have nd := sc_wrong_with_entries.nd
    refine ⟨_, pss_cons (ps_set (i := 2) nd rfl (Or.inr rfl) (pe_lc (own := [("name", 3), ("node", 4)]) (g := gTup K 2 (gCons (gName 3) (gCons (gName 4) gNil))) (tt := tYes) rfl nd (pi_tup (pv 1)) (blkOk_by (N := ["nodes", "entries", "names", "name", "node", "index"]) (sc := defScope s_wrong_with_entries) (by decide +kernel))
        (fun _ _ _ _ _ => pg_tup rfl (pgs_cons (pg_name (i := 3) nd rfl (Or.inl rfl)) (pgs_cons (pg_name (i := 4) nd rfl (Or.inl rfl)) pgs_nil))) (fun _ _ _ _ _ => pts_nil) (fun _ _ _ _ _ => pv 3)))
      (pss_cons (ps_if (pt_not (pt_val (pe_callB (cr_all rfl) (by rfl) T.n_all (by decide +kernel) (pa_cons (pe_lc (own := [("name", 3)]) (g := gName 3) (tt := tYes) rfl nd (pi_list (pv 2)) (blkOk_by (N := ["nodes", "entries", "names", "name", "node", "index"]) (sc := defScope s_wrong_with_entries) (by decide +kernel))
        (fun _ _ _ _ _ => pg_name (i := 3) nd rfl (Or.inl rfl)) (fun _ _ _ _ _ => pts_nil) (fun _ _ _ _ _ => C8.pe_c (ok_is_name T) hr (by decide) rfl (pa_cons (pv 3) pa_nil))) pa_nil)))) pss_never pss_nil)
      (pss_cons (ps_if (pt_cmpR (op_neNil hr.units0) (pe_lc (own := [("index", 5), ("name", 3)]) (g := gTup K 2 (gCons (gName 5) (gCons (gName 3) gNil))) (tt := tTest _) rfl nd (pi_enum (by rfl) T.n_enumerate (pa_cons (pv 2) pa_nil)) (blkOk_by (N := ["nodes", "entries", "names", "name", "node", "index"]) (sc := defScope s_wrong_with_entries) (by decide +kernel))
        (fun _ _ _ _ _ => pg_tup rfl (pgs_cons (pg_name (i := 5) nd rfl (Or.inl rfl)) (pgs_cons (pg_name (i := 3) nd rfl (Or.inl rfl)) pgs_nil)))
        (fun _ _ _ _ _ => pts_one (pt_cmpR (r := rIn K false) op_in_seq (pv 3) (pe_slice (slL (K := K)) (pv 2) po_none (po_some (pv 5))) (by rfl))) (fun _ _ _ _ _ => pv 3)) (pe_lst pa_nil) (nomark _)) pss_never pss_nil)
      (pss_cons (ps_for PassesOwn.never rfl (pi_tup (pv 1)) (pg_tup rfl (pgs_cons (pg_name (i := 3) nd rfl (Or.inl rfl)) (pgs_cons (pg_name (i := 4) nd rfl (Or.inl rfl)) pgs_nil)))
        (pss_one (ps_if (PW.pt (pw_or (pt_not (pt_val (C8.pe_c (ok_is_number T) hr (by decide) rfl (pa_cons (pv 4) pa_nil)))) (pw_or (pt_not (pt_chain op_lt op_lt pe_int (pv 4) (pe_callB call_len_seq (by rfl) T.n_len PySem.boot_len (pa_cons (pv 0) pa_nil))))
          (pw_or1 (pt_val (pe_callB call_isi (by rfl) T.n_isinstance (by decide +kernel) (pa_cons (pe_ix ix_tup (pv 0) (pv 4) (fun _ _ => rfl)) (pa_cons (pcls T.g_Gone) pa_nil)))))))) pss_never pss_nil)))
      (pss_one (ps_ret pe_non))))), ?_⟩
    have hq2 : ∀ (i : Nat) (x : V) (Hs : Hp), Same H Hs → (qs.map V.ref)[i]? = some x → ∃ t e, qs[i]? = some t ∧ es[i]? = some e ∧ x = .ref t ∧ Hs t = some (.tup [.str (nm e.1), .int e.2]) := fun i x Hs sm hx => by
      rw [List.getElem?_map] at hx
      cases hi : qs[i]? with
      | none => rw [hi] at hx; cases hx
      | some u =>
        rw [hi] at hx
        cases hx
        obtain ⟨e, he, hE⟩ := Pget' hq hi
        exact ⟨u, e, rfl, he, rfl, sm _ _ hE⟩
    have h4 : ∀ kn ∈ es, kn.1 < 4 := fun kn hk => (hv kn hk).1
    have ll : (qs.map V.ref).length = es.length := by rw [List.length_map, Plen hq]
    have l4 := srt_len hs h4
    have lz : (qs.map V.ref).length ≤ sizeLine := by rw [ll]; exact Nat.le_trans l4 (by decide)
    have hT : SqT K H e (qs.map V.ref) := SqT.of he
    -- names
    refine ⟨_, rfl, e, rfl, ⟨_, hT⟩, fun D nD => lc_fm walk_tup (fun i => (es[i]?).map fun e => V.str (nm e.1)) nD (fun H' s => seqT s hT) lz (fun i x H' H2 Qy Qn hi s hy ky kn => ?_) ?_⟩
    · obtain ⟨rfl, hx⟩ := hy
      obtain ⟨t, e, h1, h2, rfl, h3⟩ := hq2 i x _ s hx
      exact ⟨t, _, rfl, SqT.of h3, rfl, _, _, rfl, _, _, rfl, rfl, rfl, _, rfl, ky _ (by rw [h2]; rfl)⟩
    have en : outsTo (fun i => (es[i]?).map fun e => V.str (nm e.1)) (qs.map V.ref).length = es.map fun e => V.str (nm e.1) := by
      rw [ll, outsTo_map es (fun e => some (V.str (nm e.1))) _ (fun i t e => by rw [e]; rfl), List.filterMap_eq_map']
    rw [en]
    have s1 : Same H (upd H D (.lst (es.map fun e => V.str (nm e.1)))) := same_new nD
    have hD : SqL K (upd H D (.lst (es.map fun e => V.str (nm e.1)))) D (es.map fun e => V.str (nm e.1)) := SqL.of upd_same
    generalize upd H D (.lst (es.map fun e => V.str (nm e.1))) = H1 at s1 hD
    have ln : (es.map fun e => V.str (nm e.1)).length = es.length := List.length_map _
    have lnz : (es.map fun e => V.str (nm e.1)).length ≤ sizeLine := by rw [ln, ← ll]; exact lz
    -- all are names
    refine ⟨_, rfl, D, rfl, ⟨_, hD⟩, fun D2 n2 => lc_it walk_list (fun i Hi => Same H1 Hi ∧ Hi D2 = some (.lst ((List.replicate i true).map V.bl))) ⟨same_new n2, upd_same⟩ (fun i Hi _ h => h.1.seq hD) (fun i x Hi H' hi hI hy => ?_) (fun Hi hI => ?_)⟩
    · obtain ⟨sm, hts⟩ := hI
      obtain ⟨rfl, hx⟩ := hy
      rw [List.getElem?_map] at hx
      rw [ln] at hi
      rw [List.getElem?_eq_getElem hi] at hx
      cases hx
      refine ⟨rfl, _, rfl, es[i].1, h4 _ (List.getElem_mem hi), rfl, fun H' s' => ⟨_, s' _ _ hts, ?_, sput (sm.trans s') n2, ?_⟩⟩
      · rw [List.length_map, List.length_replicate]
        exact Nat.lt_of_lt_of_le (by omega : i < 4) (by decide)
      · rw [upd_same, List.replicate_succ', List.map_append]
        rfl
    obtain ⟨sm, hts⟩ := hI
    refine ⟨D2, _, rfl, SqL.of hts, _, rfl, ?_⟩
    rw [all_true]
    have hD2 := sm.seq hD
    have s2 := s1.trans sm
    -- none twice
    refine ⟨_, rfl, D, _, rfl, hD2, fun D3 n3 => lc_it walk_enum (fun i H3 => Same Hi H3 ∧ H3 D3 = some (.lst [])) ⟨same_new n3, upd_same⟩ (fun i H3 _ h => h.1.seq hD2) (fun i x H3 H' hi hI hy => ?_) (fun H3 hI => ?_)⟩
    · obtain ⟨sm3, h3⟩ := hI
      obtain ⟨t1, x1, y1, rfl, n1, rfl, ex, ey⟩ := hy
      cases ex
      dsimp only at ey
      rw [ln] at hi
      rw [List.getElem?_map, List.getElem?_eq_getElem hi] at ey
      cases ey
      have sT := snew (o := .tup [.int i, .str (nm es[i].1)]) sm3 n1
      refine ⟨t1, _, rfl, SqT.of upd_same, rfl, _, _, rfl, _, _, rfl, rfl, rfl, _, rfl, _, rfl, _, rfl, _, rfl, D, _, rfl, sT.seq hD2, fun p5 n5 => ?_⟩
      refine ⟨p5, _, rfl, .inl (SqL.of upd_same), rfl, ?_, _, rfl, ?_⟩
      · rw [cut_to]
        refine List.all_eq_true.mpr fun z hz => ?_
        obtain ⟨e, _, rfl⟩ := List.mem_map.mp (List.mem_of_mem_take hz)
        rfl
      · have ef : inV (.str (nm es[i].1)) (cutV (es.map fun e => V.str (nm e.1)) none (some (i : Int))) = false := by
          rw [cut_to, ← List.map_take]
          refine Bool.eq_false_iff.mpr fun c => ?_
          obtain ⟨z, hz, hzz⟩ := List.any_eq_true.mp c
          obtain ⟨e, he, rfl⟩ := List.mem_map.mp hz
          have h1 : nm e.1 = nm es[i].1 := beq_iff_eq.mp hzz
          have h2 := nm_inj (h4 e (List.mem_of_mem_take he)) (h4 _ (List.getElem_mem hi)) h1
          obtain ⟨j, hj, hje⟩ := List.getElem_of_mem he
          rw [List.length_take] at hj
          rw [List.getElem_take] at hje
          have := List.pairwise_iff_getElem.mp hs j i (by omega) hi (by omega)
          rw [hje] at this
          omega
        show if (if false = true then !inV _ _ else inV (.str (nm es[i].1)) (cutV (es.map fun e => V.str (nm e.1)) none (some (i : Int)))) = true then _ else _
        rw [ef]
        exact iteF ⟨snew sT n5, (snew (same_new (o := .tup [.int i, .str (nm es[i].1)]) n1) n5) _ _ h3⟩
    obtain ⟨sm3, h3⟩ := hI
    refine ⟨(by show 0 ≤ sizeLine; decide), fun p6 n6 => ⟨D3, p6, _, rfl, rfl, SqL.of (upd_at h3 (ne_of_none h3 n6)), SqL.of upd_same, _, rfl, iteF ?_⟩⟩
    have s6 := snew (o := .lst []) (s2.trans sm3) n6
    generalize upd H3 p6 (.lst []) = H6 at s6
    have hT6 := seqT s6 hT
    refine ⟨_, rfl, e, rfl, ⟨_, hT6⟩, for_it walk_tup (fun i σ Hi => Hi = H6 ∧ ∃ x3 x4 x5, σ = [some (.ref a), some (.ref e), some (.ref D), x3, x4, x5]) ⟨rfl, _, _, _, rfl⟩ (fun i σ Hi _ h => by rw [h.1]; exact hT6) (fun i x σ Hi H' hi hI hy => ?_) (fun σ Hi hI => ?_)⟩
    · obtain ⟨rfl, x3, x4, x5, rfl⟩ := hI
      obtain ⟨rfl, hx⟩ := hy
      obtain ⟨u, kn, h1, h2, rfl, h3⟩ := hq2 i x _ s6 hx
      obtain ⟨v1, v2, v3, v4⟩ := hv kn (List.mem_of_getElem? h2)
      obtain ⟨p, hp1, hp2⟩ := node_at (Pmap hp fun _ _ h => PNode.gx (sgx s6) h) (List.getElem?_eq_getElem v3)
      refine ⟨u, _, rfl, SqT.of h3, rfl, _, _, rfl, _, _, rfl, rfl, _, rfl, kn.2, rfl, _, rfl, iteF ?_⟩
      refine ⟨_, rfl, _, _, rfl, rfl, true, congrArg V.bl (decide_eq_true (by omega)), iteT ⟨_, rfl, a, _, rfl, .inr (SqT.of (s6 _ _ ha)), _, _, rfl, rfl, true, congrArg V.bl (decide_eq_true ?_), iteF ?_⟩⟩
      · rw [List.length_map, Plen hp]
        omega
      refine ⟨_, rfl, _, rfl, a, _, _, _, rfl, rfl, SqT.of (s6 _ _ ha), hp1, _, _, _, _, _, rfl, .own _, hp2.ty T, kit_Gone T _, _, rfl, ?_⟩
      rw [show (t[kn.2]).isG = false from (isG_at (List.getElem?_eq_getElem v3)).symm.trans v4]
      exact iteF ⟨rfl, _, _, _, rfl⟩
    · obtain ⟨rfl, x3, x4, x5, rfl⟩ := hI
      exact q _ s6
end
end NW
set_option Elab.async false
set_option linter.all false
set_option maxRecDepth 100000
set_option maxHeartbeats 1000000
/-! KX2: enumerate(a tuple). -/
namespace NW
open PySem PySem.Spec PyProof.Rows L2
theorem enum_new1 {v : Value} {o : Obj} {H : Heap → Prop} (B : Begins v o H) :
    Meets (Builtin.«enumerate.__new__» ⟨[.type "enumerate", v], []⟩) (fun _ R s => H s.heap ∧
      R (.ok (.ret (.ref (s.heap.push o).objs.size))) { s with heap := (s.heap.push o).push { cls := .type "enumerate", data := .fields #[.none, .bool false, .ref s.heap.objs.size, rawInt 0, .none, .none] } }) :=
  .of_wp fun prog w A R s h => by
    obtain ⟨hp, g, d, tk, os⟩ := s; obtain ⟨h1, h⟩ := h
    have hsub := sub_enumerate
    have q1 : ∀ {A' : Around} {E : Value → Shared → Prop} {Q : Value → Shared → Prop}, Q (.ref hp.objs.size) ⟨hp.push o, g, d, tk, os⟩ → wpAny (model prog w) A' (pyIter v) Q E ⟨hp, g, d, tk, os⟩ :=
      fun q => B.iter prog w _ _ ⟨hp, g, d, tk, os⟩ _ h1 q
    wp_walk using q1
    refine wpAny_stack_any fun st => wpAny_pure ?_
    split
    · rename_i c _ _ _ _ _
      cases (c == Value.type "enumerate")
      · wp_walk using q1
        exact ⟨_, rfl, h⟩
      · wp_walk using q1
        exact ⟨_, rfl, h⟩
    · wp_walk using q1
      exact ⟨_, rfl, h⟩
section
variable {prog : Program} {w : World} {A : Around} {E : Value → Shared → Prop} {s : Shared}
theorem enum_begins1 {v : Value} {o : Obj} {H : Heap → Prop} {Q : Value → Shared → Prop} (B : Begins v o H) (h1 : H s.heap)
    (h : ∀ h', IsEnum h' (s.heap.objs.size + 1) s.heap.objs.size 0 .none → h'.get? s.heap.objs.size = some o → h'.objs.size = s.heap.objs.size + 2 →
      (∀ b o, s.heap.get? b = some o → h'.get? b = some o) → Q (.ref (s.heap.objs.size + 1)) { s with heap := h' }) :
    wpAny (model prog w) A (call (.type "enumerate") [v]) Q E s := by
  refine callType_new F.called_enumerate (by decide) (F.typeCall_enumerate_1 _) (F.newCall_enumerate_1 _) (fun obj => F.args_object_init_2 obj _) F.entry_enumerate_new
    (enum_new1 B) ⟨h1, ?_⟩
  have hz : (s.heap.push o).objs.size = s.heap.objs.size + 1 := Heap.size_push ..
  show _ ∧ _
  rw [hz]
  have he : IsEnum ((s.heap.push o).push { cls := .type "enumerate", data := .fields #[.none, .bool false, .ref s.heap.objs.size, rawInt 0, .none, .none] }) (s.heap.objs.size + 1) s.heap.objs.size 0 .none := by
    have := Heap.get?_push_size (s.heap.push o) (o := { cls := .type "enumerate", data := .fields #[.none, .bool false, .ref s.heap.objs.size, rawInt 0, .none, .none] }) rfl
    rw [hz] at this; exact this
  refine ⟨⟨_, he, rfl⟩, h _ he (Heap.get?_push_of_some _ (Heap.get?_push_size _ B.free)) (by rw [Heap.size_push, hz]) fun b o x => Heap.get?_push_of_some _ (Heap.get?_push_of_some _ x)⟩
theorem enum_endT {e it a : Addr} {i : Nat} {items : Array Value} {old : Value} {Q : Option Value → Shared → Prop} (hh : A.handled = none)
    (he : IsEnum s.heap e it i old) (hit : s.heap.IsTupleIter it a i) (hl : s.heap.IsTuple a items) (hx : items[i]? = none)
    (hQ : ∀ h', Heap.ExtBut it s.heap h' → Q none { s with heap := h' }) : wpAny (model prog w) A (pyNext (.ref e)) Q E s := by
  have hT : s.TypeIs (.ref e) "enumerate" := ⟨_, he, rfl⟩
  unfold pyNext
  refine wpAny_bind (wpAny_attempt (wpAny_callSpecial?_slot (name := Str.ofString "__next__") hT F.slot_enumerate_next
    (wpAny_call_entry F.slot_enumerate_next hT F.entry_enumerate_next ?_ (F.args_enumerate_next_1 _))))
  show wpAny _ _ (field (.ref e) 2 >>= _) _ _ _
  refine wpAny_bind (wpAny_field he rfl (x := .ref it) rfl ?_)
  refine wpAny_bind (wpAny_nextOf_tuple_end hh hit hl hx fun h' x he' hx' => ?_)
  obtain ⟨o, ho, hc⟩ := hx'
  refine wpAny_bind (wpAny_isInstance (T := "StopIteration") (b := true) ⟨o, ho, hc⟩ isSubtype_stop ?_)
  exact wpAny_pure (hQ _ he')
end
def IteT (K : Frag) (a : Addr) : It :=
  ⟨fun i H => ∃ (xs : List V) (x : V), SqT K H a xs ∧ xs[i]? = some x, fun i H v H' => ∃ T x, v = .ref T ∧ H T = none ∧ H' = upd H T (.tup [.int (i : Nat), x]) ∧ ∀ xs, SqT K H a xs → xs[i]? = some x, fun i H => ∃ xs : List V, SqT K H a xs ∧ xs.length ≤ i⟩
theorem turn_enumT {P : Program} {w : World} {K : Frag} {elts : List Expr} {kk : Nat} {tpos : Pos} (a e it : Addr) (hai : a ≠ it) :
    Turn P w K (.Tuple elts kk tpos) (IteT K a) [e, it] e (fun i h => (∃ old, IsEnum h e it ((i : Nat) : Int) old) ∧ h.IsTupleIter it a i ∧ e ≠ it ∧ a ≠ e) where
  mem := by simp
  obj := fun i h st b hb => by
    obtain ⟨⟨old, he⟩, ⟨o, ho, hc, hd⟩, _⟩ := st
    have e' : b = e ∨ b = it := by simpa using hb
    rcases e' with z | z
    · rw [z]; exact ⟨_, he, fun v q => nomatch q⟩
    · rw [z]; exact ⟨o, ho, fun v q => by rw [hd] at q; cases q⟩
  keep := fun i h h' st k => let ⟨⟨old, he⟩, hi, hne⟩ := st; ⟨⟨old, k e (by simp) _ he⟩, hi.at fun o q => k it (by simp) o q, hne⟩
  item := by
    intro X hP hw hK hc i pins s σ H E I hf st hg
    subst hP hw hK
    obtain ⟨⟨old, he⟩, hit, hne, hae⟩ := st
    obtain ⟨xs, x, hq, hx⟩ := hg
    obtain ⟨its, rv, p, hz⟩ := I.tuple hq
    obtain ⟨u, hu, ru⟩ := rv.get hx
    have hel : e < s.heap.objs.size := Heap.lt_size he
    have hil : it < s.heap.objs.size := by obtain ⟨_, q, _⟩ := hit; exact Heap.lt_size q
    have hlt : i < its.toArray.size := by
      have := (List.getElem?_eq_some_iff.mp hu).1
      simpa using this
    refine wpAny_pyNext_enum_itemD (Draws.tuple (A := X.A.in1) (show X.A.in1.handled = none from I.ok.hd hc) it a hai its.toArray) he ⟨hit, p⟩ hlt hne (by simp [hne, Ne.symm hae]) fun x' h' tk hP' ho hst' hT hsz hk => ?_
    have ex : x' = u := by
      have h1 : its[i]? = some x' := by simpa using hP'
      rw [hu] at h1
      exact (Option.some.inj h1).symm
    subst ex
    refine ⟨_, rfl, wpAny_letOwnedTupleGo_enum (s := { s with heap := h', toks := tk + 1 }) ho fun h'' he' sb => ?_⟩
    have hT2 : h''.get? s.heap.objs.size = some { cls := .type "tuple", data := .seq #[.int i tk, x'] } := (sb.2 _ (Nat.ne_of_gt hel)).trans hT
    have new : ObjOk X.prog X.w (upd H s.heap.objs.size (.tup [.int (i : Nat), x])) h'' s.heap.objs.size (.tup [.int (i : Nat), x]) :=
      ⟨by show 2 ≤ sizeLine; decide, [.int i tk, x'], .cons ⟨_, rfl⟩ (.cons ru .nil), ⟨_, hT2, rfl, _, rfl⟩⟩
    have I1 : Inv X pins σ (upd H s.heap.objs.size (.tup [.int (i : Nat), x])) { s with heap := h'', toks := tk + 1 } :=
      I.turnedNew (ch := [e, it]) (fun b ob hb q => (sb.2 b (fun z => hb (by simp [z]))).trans (hk b ob (fun z => hb (by simp [z])) (fun z => hb (by simp [z])) q)) hf (Nat.le_refl _) new
    refine ⟨.ref s.heap.objs.size, _, I1, rfl, ⟨_, x, rfl, I.hok.fresh (Nat.le_refl _), rfl, fun ys hy => by rw [I.tuple_inj hy hq]; exact hx⟩, ⟨⟨x', ?_⟩, hst'.1.at fun o q => (sb.2 it (Ne.symm hne)).trans q, hne, hae⟩, fun b hb => ?_⟩
    · have e1 : ((i + 1 : Nat) : Int) = (i : Int) + 1 := by omega
      rw [e1]; exact he'
    · have hb' : b < s.heap.objs.size := by
        have e' : b = e ∨ b = it := by simpa using hb
        rcases e' with z | z
        · rw [z]; exact hel
        · rw [z]; exact hil
      rw [upd_ne (Nat.ne_of_lt hb')]
      exact (hf b hb).1
  done := by
    intro X hP hw hK hc i pins s σ H E I hf st hg
    subst hP hw hK
    obtain ⟨⟨old, he⟩, hit, hne, hae⟩ := st
    obtain ⟨xs, hq, hx⟩ := hg
    obtain ⟨its, rv, p, hz⟩ := I.tuple hq
    obtain ⟨f0, f1, f2, f3, f4, f5⟩ := hf it (by simp)
    have hl := rv.length
    exact enum_endT (I.ok.hd hc) he hit p (by simp; omega) fun h' eb => ⟨rfl, I.turned (t' := s.toks) (fun b o hb q => eb b o hb q) f0 f1 f3 f4 f5⟩
  self := fun A i s Q E st h => let ⟨⟨_, he⟩, _⟩ := st; wpAny_pyIter_enum he h
def iEnumT (K : Frag) (ta : TA) : TI := fun σ H R => ta σ H fun vs H1 => ∃ a xs, vs = [.ref a] ∧ SqT K H1 a xs ∧ R (IteT K a) H1
theorem pi_enumT {X : Cx} {e : Expr} {ta : TA} {p pos tpos : Pos} {elts : List Expr} {kk : Nat} (hg : Gl X "enumerate") (hm : X.mg "enumerate" = none) (ha : PA X [e] ta) (hs : starEach [e] X.env = [(false, eval e X.env)] := by rfl) :
    PI X (.Tuple elts kk tpos) (.Call (.Name "enumerate" p) [e] [] pos) (iEnumT X.K ta) := by
  refine ⟨fun pins s σ H R I h => ?_⟩
  refine Call_ (ld_blt I hg hm boot_enumerate (PyProof.Rows.callWith_type1 (thn (ha.run pos pins s σ H _ I h) fun us s1 ⟨vs, H1, I1, r1, q1⟩ => ?_) hs rfl))
  obtain ⟨a, xs, ex, hq, q⟩ := q1
  subst ex
  cases r1 with
  | cons r rr =>
    cases rr
    cases r
    obtain ⟨its, rv, p', hz⟩ := I1.tuple hq
    have hal : a < s1.heap.objs.size := let ⟨_, e, _⟩ := p'; Heap.lt_size e
    refine enum_begins1 (begins_tuple a its.toArray) p' fun h' he hit hsz hk => wpAny_pyIter_enum he ?_
    have I2 : Inv X pins σ H1 { s1 with heap := h' } := I1.kept (t' := s1.toks) hk
    refine ⟨s1.heap.objs.size + 1, [s1.heap.objs.size + 1, s1.heap.objs.size], _, _, H1, rfl, I2, turn_enumT a (s1.heap.objs.size + 1) s1.heap.objs.size (Nat.ne_of_lt hal), ⟨⟨.none, he⟩, ⟨_, hit, rfl, rfl⟩, Nat.succ_ne_self _, Nat.ne_of_lt (Nat.lt_succ_of_lt hal)⟩, fun b hb => ?_, q⟩
    have e' : b = s1.heap.objs.size + 1 ∨ b = s1.heap.objs.size := by simpa using hb
    have hle : s1.heap.objs.size ≤ b := by
      rcases e' with z | z
      · rw [z]; exact Nat.le_add_right _ _
      · rw [z]; exact Nat.le_refl _
    exact I1.fpOk hle (I1.hok.fresh hle)
theorem walk_enumT {K : Frag} {a : Addr} {xs : List V} : Walk (IteT K a) xs.length (fun H => SqT K H a xs) (YPair (fun i => some (.int (i : Nat))) (fun i => xs[i]?)) := by
  refine ⟨fun i _ hi q => ⟨xs, xs[i], q, by simp [hi]⟩, fun _ q => ⟨xs, q, Nat.le_refl _⟩, fun i H v H' _ q y => ?_⟩
  obtain ⟨T, x, h1, h2, h3, h4⟩ := y
  exact ⟨T, .int (i : Nat), x, h1, h2, h3, rfl, h4 xs q⟩
end NW
set_option Elab.async false
set_option linter.all false
set_option maxRecDepth 100000
set_option maxHeartbeats 1000000
/-! W5: wrong_with, Tree. -/
namespace NW
open PySem PySem.Spec PyProof.Rows L2
section
variable {P : Program} {w : World} {K : Frag} {mg : Str → Option Value} {base : Heap}
def spWw (K : Frag) : Sp := fun vs H Q _ => ∃ (a : Addr) (i : Nat) (ps : List Addr) (t : Tr), vs = [.ref a, .int i] ∧ H a = some (.tup (ps.map V.ref)) ∧ Paired (PNode K H) ps t ∧ WF t ∧ i < t.length ∧ ∀ H', Same H H' → Q .non H'
theorem sc_wrong_with : FnScope ["nodes", "index", "node", "goal"] ["nodes", "index"] (defScope s_wrong_with) := ⟨rfl, rfl, rfl, by decide +kernel, rfl, by decide +kernel, by decide +kernel⟩
theorem ok_wrong_with (T : Txt K mg) : Cal P w K mg base 3 "wrong_with" (spWw K) [] := by
  refine cal T.f_wrong_with T.g_wrong_with sc_wrong_with (fun _ _ _ _ _ _ us hl => match us, hl with | [_, _], _ => rfl) (fun vs H Q E h => ?_) (fun cdv A outer s H vs Q E hr h => ?_)
  · obtain ⟨a, i, ps, t, rfl, _⟩ := h
    rfl
  · obtain ⟨a, i, ps, t, rfl, ha, hp, wf, hi, q⟩ := h
    have nd := sc_wrong_with.nd
    refine ⟨_, pss_cons (ps_set (i := 2) nd rfl (Or.inl rfl) (pe_ix ix_tup (pv 0) (pv 1) (fun _ _ => rfl)))
      (C8.pss_cut (ps_if (PW.pt (pw_and (pt_cmpR op_eq (pv 1) pe_int (nomark _)) (pw_and1 (pt_not (pt_val (pe_callB call_isi (by rfl) T.n_isinstance (by decide +kernel) (pa_cons (pv 2) (pa_cons (pcls T.g_Folder) pa_nil)))))))) pss_never pss_nil)
      (pss_cons (ps_if (pt_not (pt_val (C8.pe_c (ok_is_owner T) hr (by decide) rfl (pa_cons (pe_fld (pv 2) rfl) pa_nil)))) pss_never pss_nil)
      (pss_cons (ps_if (pt_val (pe_callB call_isi (by rfl) T.n_isinstance (by decide +kernel) (pa_cons (pv 2) (pa_cons (pcls T.g_Folder) pa_nil))))
        (pss_one (ps_ret (C8.pe_c (ok_wrong_with_entries T) hr (by decide) rfl (pa_cons (pv 0) (pa_cons (pe_fld (pv 2) rfl) pa_nil))))) pss_nil)
      (pss_cons (ps_if (PW.pt (pw_and (pt_val (pe_callB call_isi (by rfl) T.n_isinstance (by decide +kernel) (pa_cons (pv 2) (pa_cons (pcls T.g_Link) pa_nil)))) (pw_and1 (pt_never)))) pss_never pss_nil)
      (pss_cons (ps_if (pt_val (pe_callB call_isi (by rfl) T.n_isinstance (by decide +kernel) (pa_cons (pv 2) (pa_cons (pcls T.g_Gone) pa_nil))))
        (pss_cons (ps_set (i := 3) nd rfl (Or.inl rfl) (pe_fld (pv 2) rfl))
        (pss_cons (ps_if (PW.pt (pw_or (pt_not (pt_val (C8.pe_c (ok_is_number T) hr (by decide) rfl (pa_cons (pv 3) pa_nil)))) (pw_or (pt_not (pt_chain op_le op_lt pe_int (pv 3) (pe_callB call_len_seq (by rfl) T.n_len PySem.boot_len (pa_cons (pv 0) pa_nil))))
          (pw_or1 (pt_cmpR op_eq (pv 3) (pv 1) (nomark _)))))) pss_never pss_nil)
        (pss_one (ps_ret (pe_ifExp (pt_val (pe_callB call_isiT (by rfl) T.n_isinstance (by decide +kernel) (pa_cons (pe_ix ix_tup (pv 0) (pv 3) (fun _ _ => rfl)) (pa_cons (pe_tup (pa_cons (pcls T.g_Folder) (pa_cons (pcls T.g_Gone) pa_nil))) pa_nil)))) pe_non pe_never))))) pss_nil)
      (pss_one (ps_ret pe_non))))))), ?_⟩
    obtain ⟨p, hp1, hp2⟩ := node_at hp (List.getElem?_eq_getElem hi)
    have ht : t[i]? = some t[i] := List.getElem?_eq_getElem hi
    generalize t[i] = n at hp1 hp2 ht
    refine ⟨_, rfl, _, rfl, a, _, _, _, rfl, rfl, SqT.of ha, hp1, ?_⟩
    -- the root is a folder
    refine ⟨fun σ' H' => σ' = [some (.ref a), some (.int i), some (.ref p), none] ∧ H' = H, ?_, ?_⟩
    · refine ⟨_, rfl, rfl, _, rfl, ?_⟩
      refine ite2 (fun c => ?_) (fun c => iteF ⟨rfl, rfl⟩)
      have e0 : (i : Int) = 0 := V.int.inj (of_decide_eq_true c)
      have e1 : i = 0 := by omega
      subst e1
      have hF : n.isF = true := (isF_at ht).symm.trans wf.root
      refine ⟨_, rfl, _, _, _, _, _, rfl, .own _, hp2.ty T, kit_Folder T n, _, rfl, ?_⟩
      rw [hF]
      exact iteF ⟨rfl, rfl⟩
    rintro σ' H' ⟨rfl, rfl⟩
    have hown : 0 ≤ n.own := wf.own i n ht
    cases n with
    | fol o es =>
      obtain ⟨dx, e, qs, h1, h2, h3⟩ := id hp2
      have hen : ents t i = es := ents_at ht
      refine ⟨_, rfl, p, _, dx, _, _, rfl, h1, T.c_Folder, T.a_Folder_owner, rfl, o, rfl, hown, _, rfl, iteF ?_⟩
      refine ⟨_, rfl, _, _, _, _, _, rfl, .own _, hp2.ty T, kit_Folder T _, _, rfl, iteT ?_⟩
      refine ⟨_, rfl, _, rfl, p, _, dx, _, _, rfl, h1, T.c_Folder, T.a_Folder_entries, rfl, a, e, ps, qs, t, es, rfl, ha, hp, h2, h3, by rw [← hen]; exact wf.srt i, fun kn hk => wf.ent i kn.1 kn.2 (by rw [hen]; exact hk), q⟩
    | fil o =>
      obtain ⟨dx, h1⟩ := id hp2
      refine ⟨_, rfl, p, _, dx, _, _, rfl, h1, T.c_File, T.a_File_owner, rfl, o, rfl, hown, _, rfl, iteF ?_⟩
      refine ⟨_, rfl, _, _, _, _, _, rfl, .own _, hp2.ty T, kit_Folder T _, _, rfl, iteF ?_⟩
      refine ⟨_, rfl, _, _, _, _, _, rfl, .own _, hp2.ty T, kit_Link T _, _, rfl, iteF ?_⟩
      refine ⟨_, rfl, _, _, _, _, _, rfl, .own _, hp2.ty T, kit_Gone T _, _, rfl, iteF (q _ (Same.refl _))⟩
    | gon o ab =>
      obtain ⟨dx, h1⟩ := id hp2
      obtain ⟨g1, g2, g3⟩ := wf.gon i o ab ht
      obtain ⟨p2, hq1, hq2⟩ := node_at hp (List.getElem?_eq_getElem g1)
      refine ⟨_, rfl, p, _, dx, _, _, rfl, h1, T.c_Gone, T.a_Gone_owner, rfl, o, rfl, hown, _, rfl, iteF ?_⟩
      refine ⟨_, rfl, _, _, _, _, _, rfl, .own _, hp2.ty T, kit_Folder T _, _, rfl, iteF ?_⟩
      refine ⟨_, rfl, _, _, _, _, _, rfl, .own _, hp2.ty T, kit_Link T _, _, rfl, iteF ?_⟩
      refine ⟨_, rfl, _, _, _, _, _, rfl, .own _, hp2.ty T, kit_Gone T _, _, rfl, iteT ?_⟩
      refine ⟨_, rfl, p, _, dx, _, _, rfl, h1, T.c_Gone, T.a_Gone_above, rfl, ?_⟩
      refine ⟨_, rfl, ab, rfl, _, rfl, iteF ?_⟩
      refine ⟨_, rfl, _, _, rfl, rfl, true, congrArg V.bl (decide_eq_true (by omega)), iteT ⟨_, rfl, a, _, rfl, .inr (SqT.of ha), _, _, rfl, rfl, true, congrArg V.bl (decide_eq_true ?_), iteF ?_⟩⟩
      · rw [List.length_map, Plen hp]
        omega
      refine ⟨_, rfl, _, rfl, rfl, false, congrArg V.bl (decide_eq_false (fun z => g2 (by have := V.int.inj z; omega))), iteF ?_⟩
      refine ⟨_, rfl, _, rfl, a, _, _, _, rfl, rfl, SqT.of ha, hq1, (by show 2 ≤ sizeLine; decide), fun tp np => ?_⟩
      have s1 := same_new (o := .tup [.ref (He.ga K "Folder"), .ref (He.ga K "Gone")]) np
      refine ⟨_, tp, _, _, _, _, rfl, upd_same, .cons (.own _) (.cons (.own _) .nil), (hq2.gx (sgx s1)).ty T, kit_FG T _, _, rfl, ?_⟩
      rw [← isP_at (List.getElem?_eq_getElem g1), g3]
      exact q _ s1
end
end NW
set_option Elab.async false
set_option linter.all false
set_option maxRecDepth 100000
/-! KC: what Tree counts. -/
namespace NW
def fns (t : Tr) : List Nat := (List.range t.length).filter (isF t)
theorem isF_lt {t : Tr} {i : Nat} (h : isF t i = true) : i < t.length := by
  unfold isF at h
  cases e : t[i]? with
  | none => rw [e] at h; cases h
  | some nd => exact (List.getElem?_eq_some_iff.mp e).1
theorem mem_fns {t : Tr} {i : Nat} : i ∈ fns t ↔ isF t i = true := by
  unfold fns
  rw [List.mem_filter, List.mem_range]
  exact ⟨fun h => h.2, fun h => ⟨isF_lt h, h⟩⟩
theorem isF_of_ent {t : Tr} {f : Nat} {e : Nat × Nat} (h : e ∈ ents t f) : isF t f = true := by
  unfold ents at h
  unfold isF
  cases q : t[f]? with
  | none => rw [q] at h; cases h
  | some nd =>
    rw [q] at h
    cases nd with
    | fol o es => rfl
    | fil o => cases h
    | gon o a => cases h
def bump (c : Nat → Nat) (n : Nat) : Nat → Nat := fun m => if m = n then c m + 1 else c m
def cE (c : Nat → Nat) (es : List (Nat × Nat)) : Nat → Nat := es.foldl (fun c e => bump c e.2) c
def cA (t : Tr) (fs : List Nat) : Nat → Nat := fs.foldl (fun c f => cE c (ents t f)) fun _ => 0
theorem cE_eq (n : Nat) : ∀ (es : List (Nat × Nat)) (c : Nat → Nat), cE c es n = c n + es.countP fun e => decide (e.2 = n)
  | [], c => rfl
  | e :: r, c => by
    show cE (bump c e.2) r n = _
    rw [cE_eq n r, List.countP_cons]
    unfold bump
    by_cases h : n = e.2
    · rw [if_pos h, if_pos (decide_eq_true h.symm)]
      omega
    · rw [if_neg h, if_neg (by simp; exact fun z => h z.symm)]
      omega
theorem cA_go (t : Tr) (n : Nat) : ∀ (fs : List Nat) (c : Nat → Nat), fs.foldl (fun c f => cE c (ents t f)) c n = c n + (fs.map fun f => (ents t f).countP fun e => decide (e.2 = n)).sum
  | [], c => by simp
  | f :: r, c => by
    rw [List.foldl_cons, cA_go t n r, cE_eq, List.map_cons, List.sum_cons]
    omega
theorem cnt_key {n k : Nat} : ∀ {es : List (Nat × Nat)}, Srt es → (∀ e ∈ es, e.2 = n → e.1 = k) → (k, n) ∈ es → (es.countP fun e => decide (e.2 = n)) = 1
  | [], _, _, h => by simp at h
  | e :: r, hs, hk, h => by
    obtain ⟨h1, h2⟩ := List.pairwise_cons.mp hs
    rw [List.countP_cons]
    rcases List.mem_cons.mp h with h | h
    · subst h
      rw [if_pos (decide_eq_true rfl)]
      have z : (r.countP fun e => decide (e.2 = n)) = 0 := by
        rw [List.countP_eq_zero]
        intro x hx c
        have a := hk x (List.mem_cons_of_mem _ hx) (of_decide_eq_true c)
        have b := h1 x hx
        simp only at b
        omega
      rw [z]
    · have c : ¬ e.2 = n := fun c => by
        have a := hk e List.mem_cons_self c
        have b := h1 _ h
        simp only at b
        omega
      rw [if_neg (by simp; exact c), cnt_key h2 (fun x hx => hk x (List.mem_cons_of_mem _ hx)) h]
theorem sum_one {g : Nat → Nat} {f : Nat} : ∀ {fs : List Nat}, fs.Nodup → f ∈ fs → g f = 1 → (∀ x ∈ fs, x ≠ f → g x = 0) → (fs.map g).sum = 1
  | [], _, h, _, _ => by simp at h
  | x :: r, hn, hm, h1, h0 => by
    rw [List.nodup_cons] at hn
    rw [List.map_cons, List.sum_cons]
    rcases List.mem_cons.mp hm with h | h
    · subst h
      have z : (r.map g).sum = 0 := by
        have : ∀ l : List Nat, (∀ y ∈ l, g y = 0) → (l.map g).sum = 0 := by
          intro l
          induction l with
          | nil => intro _; rfl
          | cons a l ih => intro h; rw [List.map_cons, List.sum_cons, h a List.mem_cons_self, ih fun y hy => h y (List.mem_cons_of_mem _ hy)]
        exact this r fun y hy => h0 y (List.mem_cons_of_mem _ hy) fun z => hn.1 (z ▸ hy)
      rw [h1, z]
    · have hx : x ≠ f := fun z => hn.1 (z ▸ h)
      rw [h0 x List.mem_cons_self hx, sum_one hn.2 h h1 fun y hy => h0 y (List.mem_cons_of_mem _ hy)]
theorem dep_isF {t : Tr} (wf : WF t) {n d : Nat} (h : Dep t n d) : isF t n = true := by
  cases h with
  | root => exact wf.root
  | step _ _ h => exact h
theorem fns_nodup (t : Tr) : (fns t).Nodup := List.Pairwise.filter _ List.nodup_range
/-- each folder but the root stands in one entry -/
theorem cA_one {t : Tr} (wf : WF t) {n : Nat} (hF : isF t n = true) (h0 : n ≠ 0) : cA t (fns t) n = 1 := by
  unfold cA
  rw [cA_go, Nat.zero_add]
  obtain ⟨d, hd⟩ := wf.dep n hF
  cases hd with
  | root => exact absurd rfl h0
  | @step f k x d hf hm hx =>
    refine sum_one (fns_nodup t) (mem_fns.mpr (dep_isF wf hf)) (cnt_key (wf.srt f) (fun e he h2 => ?_) hm) fun g _ hg => ?_
    · have he' : (e.1, n) ∈ ents t f := by rw [← h2]; exact he
      exact (wf.one f e.1 f k n hF he' hm).2
    · rw [List.countP_eq_zero]
      intro e he c
      have h2 : e.2 = n := of_decide_eq_true c
      have he' : (e.1, n) ∈ ents t g := by rw [← h2]; exact he
      exact hg (wf.one g e.1 f k n hF he' hm).1
/-- a set that holds the root and each folder in each of its folders holds every folder -/
theorem closed_all {t : Tr} (wf : WF t) {M : Nat → Prop} (h0 : M 0) (hc : ∀ f k x, M f → (k, x) ∈ ents t f → isF t x = true → M x) {n : Nat} (hF : isF t n = true) : M n := by
  obtain ⟨d, hd⟩ := wf.dep n hF
  clear hF
  induction hd with
  | root => exact h0
  | step _ hm hx ih => exact hc _ _ _ ih hm hx
theorem mem_of_lookE {k n : Nat} {es : List (Nat × Nat)} (h : lookE k es = some n) : (k, n) ∈ es := by
  unfold lookE at h
  cases e : es.find? (fun e => decide (e.1 = k)) with
  | none => rw [e] at h; cases h
  | some x =>
    rw [e] at h
    cases h
    have h1 := List.mem_of_find?_eq_some e
    have h2 : x.1 = k := of_decide_eq_true (List.find?_some (p := fun e : Nat × Nat => decide (e.1 = k)) e)
    rw [← h2]
    exact h1
theorem lookE_mem {k n : Nat} : ∀ {es : List (Nat × Nat)}, Srt es → (k, n) ∈ es → lookE k es = some n
  | [], _, h => by simp at h
  | e :: r, hs, h => by
    obtain ⟨h1, h2⟩ := List.pairwise_cons.mp hs
    unfold lookE
    rw [List.find?_cons]
    rcases List.mem_cons.mp h with h | h
    · subst h
      simp
    · have := h1 _ h
      simp only at this
      have c : ¬ e.1 = k := by omega
      rw [decide_eq_false c]
      exact lookE_mem h2 h
theorem lookE_none {k : Nat} {es : List (Nat × Nat)} : lookE k es = none ↔ ∀ e ∈ es, e.1 ≠ k := by
  unfold lookE
  rw [Option.map_eq_none_iff, List.find?_eq_none]
  simp
/-- the entries that lead to a node -/
def entsOf (t : Tr) (n : Nat) : List (Nat × Nat) := (fns t).flatMap fun f => (ents t f).filterMap fun e => if e.2 = n then some (f, e.1) else none
theorem mem_entsOf {t : Tr} {n f k : Nat} : (f, k) ∈ entsOf t n ↔ (k, n) ∈ ents t f := by
  unfold entsOf
  rw [List.mem_flatMap]
  constructor
  · rintro ⟨g, hg, h⟩
    obtain ⟨e, he, h⟩ := List.mem_filterMap.mp h
    by_cases c : e.2 = n
    · rw [if_pos c] at h
      cases h
      rw [← c]
      exact he
    · rw [if_neg c] at h
      cases h
  · intro h
    refine ⟨f, mem_fns.mpr (isF_of_ent h), List.mem_filterMap.mpr ⟨_, h, by simp⟩⟩
theorem entsOf_one {t : Tr} (wf : WF t) {n f k : Nat} (hF : isF t n = true) (h : (k, n) ∈ ents t f) : ∃ r, entsOf t n = (f, k) :: r := by
  cases q : entsOf t n with
  | nil => have := mem_entsOf.mpr h; rw [q] at this; simp at this
  | cons x r =>
    obtain ⟨g, j⟩ := x
    have hx : (g, j) ∈ entsOf t n := by rw [q]; exact List.mem_cons_self
    obtain ⟨e1, e2⟩ := wf.one _ _ _ _ n hF (mem_entsOf.mp hx) h
    exact ⟨r, by rw [e1, e2]⟩
end NW
set_option Elab.async false
set_option linter.all false
set_option maxRecDepth 100000
set_option maxHeartbeats 1000000
/-! W6: folder_numbers, check_folders. -/
namespace NW
open PySem PySem.Spec PyProof.Rows L2
section
variable {P : Program} {w : World} {K : Frag} {mg : Str → Option Value} {base : Heap}
theorem treeLook {H : Hp} {a : Addr} {t : Tr} (h : PTree K H a t) : ∃ dx tp ps, H a = some (.ins (He.ga K "Tree") dx [("nodes", .ref tp)]) ∧ H tp = some (.tup (ps.map V.ref)) ∧ Paired (PNode K H) ps t := h
def natV (l : List Nat) : List V := l.map fun i => V.int (i : Nat)
def spFns (K : Frag) : Sp := fun vs H Q _ => ∃ (a : Addr) (t : Tr), vs = [.ref a] ∧ PTree K H a t ∧ t.length ≤ 1000 ∧ ∀ r H', Same H H' → H r = none → H' r = some (.lst (natV (fns t))) → Q (.ref r) H'
theorem sc_fns : FnScope ["self", "index", "node"] ["self"] (defScope s_Tree_folder_numbers) := ⟨rfl, rfl, rfl, by decide +kernel, rfl, by decide +kernel, by decide +kernel⟩
theorem ok_fns (T : Txt K mg) : Met P w K mg base 1 (He.ga K "Tree") "folder_numbers" (spFns K) [] := by
  refine met T.f_Tree_folder_numbers T.c_Tree T.e_Tree_folder_numbers sc_fns (fun _ _ _ _ _ _ us hl => match us, hl with | [_], _ => rfl) (fun vs H Q E h => ?_) (fun cdv A outer s H vs Q E hr h => ?_)
  · obtain ⟨a, t, rfl, _⟩ := h
    rfl
  · obtain ⟨a, t, rfl, hT, hlen, q⟩ := h
    have nd := sc_fns.nd
    refine ⟨_, pss_one (ps_ret (pe_lc (own := [("index", 1), ("node", 2)]) (g := gTup K 2 (gCons (gName 1) (gCons (gName 2) gNil))) (tt := tB (tCB (rIsi K) (tCons (tVar 2) (tCons (tC (.ref (He.ga K "Folder"))) tNil)))) rfl nd (pi_enumT (by rfl) T.n_enumerate (pa_cons (pe_fld (pv 0) rfl) pa_nil)) (blkOk_by (N := ["self", "index", "node"]) (sc := defScope s_Tree_folder_numbers) (by decide +kernel))
      (fun _ _ _ _ _ => pg_tup rfl (pgs_cons (pg_name (i := 1) nd rfl (Or.inl rfl)) (pgs_cons (pg_name (i := 2) nd rfl (Or.inl rfl)) pgs_nil)))
      (fun _ _ _ _ _ => pts_one (pt_val (pe_callB (isiK (K := K)) (by rfl) T.n_isinstance (by decide +kernel) (pa_cons (pv 2) (pa_cons (pcls T.g_Folder) pa_nil))))) (fun _ _ _ _ _ => pv 1))), ?_⟩
    obtain ⟨dx, tp, ps, h1, h2, h3⟩ := treeLook hT
    have hl : (ps.map V.ref).length = t.length := by rw [List.length_map, Plen h3]
    refine ⟨_, rfl, a, _, dx, _, _, rfl, h1, T.c_Tree, T.a_Tree_nodes, rfl, tp, _, rfl, SqT.of h2, fun D nD => lc_it walk_enumT (fun i Hi => Same H Hi ∧ Hi D = some (.lst (natV ((List.range i).filter (isF t))))) ⟨same_new nD, upd_same⟩ (fun i Hi _ h => seqT h.1 (SqT.of h2)) (fun i x Hi H' hi hI hy => ?_) (fun Hi hI => ?_)⟩
    · obtain ⟨sm, hts⟩ := hI
      obtain ⟨t1, x1, y1, rfl, n1, rfl, ex, ey⟩ := hy
      cases ex
      dsimp only at ey
      rw [hl] at hi
      obtain ⟨p, hp1, hp2⟩ := Pget h3 (List.getElem?_eq_getElem hi)
      rw [List.getElem?_map, hp1] at ey
      cases ey
      have sT := snew (o := .tup [.int (i : Nat), .ref p]) sm n1
      refine ⟨t1, _, rfl, SqT.of upd_same, rfl, _, _, rfl, _, _, rfl, rfl, rfl, _, rfl, _, _, _, _, _, rfl, .own _, (hp2.gx (sgx sT)).ty T, kit_Folder T _, _, rfl, ?_⟩
      have nDt : D ≠ t1 := ne_of_none hts n1
      refine ite2 (fun c => ?_) (fun c => ?_)
      · refine ⟨_, rfl, _, upd_at hts nDt, ?_, sput sT nD, ?_⟩
        · unfold natV
          rw [List.length_map]
          have := List.length_filter_le (isF t) (List.range i)
          rw [List.length_range] at this
          exact Nat.lt_of_lt_of_le (by omega : _ < 1001) (by decide)
        · rw [upd_same, List.range_succ, List.filter_append]
          unfold natV
          rw [List.map_append]
          have e1 : isF t i = true := (isF_at (List.getElem?_eq_getElem hi)).trans c
          simp [e1]
      · refine ⟨sT, (upd_at hts nDt).trans ?_⟩
        rw [List.range_succ, List.filter_append]
        have e1 : isF t i = false := (isF_at (List.getElem?_eq_getElem hi)).trans (by simpa using c)
        simp [e1]
    · obtain ⟨sm, hts⟩ := hI
      rw [hl] at hts
      exact q D Hi sm nD hts
/-! check_folders -/
def cv (n : Nat) (c : Nat → Nat) : List V := (List.range n).map fun m => V.int (c m : Nat)
theorem cv_get {n m : Nat} (c : Nat → Nat) (h : m < n) : (cv n c)[m]? = some (.int (c m : Nat)) := by
  unfold cv
  rw [List.getElem?_map, List.getElem?_range h]
  rfl
theorem cv_len (n : Nat) (c : Nat → Nat) : (cv n c).length = n := by unfold cv; rw [List.length_map, List.length_range]
theorem cv_set {n m : Nat} (c : Nat → Nat) (h : m < n) : (cv n c).set m (.int ((c m : Nat) + 1)) = cv n (bump c m) := by
  refine List.ext_getElem? fun i => ?_
  rw [List.getElem?_set]
  by_cases hi : i < n
  · rw [cv_get _ hi, cv_get _ hi, cv_len, if_pos h]
    unfold bump
    by_cases e : m = i
    · rw [if_pos e, if_pos e.symm]
      subst e
      rfl
    · rw [if_neg e, if_neg (fun z => e z.symm)]
  · rw [List.getElem?_eq_none (by rw [cv_len]; omega), List.getElem?_eq_none (by rw [cv_len]; omega), if_neg (by omega)]
theorem ixN_nat {n j : Nat} (h : j < n) : ixN n (j : Int) = some j := by
  unfold ixN
  rw [if_pos (by omega), if_pos (by omega)]
  simp
theorem isF_fol {t : Tr} {f : Nat} (h : isF t f = true) : ∃ o, t[f]? = some (.fol o (ents t f)) := by
  unfold isF at h
  unfold ents
  cases q : t[f]? with
  | none => rw [q] at h; cases h
  | some nd =>
    rw [q] at h
    cases nd with
    | fol o es => exact ⟨o, rfl⟩
    | fil o => cases h
    | gon o a => cases h
def metK (M : List Nat) : List (Key × V) := M.map fun (m : Nat) => (Sum.inl (m : Int), V.bl true)
theorem metK_get (n : Nat) : ∀ M : List Nat, (valV (metK M) (Sum.inl (n : Int))).isSome = decide (n ∈ M)
  | [] => rfl
  | m :: M => by
    by_cases h : m = n
    · subst h
      rw [show metK (m :: M) = (Sum.inl (m : Int), V.bl true) :: metK M from rfl, valV_pos rfl]
      simp
    · rw [show metK (m :: M) = (Sum.inl (m : Int), V.bl true) :: metK M from rfl, valV_neg (fun z => h (by have := Sum.inl.inj z; omega)), metK_get n M]
      simp [Ne.symm h]
/-- a folder's entries -/
theorem fol_look {H : Hp} {ps : List Addr} {t : Tr} (hp : Paired (PNode K H) ps t) {f : Nat} (hf : isF t f = true) : ∃ p dx o e qs, atI (ps.map V.ref) (f : Int) = some (.ref p) ∧ H p = some (.ins (He.ga K "Folder") dx (fFol o e)) ∧ H e = some (.tup (qs.map V.ref)) ∧ Paired (EPair H) qs (ents t f) := by
  obtain ⟨o, ho⟩ := isF_fol hf
  obtain ⟨p, h1, dx, e, qs, h2, h3, h4⟩ := node_at hp ho
  exact ⟨p, dx, o, e, qs, h1, h2, h3, h4⟩
theorem natV_get {l : List Nat} {i : Nat} {x : V} (h : (natV l)[i]? = some x) : ∃ n, l[i]? = some n ∧ x = .int (n : Nat) := by
  unfold natV at h
  rw [List.getElem?_map] at h
  cases e : l[i]? with
  | none => rw [e] at h; cases h
  | some n => rw [e] at h; cases h; exact ⟨n, rfl, rfl⟩
theorem natV_len (l : List Nat) : (natV l).length = l.length := List.length_map _
theorem qs_get {H : Hp} {qs : List Addr} {es : List (Nat × Nat)} (hq : Paired (EPair H) qs es) {i : Nat} {x : V} (h : (qs.map V.ref)[i]? = some x) : ∃ u e, es[i]? = some e ∧ x = .ref u ∧ H u = some (.tup [.str (nm e.1), .int e.2]) := by
  rw [List.getElem?_map] at h
  cases hi : qs[i]? with
  | none => rw [hi] at h; cases h
  | some u =>
    rw [hi] at h
    cases h
    obtain ⟨e, he, hE⟩ := Pget' hq hi
    exact ⟨u, e, he, rfl, hE⟩
def spCheckFolders (K : Frag) : Sp := fun vs H Q _ => ∃ (a : Addr) (t : Tr), vs = [.ref a] ∧ PTree K H a t ∧ WF t ∧ t.length ≤ 1000 ∧ ∀ H', Same H H' → Q .non H'
theorem sc_check_folders : FnScope ["self", "counts", "index", "name", "node", "met", "waiting"] ["self"] (defScope s_Tree_check_folders) := ⟨rfl, rfl, rfl, by decide +kernel, rfl, by decide +kernel, by decide +kernel⟩
theorem ok_check_folders (T : Txt K mg) : Met P w K mg base 2 (He.ga K "Tree") "check_folders" (spCheckFolders K) [] := by
  refine met T.f_Tree_check_folders T.c_Tree T.e_Tree_check_folders sc_check_folders (fun _ _ _ _ _ _ us hl => match us, hl with | [_], _ => rfl) (fun vs H Q E h => ?_) (fun cdv A outer s H vs Q E hr h => ?_)
  · obtain ⟨a, t, rfl, _⟩ := h
    rfl
  · obtain ⟨a, t, rfl, hT, wf, hlen, q⟩ := h
    have nd := sc_check_folders.nd
    have hu := hu_of hr
    refine ⟨_, pss_cons (ps_set (i := 1) nd rfl (Or.inl rfl) (pe_op op_rep (pe_lst (pa_cons pe_int pa_nil)) (pe_callB call_len_seq (by rfl) T.n_len PySem.boot_len (pa_cons (pe_fld (pv 0) rfl) pa_nil))))
      (pss_cons (ps_for PassesOwn.never rfl (pi_list (C8.pe_mt0 (ok_fns T) hr (by decide) (pv 0))) (pg_name (i := 2) nd rfl (Or.inl rfl))
        (pss_one (ps_for PassesOwn.never rfl (pi_tup (pe_fld (pe_ix ix_tup (pe_fld (pv 0) rfl) (pv 2) (fun _ _ => rfl)) rfl)) (pg_tup rfl (pgs_cons (pg_name (i := 3) nd rfl (Or.inl rfl)) (pgs_cons (pg_name (i := 4) nd rfl (Or.inl rfl)) pgs_nil)))
          (pss_one (ps_asg (pe_op op_add (pe_ix ix_list (pv 1) (pv 4) (fun _ _ => rfl)) pe_int) (pg_sub (pv 1) (pv 4) set_list))))))
      (pss_cons (ps_for PassesOwn.never rfl (pi_list (C8.pe_mt0 (ok_fns T) hr (by decide) (pv 0))) (pg_name (i := 2) nd rfl (Or.inl rfl))
        (pss_one (ps_if (PW.pt (pw_and (pt_cmpR op_ne (pv 2) pe_int (nomark _)) (pw_and1 (pt_cmpR op_ne (pe_ix ix_list (pv 1) (pv 2) (fun _ _ => rfl)) pe_int (nomark _))))) pss_never pss_nil)))
      (pss_cons (ps_par (i := 5) (j := 6) rfl nd rfl rfl (by decide) rfl rfl (pa_cons (pe_disp (pps_cons pe_int pe_bl pps_nil) (by rfl) (by rfl) (fun z => by cases z) (by decide)) (pa_cons (pe_lst (pa_cons pe_int pa_nil)) pa_nil)) (by rfl))
      (pss_cons (ps_while PassesOwn.never (pt_cmpR (op_neNil hr.units0) (pv 6) (pe_lst pa_nil) (nomark _))
        (pss_one (ps_for PassesOwn.never rfl (pi_tup (pe_fld (pe_ix ix_tup (pe_fld (pv 0) rfl) (pe_bm0 PySem.F.plainAttrs_list PySem.F.slot_list_pop PySem.F.type_list_pop mt_pop (pv 6)) (fun _ _ => rfl)) rfl)) (pg_tup rfl (pgs_cons (pg_name (i := 3) nd rfl (Or.inl rfl)) (pgs_cons (pg_name (i := 4) nd rfl (Or.inl rfl)) pgs_nil)))
          (pss_one (ps_if (PW.pt (pw_and (pt_cmp (pc_dnotin hu (pv 4) (pv 5))) (pw_and1 (pt_val (pe_callB call_isi (by rfl) T.n_isinstance (by decide +kernel) (pa_cons (pe_ix ix_tup (pe_fld (pv 0) rfl) (pv 4) (fun _ _ => rfl)) (pa_cons (pcls T.g_Folder) pa_nil)))))))
            (pss_cons (ps_dput hu (pv 5) (pv 4) pe_bl rfl) (pss_one (ps_expr (pe_bm PySem.F.plainAttrs_list PySem.F.slot_list_append PySem.F.type_list_append mt_append (pv 6) (pa_cons (pv 4) pa_nil))))) pss_nil)))))
      (pss_one (ps_for PassesOwn.never rfl (pi_list (C8.pe_mt0 (ok_fns T) hr (by decide) (pv 0))) (pg_name (i := 2) nd rfl (Or.inl rfl))
        (pss_one (ps_if (pt_cmp (pc_dnotin hu (pv 2) (pv 5))) pss_never pss_nil)))))))), ?_⟩
    obtain ⟨dx, tp, ps, h1, h2, h3⟩ := id hT
    have hl : (ps.map V.ref).length = t.length := by rw [List.length_map, Plen h3]
    have noF : ([("nodes", V.ref tp)] : List (Str × V)).lookup ("folder_numbers" : Str) = none := rfl
    refine ⟨(by show 1 ≤ sizeLine; decide), fun l nl => ⟨_, rfl, a, _, dx, _, _, rfl, upd_at h1 (ne_of_none h1 nl), T.c_Tree, T.a_Tree_nodes, rfl, tp, _, rfl, .inr (SqT.of (upd_at h2 (ne_of_none h2 nl))), l, _, _, rfl, rfl, upd_same, by omega, by rw [hl]; omega, ?_, fun c nc => ?_⟩⟩
    · rw [hl]
      exact Nat.le_trans (by simp; omega : _ ≤ 1000) (by decide)
    have s2 := snew (o := .lst (List.replicate (((ps.map V.ref).length : Nat) : Int).toNat [V.int 0]).flatten) (same_new (o := .lst [.int 0]) nl) nc
    have n0 : H c = none := (same_new (o := .lst [.int 0]) nl).free nc
    have e0 : (List.replicate (((ps.map V.ref).length : Nat) : Int).toNat [V.int 0]).flatten = cv t.length fun _ => 0 := by
      rw [hl, Int.toNat_natCast]
      unfold cv
      induction t.length with
      | zero => rfl
      | succ n ih => rw [List.replicate_succ', List.flatten_append, ih, List.range_succ, List.map_append]; rfl
    rw [e0] at s2 ⊢
    have hc : (upd (upd H l (.lst [.int 0])) c (.lst (cv t.length fun _ => 0))) c = some (.lst (cv t.length fun _ => 0)) := upd_same
    generalize upd (upd H l (.lst [.int 0])) c (.lst (cv t.length fun _ => 0)) = H2 at s2 hc
    -- the first loop
    refine ⟨_, rfl, a, dx, _, rfl, s2 _ _ h1, noF, a, t, rfl, hT.gx (sgx s2), hlen, fun r Hr sr nr hr2 => ⟨r, rfl, ⟨_, SqL.of hr2⟩, ?_⟩⟩
    have sHr := s2.trans sr
    have ncr : r ≠ c := (ne_of_none hc nr).symm
    refine for_it walk_list (fun i σ Hi => Sb c Hr Hi ∧ Hi c = some (.lst (cv t.length (cA t ((fns t).take i)))) ∧ ∃ x2 x3 x4 x5 x6, σ = [some (.ref a), some (.ref c), x2, x3, x4, x5, x6]) ⟨Sb.refl _ _, sr _ _ hc, _, _, _, _, _, rfl⟩ (fun i σ Hi _ h => SqL.of (h.1.at hr2 ncr)) (fun i x σ Hx Hi hi hI hy => ?_) (fun σ Hi hI => ?_)
    · obtain ⟨sb, hcc, x2, x3, x4, x5, x6, rfl⟩ := hI
      obtain ⟨rfl, hx⟩ := hy
      obtain ⟨f, hf, rfl⟩ := natV_get hx
      have sHi : Same H Hi := sbSame sHr n0 sb
      have hF : isF t f = true := mem_fns.mp (List.mem_of_getElem? hf)
      obtain ⟨p, dx2, o, e, qs, g1, g2, g3, g4⟩ := fol_look (Pmap h3 fun _ _ h => PNode.gx (sgx sHi) h) hF
      have hsucc : cA t ((fns t).take (i + 1)) = cE (cA t ((fns t).take i)) (ents t f) := by
        unfold cA
        rw [List.take_succ, hf, List.foldl_append]
        rfl
      have nce : c ≠ e := fun z => by rw [← z, hcc] at g3; cases g3
      refine ⟨_, rfl, a, _, dx, _, _, rfl, sHi _ _ h1, T.c_Tree, T.a_Tree_nodes, rfl, _, rfl, tp, _, _, _, rfl, rfl, SqT.of (sHi _ _ h2), g1, p, _, dx2, _, _, rfl, g2, T.c_Folder, T.a_Folder_entries, rfl, e, rfl, ⟨_, SqT.of g3⟩, ?_⟩
      refine for_it walk_tup (fun j σ Hj => Sb c Hi Hj ∧ Hj c = some (.lst (cv t.length (cE (cA t ((fns t).take i)) ((ents t f).take j)))) ∧ ∃ x3 x4 x5 x6, σ = [some (.ref a), some (.ref c), some (.int f), x3, x4, x5, x6]) ⟨Sb.refl _ _, hcc, _, _, _, _, rfl⟩ (fun j σ Hj _ h => SqT.of (h.1.at g3 nce.symm)) (fun j x σ Hx Hj hj hJ hy => ?_) (fun σ Hj hJ => ?_)
      · obtain ⟨sbj, hcj, x3, x4, x5, x6, rfl⟩ := hJ
        obtain ⟨rfl, hx⟩ := hy
        obtain ⟨u, kn, hkn, rfl, hu2⟩ := qs_get g4 hx
        have ncu : u ≠ c := fun z => by rw [z, hcc] at hu2; cases hu2
        have hn : kn.2 < t.length := (wf.ent f kn.1 kn.2 (List.mem_of_getElem? hkn)).2.2.1
        refine ⟨u, _, rfl, SqT.of (sbj.at hu2 ncu), rfl, _, _, rfl, _, _, rfl, rfl, _, rfl, _, rfl, c, _, _, _, rfl, rfl, SqL.of hcj, atI_nat (cv_get _ hn), _, _, rfl, rfl, _, rfl, _, rfl, c, _, _, _, rfl, rfl, hcj, by rw [cv_len]; exact ixN_nat hn, ?_⟩
        refine ⟨sbj.put, ?_, _, _, _, _, rfl⟩
        rw [upd_same, cv_set _ hn, List.take_succ, hkn]
        unfold cE
        rw [List.foldl_append]
        rfl
      · obtain ⟨sbj, hcj, x3, x4, x5, x6, rfl⟩ := hJ
        rw [List.length_map, Plen g4, List.take_length] at hcj
        exact ⟨sb.trans sbj, by rw [hsucc]; exact hcj, _, _, _, _, _, rfl⟩
    obtain ⟨sb, hcc, x2, x3, x4, x5, x6, rfl⟩ := hI
    rw [natV_len, List.take_length] at hcc
    have sHi : Same H Hi := sbSame sHr n0 sb
    clear sb
    -- the second loop
    refine ⟨_, rfl, a, dx, _, rfl, sHi _ _ h1, noF, a, t, rfl, hT.gx (sgx sHi), hlen, fun r2 H3 sr3 nr3 hr3 => ⟨r2, rfl, ⟨_, SqL.of hr3⟩, ?_⟩⟩
    refine for_it walk_list (fun i σ Hj => Hj = H3 ∧ ∃ x2, σ = [some (.ref a), some (.ref c), x2, x3, x4, x5, x6]) ⟨rfl, _, rfl⟩ (fun i σ Hj _ h => by rw [h.1]; exact SqL.of hr3) (fun i x σ Hx Hj hi hI hy => ?_) (fun σ Hj hI => ?_)
    · obtain ⟨rfl, x2, rfl⟩ := hI
      obtain ⟨rfl, hx⟩ := hy
      obtain ⟨f, hf, rfl⟩ := natV_get hx
      have hF : isF t f = true := mem_fns.mp (List.mem_of_getElem? hf)
      refine ⟨_, rfl, rfl, _, rfl, ?_⟩
      refine ite2 (fun c0 => ?_) (fun c0 => iteF ⟨rfl, _, rfl⟩)
      have f0 : f ≠ 0 := fun z => by subst z; cases c0
      refine ⟨_, rfl, _, rfl, c, _, _, _, rfl, rfl, SqL.of (sr3 _ _ hcc), atI_nat (cv_get _ (isF_lt hF)), rfl, _, rfl, ?_⟩
      rw [cA_one wf hF f0]
      exact iteF ⟨rfl, _, rfl⟩
    obtain ⟨rfl, x2, rfl⟩ := hI
    have sH3 := sHi.trans sr3
    clear nr hr2 ncr sHr
    refine fun m nm => ⟨upd_same, [(Sum.inl 0, .bl true)], rfl, by decide, (by show 1 ≤ sizeLine; decide), fun v nv => ⟨_, _, rfl, ?_⟩⟩
    have n0m : H m = none := sH3.free nm
    have nvm : v ≠ m := fun z => by rw [z, upd_same] at nv; cases nv
    have n0v : H v = none := by
      rw [upd_ne nvm, upd_ne nvm] at nv
      exact sH3.free nv
    have s4 := sput (o := .lst [.int 0]) (sput (o := .dK (mergeK [] [(Sum.inl 0, .bl true)])) (sput (o := .dK []) sH3 n0m) n0m) n0v
    -- the search
    have hL0 : 0 < t.length := isF_lt wf.root
    refine ⟨fun μ σ Hc => ∃ M Wt x2 x3 x4, σ = [some (.ref a), some (.ref c), x2, x3, x4, some (.ref m), some (.ref v)] ∧ Same H Hc ∧ Hc m = some (.dK (metK M)) ∧ Hc v = some (.lst (natV Wt)) ∧ M.Nodup ∧ (∀ y ∈ M, isF t y = true) ∧ (∀ y ∈ Wt, y ∈ M) ∧ 0 ∈ M ∧
      (∀ f k x, f ∈ M → f ∉ Wt → (k, x) ∈ ents t f → isF t x = true → x ∈ M) ∧ 2 * (t.length - M.length) + Wt.length ≤ 2 * t.length ∧ μ = 2 * (t.length - M.length) + Wt.length,
      ⟨_, [0], [0], _, _, _, rfl, s4, (upd_at upd_same nvm.symm).trans rfl, upd_same.trans rfl, by simp, by simp; exact wf.root, by simp, by simp, fun f k x hf hW _ _ => absurd hf hW, by simp; omega, rfl⟩, ?_⟩
    rintro μ σ Hc ⟨M, Wt, x2, x3, x4, rfl, sc, hm, hv, hMn, hMF, hW, h0, hcl, hbd, rfl⟩
    refine ⟨_, rfl, (by show 0 ≤ sizeLine; decide), fun p np => ⟨v, p, _, rfl, rfl, SqL.of (upd_at hv (ne_of_none hv np)), SqL.of upd_same, _, rfl, ?_⟩⟩
    have sp := snew (o := .lst []) sc np
    have hm1 := upd_at (o := .lst []) hm (ne_of_none hm np)
    have hv1 := upd_at (o := .lst []) hv (ne_of_none hv np)
    generalize upd Hc p (.lst []) = Hd at sp hm1 hv1
    rcases List.eq_nil_or_concat Wt with hWe | ⟨Wt', f, hWe⟩
    · -- nothing waits
      subst hWe
      have hall : ∀ n, isF t n = true → n ∈ M := fun n hn => closed_all wf (M := fun x => x ∈ M) h0 (fun f k x hf hk hx => hcl f k x hf (by simp) hk hx) hn
      refine iteF ?_
      refine ⟨_, rfl, a, dx, _, rfl, sp _ _ h1, noF, a, t, rfl, hT.gx (sgx sp), hlen, fun r2 H4 sr4 nr4 hr4 => ⟨r2, rfl, ⟨_, SqL.of hr4⟩, ?_⟩⟩
      refine for_it walk_list (fun i σ Hj => Hj = H4 ∧ ∃ x2, σ = [some (.ref a), some (.ref c), x2, x3, x4, some (.ref m), some (.ref v)]) ⟨rfl, _, rfl⟩ (fun i σ Hj _ h => by rw [h.1]; exact SqL.of hr4) (fun i x σ Hx Hj hi hI hy => ?_) (fun σ Hj hI => ?_)
      · obtain ⟨rfl, x2, rfl⟩ := hI
        obtain ⟨rfl, hx⟩ := hy
        obtain ⟨f, hf, rfl⟩ := natV_get hx
        have hF : isF t f = true := mem_fns.mp (List.mem_of_getElem? hf)
        refine ⟨_, rfl, _, rfl, m, _, rfl, DGet.k (k := Sum.inl (f : Int)) (sr4 _ _ hm1), _, rfl, ?_⟩
        rw [metK_get, decide_eq_true (hall f hF)]
        exact iteF ⟨rfl, _, rfl⟩
      · obtain ⟨rfl, x2, rfl⟩ := hI
        exact q _ (sp.trans sr4)
    · subst hWe
      have hfM : f ∈ M := hW f (by simp)
      have hfF := hMF f hfM
      have elast : (natV (Wt'.concat f))[(natV (Wt'.concat f)).length - 1]? = some (.int (f : Nat)) := by
        unfold natV
        rw [List.concat_eq_append, List.map_append, List.length_append]
        simp
      have edrop : (natV (Wt'.concat f)).dropLast = natV Wt' := by
        unfold natV
        rw [List.concat_eq_append, List.map_append]
        exact List.dropLast_concat
      obtain ⟨p1, dx2, o, e, qs, g1, g2, g3, g4⟩ := fol_look (Pmap h3 fun _ _ h => PNode.gx (sgx sp) h) hfF
      have enil : (!(natV (Wt'.concat f)).isEmpty) = true := by
        unfold natV
        rw [List.concat_eq_append, List.map_append]
        simp
      rw [if_pos rfl, enil]
      refine iteT ⟨fun σ' H' => ∃ m', m' < 2 * (t.length - M.length) + (Wt'.concat f).length ∧ ∃ M2 Wt2 x2 x3 x4, σ' = [some (.ref a), some (.ref c), x2, x3, x4, some (.ref m), some (.ref v)] ∧ Same H H' ∧ H' m = some (.dK (metK M2)) ∧ H' v = some (.lst (natV Wt2)) ∧ M2.Nodup ∧ (∀ y ∈ M2, isF t y = true) ∧ (∀ y ∈ Wt2, y ∈ M2) ∧ 0 ∈ M2 ∧
        (∀ f k x, f ∈ M2 → f ∉ Wt2 → (k, x) ∈ ents t f → isF t x = true → x ∈ M2) ∧ 2 * (t.length - M2.length) + Wt2.length ≤ 2 * t.length ∧ m' = 2 * (t.length - M2.length) + Wt2.length, fun _ _ h => h, ?_⟩
      have nve : e ≠ v := fun z => by rw [z, hv1] at g3; cases g3
      have nvp : p1 ≠ v := fun z => by rw [z, hv1] at g2; cases g2
      have nva : a ≠ v := ne_of (sp _ _ h1) hv1 (by intro z; cases z)
      have nvt : tp ≠ v := fun z => by have := sp _ _ h2; rw [z, hv1] at this; cases this
      refine ⟨_, rfl, a, _, dx, _, _, rfl, sp _ _ h1, T.c_Tree, T.a_Tree_nodes, rfl, _, rfl, .inl ⟨rfl, _, SqL.of hv1⟩, v, _, _, rfl, rfl, hv1, elast, ?_⟩
      refine ⟨tp, _, _, _, rfl, rfl, SqT.of (upd_at (sp _ _ h2) nvt), g1, p1, _, dx2, _, _, rfl, upd_at g2 nvp, T.c_Folder, T.a_Folder_entries, rfl, e, rfl, ⟨_, SqT.of (upd_at g3 nve)⟩, ?_⟩
      rw [edrop]
      have s5 := sput (o := .lst (natV Wt')) sp n0v
      have g5 : Paired (EPair (upd Hd v (.lst (natV Wt')))) qs (ents t f) := Pmap g4 fun q kn hE => upd_at hE (fun z => by rw [z] at hE; rw [hE] at hv1; cases hv1)
      have g3' := upd_at (o := .lst (natV Wt')) g3 nve
      refine for_it walk_tup (fun j σ Hj => ∃ M2 Wt2 x3 x4, σ = [some (.ref a), some (.ref c), x2, x3, x4, some (.ref m), some (.ref v)] ∧ Same H Hj ∧ (∀ b xs, (upd Hd v (.lst (natV Wt'))) b = some (.tup xs) → Hj b = some (.tup xs)) ∧ Hj m = some (.dK (metK M2)) ∧ Hj v = some (.lst (natV Wt2)) ∧ M2.Nodup ∧ (∀ y ∈ M2, isF t y = true) ∧ (∀ y ∈ Wt2, y ∈ M2) ∧ (∀ y ∈ M, y ∈ M2) ∧
        (∀ g k x, g ∈ M2 → g ∉ Wt2 → g ≠ f → (k, x) ∈ ents t g → isF t x = true → x ∈ M2) ∧ (∀ kn ∈ (ents t f).take j, isF t kn.2 = true → kn.2 ∈ M2) ∧ 2 * (t.length - M2.length) + Wt2.length + 1 ≤ 2 * (t.length - M.length) + (Wt'.concat f).length)
        ⟨M, Wt', _, _, rfl, s5, fun _ _ h => h, upd_at hm1 (fun z => by rw [z] at hm1; rw [hm1] at hv1; cases hv1), upd_same, hMn, hMF, fun y hy => hW y (by simp [hy]), fun y hy => hy, fun g k x hg hgW hgf hk hx => hcl g k x hg (by simp; exact ⟨hgW, hgf⟩) hk hx, by simp, by simp; omega⟩
        (fun j σ Hj _ h => by obtain ⟨_, _, _, _, _, _, ht, _⟩ := h; exact SqT.of (ht _ _ g3')) (fun j x σ Hx Hj hj hJ hy => ?_) (fun σ Hj hJ => ?_)
      · obtain ⟨M2, Wt2, x3, x4, rfl, sj, htj, hmj, hvj, hMn2, hMF2, hW2, hsub, hcl2, hch, hμ⟩ := hJ
        obtain ⟨rfl, hx⟩ := hy
        obtain ⟨u, kn, hkn, rfl, hu2⟩ := qs_get g5 hx
        have hn : kn.2 < t.length := (wf.ent f kn.1 kn.2 (List.mem_of_getElem? hkn)).2.2.1
        have hlM : M2.length ≤ t.length := nodup_len hMn2 fun y hy => isF_lt (hMF2 y hy)
        have htk : ∀ k2 ∈ (ents t f).take (j + 1), k2 ∈ (ents t f).take j ∨ k2 = kn := fun k2 hk2 => by
          rw [List.take_succ, hkn] at hk2
          simpa using hk2
        obtain ⟨pn, hpn1, hpn2⟩ := node_at (Pmap h3 fun _ _ h => PNode.gx (sgx sj) h) (List.getElem?_eq_getElem hn)
        refine ⟨u, _, rfl, SqT.of (htj _ _ hu2), rfl, _, _, rfl, _, _, rfl, rfl, _, rfl, _, rfl, m, _, rfl, DGet.k (k := Sum.inl (kn.2 : Int)) hmj, _, rfl, ?_⟩
        rw [metK_get]
        refine ite2 (fun c1 => ?_) (fun c1 => iteF ⟨M2, Wt2, _, _, rfl, sj, htj, hmj, hvj, hMn2, hMF2, hW2, hsub, hcl2, fun k2 hk2 hF2 => ?_, hμ⟩)
        · have hnM : kn.2 ∉ M2 := by simpa using c1
          refine ⟨_, rfl, a, _, dx, _, _, rfl, sj _ _ h1, T.c_Tree, T.a_Tree_nodes, rfl, _, rfl, tp, _, _, _, rfl, rfl, SqT.of (sj _ _ h2), hpn1, _, _, _, _, _, rfl, .own _, hpn2.ty T, kit_Folder T _, _, rfl, ?_⟩
          refine ite2 (fun c2 => ?_) (fun c2 => ⟨M2, Wt2, _, _, rfl, sj, htj, hmj, hvj, hMn2, hMF2, hW2, hsub, hcl2, fun k2 hk2 hF2 => ?_, hμ⟩)
          · have hnF : isF t kn.2 = true := (isF_at (List.getElem?_eq_getElem hn)).trans c2
            have hlM3 : (M2 ++ [kn.2]).length ≤ t.length := nodup_len (by rw [List.nodup_append]; exact ⟨hMn2, by simp, fun y hy z hz => by simp at hz; subst hz; exact fun w => hnM (w ▸ hy)⟩) fun y hy => by
              rcases List.mem_append.mp hy with hy | hy
              · exact isF_lt (hMF2 y hy)
              · simp at hy; subst hy; exact hn
            have hvn : valV (metK M2) (Sum.inl (kn.2 : Int)) = none := by
              have := metK_get kn.2 M2
              rw [decide_eq_false hnM] at this
              simpa using this
            have hput : putK (metK M2) (Sum.inl (kn.2 : Int)) (V.bl true) = metK (M2 ++ [kn.2]) := by
              rw [putK_new _ hvn]
              unfold metK
              rw [List.map_append]
              rfl
            have lm : (metK M2).length = M2.length := List.length_map _
            have nvm2 : v ≠ m := fun z => by rw [z, hmj] at hvj; cases hvj
            refine ⟨_, rfl, _, rfl, m, _, rfl, DPut.k (k := Sum.inl (kn.2 : Int)) hmj (by rw [lm]; exact Nat.lt_of_le_of_lt (Nat.le_trans hlM hlen) (by decide)), ?_⟩
            rw [hput]
            have hv6 := upd_at (o := .dK (metK (M2 ++ [kn.2]))) hvj nvm2
            refine ⟨_, rfl, .inl ⟨rfl, _, SqL.of hv6⟩, _, rfl, v, _, _, rfl, rfl, hv6, ?_, ?_⟩
            · rw [natV_len]
              have : Wt2.length ≤ 2 * t.length := by omega
              exact Nat.lt_of_le_of_lt (by omega : Wt2.length ≤ 3001) (by decide)
            refine ⟨M2 ++ [kn.2], Wt2 ++ [kn.2], _, _, rfl, sput (sput sj n0m) n0v, fun b xs hb => ?_, upd_at upd_same nvm2.symm, ?_, ?_, ?_, ?_, fun y hy => by simp [hsub y hy], ?_, ?_, ?_⟩
            · have hb' := htj b xs hb
              refine upd_at (upd_at hb' fun z => ?_) fun z => ?_
              · rw [z, hmj] at hb'; cases hb'
              · rw [z, hvj] at hb'; cases hb'
            · rw [upd_same]
              unfold natV
              rw [List.map_append]
              rfl
            · rw [List.nodup_append]
              exact ⟨hMn2, by simp, fun y hy z hz => by simp at hz; subst hz; exact fun w => hnM (w ▸ hy)⟩
            · intro y hy
              rcases List.mem_append.mp hy with hy | hy
              · exact hMF2 y hy
              · simp at hy; subst hy; exact hnF
            · intro y hy
              rcases List.mem_append.mp hy with hy | hy
              · exact List.mem_append_left _ (hW2 y hy)
              · exact List.mem_append_right _ hy
            · intro g k x hg hgW hgf hk hx
              have hgW' : g ∉ Wt2 ∧ g ≠ kn.2 := by simpa using hgW
              rcases List.mem_append.mp hg with hg | hg
              · exact List.mem_append_left _ (hcl2 g k x hg hgW'.1 hgf hk hx)
              · simp at hg; exact absurd hg hgW'.2
            · intro k2 hk2 hF2
              rcases htk k2 hk2 with h | h
              · exact List.mem_append_left _ (hch k2 h hF2)
              · subst h; simp
            · rw [List.length_append, List.length_append, List.length_singleton]
              rw [List.length_append, List.length_singleton] at hlM3
              omega
          · rcases htk k2 hk2 with h | h
            · exact hch k2 h hF2
            · subst h
              rw [isF_at (List.getElem?_eq_getElem hn)] at hF2
              exact absurd hF2 c2
        · rcases htk k2 hk2 with h | h
          · exact hch k2 h hF2
          · subst h
            simpa using c1
      · obtain ⟨M2, Wt2, x3, x4, rfl, sj, htj, hmj, hvj, hMn2, hMF2, hW2, hsub, hcl2, hch, hμ⟩ := hJ
        refine ⟨_, by omega, M2, Wt2, _, _, _, rfl, sj, hmj, hvj, hMn2, hMF2, hW2, hsub 0 h0, fun g k x hg hgW hk hx => ?_, by omega, rfl⟩
        by_cases hgf : g = f
        · subst hgf
          rw [List.length_map, Plen g4, List.take_length] at hch
          exact hch (k, x) hk hx
        · exact hcl2 g k x hg hgW hgf hk hx
end
end NW
set_option Elab.async false
set_option linter.all false
set_option maxRecDepth 100000
set_option maxHeartbeats 1000000
/-! W7: Tree, places, entries. -/
namespace NW
open PySem PySem.Spec PyProof.Rows L2
section
variable {P : Program} {w : World} {K : Frag} {mg : Str → Option Value} {base : Heap}
def PNodes (K : Frag) (H : Hp) (a : Addr) (t : Tr) : Prop := ∃ ps : List Addr, SqL K H a (ps.map V.ref) ∧ Paired (PNode K H) ps t
theorem sc_Tree : FnScope ["self", "nodes", "index", "why"] ["self", "nodes"] (defScope s_Tree_init) := ⟨rfl, rfl, rfl, by decide +kernel, rfl, by decide +kernel, by decide +kernel⟩
theorem mk_Tree (T : Txt K mg) : Mak P w K mg base 4 "Tree" (He.ga K "Tree") (spMkA (He.ga K "Tree") (fun a : Addr × Tr => [.ref a.1]) (fun a H => PNodes K H a.1 a.2 ∧ WF a.2 ∧ a.2.length ≤ 1000) (fun a H x => PTree K H x a.2)) [] := by
  refine mak T.f_Tree_init T.k_Tree T.g_Tree sc_Tree (fun _ _ _ _ _ _ us hl => match us, hl with | [_, _], _ => rfl) (fun vs H Q E h => ?_) (fun cdv A outer s H vs Q E hr h => ?_)
  · obtain ⟨a, _, _, _, rfl, _⟩ := h
    rfl
  · obtain ⟨⟨a, t⟩, H1, x, dx, rfl, rfl, nx, ndx, ne, ⟨⟨ps, ha, hp⟩, wf, hlen⟩, q⟩ := h
    have nd := sc_Tree.nd
    refine ⟨_, pss_cons (ps_fld (pv 0) (pe_tupleOf (by rfl) T.n_tuple (pv 1)) rfl)
      (pss_cons (ps_if (pt_cmpR (op_eqNilT hr.units0) (pe_fld (pv 0) rfl) (pe_tup pa_nil) (nomark _)) pss_never pss_nil)
      (pss_cons (ps_for PassesOwn.never rfl (pi_range1 (by rfl) T.n_range (pa_cons (pe_callB call_len_seq (by rfl) T.n_len PySem.boot_len (pa_cons (pe_fld (pv 0) rfl) pa_nil)) pa_nil)) (pg_name (i := 2) nd rfl (Or.inl rfl))
        (pss_cons (ps_set (i := 3) nd rfl (Or.inl rfl) (C8.pe_c (ok_wrong_with T) hr (by decide) rfl (pa_cons (pe_fld (pv 0) rfl) (pa_cons (pv 2) pa_nil))))
          (pss_one (ps_if (pt_cmpR op_notN (pv 3) pe_non (nomark _)) pss_never pss_nil))))
      (pss_one (ps_expr (C8.pe_mt0 (ok_check_folders T) hr (by decide) (pv 0)))))), ?_⟩
    simp only at ha hp wf hlen q
    have s0 := same_mk (C := He.ga K "Tree") (fs := []) nx ndx
    have hx0 : upd (upd H1 dx (.own x)) x (.ins (He.ga K "Tree") dx []) x = some (.ins (He.ga K "Tree") dx []) := upd_same
    generalize upd (upd H1 dx (.own x)) x (.ins (He.ga K "Tree") dx []) = H0 at s0 hx0
    refine ⟨_, rfl, .inl ⟨a, _, rfl, s0.seq ha, fun tp nt => ⟨_, rfl, x, _, dx, _, rfl, upd_at hx0 (ne_of_none hx0 nt), T.c_Tree, T.a_Tree_nodes, by decide, ?_⟩⟩⟩
    have s1 := sput (o := .ins (He.ga K "Tree") dx (putF "nodes" (.ref tp) [])) (snew (o := .tup (ps.map V.ref)) s0 nt) nx
    have hx1 : upd (upd H0 tp (.tup (ps.map V.ref))) x (.ins (He.ga K "Tree") dx (putF "nodes" (.ref tp) [])) x = some (.ins (He.ga K "Tree") dx [("nodes", .ref tp)]) := upd_same
    have ht1 : upd (upd H0 tp (.tup (ps.map V.ref))) x (.ins (He.ga K "Tree") dx (putF "nodes" (.ref tp) [])) tp = some (.tup (ps.map V.ref)) := upd_at upd_same (ne_of_none hx0 nt).symm
    generalize upd (upd H0 tp (.tup (ps.map V.ref))) x (.ins (He.ga K "Tree") dx (putF "nodes" (.ref tp) [])) = H2 at s1 hx1 ht1
    have hT : PTree K H2 x t := ⟨dx, tp, ps, hx1, ht1, Pmap hp fun _ _ h => PNode.gx (sgx s1) h⟩
    have hl : (ps.map V.ref).length = t.length := by rw [List.length_map, Plen hp]
    have hL0 : 0 < t.length := isF_lt wf.root
    have hne : (ps.map V.ref).isEmpty = false := by
      cases hq : ps.map V.ref with
      | nil => rw [hq] at hl; simp at hl; omega
      | cons _ _ => rfl
    refine ⟨_, rfl, x, _, dx, _, _, rfl, hx1, T.c_Tree, T.a_Tree_nodes, rfl, (by show 0 ≤ sizeLine; decide), fun p np => ⟨tp, p, _, rfl, rfl, SqT.of (upd_at ht1 (ne_of_none ht1 np)), SqT.of upd_same, _, rfl, ?_⟩⟩
    rw [hne]
    refine iteF ?_
    have sp := same_new (o := .tup []) np
    generalize upd H2 p (.tup []) = H3 at sp
    refine ⟨_, rfl, x, _, dx, _, _, rfl, sp _ _ hx1, T.c_Tree, T.a_Tree_nodes, rfl, tp, _, rfl, .inr (SqT.of (sp _ _ ht1)), _, rfl, by omega, by rw [hl]; omega, ?_⟩
    refine for_it walk_range (fun i σ Hi => Same H3 Hi ∧ ∃ x2 x3, σ = [some (.ref x), some (.ref a), x2, x3]) ⟨Same.refl _, _, _, rfl⟩ (fun _ _ _ _ _ => True.intro) (fun i v σ Hx Hi hi hI hy => ?_) (fun σ Hi hI => ?_)
    · obtain ⟨sm, x2, x3, rfl⟩ := hI
      obtain ⟨rfl, rfl⟩ := hy
      have hi' : i < t.length := by rw [hl] at hi; simpa using hi
      have s3 := sp.trans sm
      refine ⟨_, rfl, x, _, dx, _, _, rfl, s3 _ _ hx1, T.c_Tree, T.a_Tree_nodes, rfl, _, rfl, tp, i, ps, t, by simp, s3 _ _ ht1, Pmap hp fun _ _ h => PNode.gx (sgx (s1.trans s3)) h, wf, hi', fun H' s' => ?_⟩
      exact ⟨_, rfl, rfl, _, rfl, iteF ⟨sm.trans s', _, _, rfl⟩⟩
    · obtain ⟨sm, x2, x3, rfl⟩ := hI
      have s3 := sp.trans sm
      exact ⟨_, rfl, x, dx, _, rfl, s3 _ _ hx1, rfl, x, t, rfl, hT.gx (sgx s3), wf, hlen, fun H' s' => q _ ((s1.trans s3).trans s') (hT.gx (sgx (s3.trans s')))⟩
/-! check_node, is_place, check_place -/
def spCheckNode (K : Frag) : Sp := fun vs H Q _ => ∃ (a : Addr) (t : Tr) (i : Nat), vs = [.ref a, .int i] ∧ PTree K H a t ∧ i < t.length ∧ Q .non H
theorem sc_check_node : FnScope ["tree", "node"] ["tree", "node"] (defScope s_check_node) := ⟨rfl, rfl, rfl, by decide +kernel, rfl, by decide +kernel, by decide +kernel⟩
theorem ok_check_node (T : Txt K mg) : Cal P w K mg base 2 "check_node" (spCheckNode K) [] := by
  refine cal T.f_check_node T.g_check_node sc_check_node (fun _ _ _ _ _ _ us hl => match us, hl with | [_, _], _ => rfl) (fun vs H Q E h => ?_) (fun cdv A outer s H vs Q E hr h => ?_)
  · obtain ⟨a, t, i, rfl, _⟩ := h
    rfl
  · obtain ⟨a, t, i, rfl, hT, hi, q⟩ := h
    obtain ⟨dx, tp, ps, h1, h2, h3⟩ := id hT
    refine ⟨_, pss_one (ps_if (PW.pt (pw_or (pt_not (pt_val (C8.pe_c (ok_is_number T) hr (by decide) rfl (pa_cons (pv 1) pa_nil)))) (pw_or1 (pt_not (pt_chain op_le op_lt pe_int (pv 1) (pe_callB call_len_seq (by rfl) T.n_len PySem.boot_len (pa_cons (pe_fld (pv 0) rfl) pa_nil))))))) pss_never pss_nil), ?_⟩
    refine ⟨_, rfl, _, rfl, _, rfl, iteF ?_⟩
    refine ⟨_, rfl, _, _, rfl, rfl, true, congrArg V.bl (decide_eq_true (by omega)), iteT ⟨_, rfl, a, _, dx, _, _, rfl, h1, T.c_Tree, T.a_Tree_nodes, rfl, tp, _, rfl, .inr (SqT.of h2), _, _, rfl, rfl, true, congrArg V.bl (decide_eq_true ?_), iteF q⟩⟩
    rw [List.length_map, Plen h3]
    omega
def spIsPlace (K : Frag) : Sp := fun vs H Q _ => ∃ (a : Addr) (t : Tr) (i : Nat), vs = [.ref a, .int i] ∧ PTree K H a t ∧ i < t.length ∧ ∀ H', Same H H' → Q (.bl (isP t i)) H'
theorem sc_is_place : FnScope ["tree", "node"] ["tree", "node"] (defScope s_is_place) := ⟨rfl, rfl, rfl, by decide +kernel, rfl, by decide +kernel, by decide +kernel⟩
theorem ok_is_place (T : Txt K mg) : Cal P w K mg base 1 "is_place" (spIsPlace K) [] := by
  refine cal T.f_is_place T.g_is_place sc_is_place (fun _ _ _ _ _ _ us hl => match us, hl with | [_, _], _ => rfl) (fun vs H Q E h => ?_) (fun cdv A outer s H vs Q E hr h => ?_)
  · obtain ⟨a, t, i, rfl, _⟩ := h
    rfl
  · obtain ⟨a, t, i, rfl, hT, hi, q⟩ := h
    obtain ⟨dx, tp, ps, h1, h2, h3⟩ := id hT
    obtain ⟨p, hp1, hp2⟩ := node_at h3 (List.getElem?_eq_getElem hi)
    refine ⟨_, pss_one (ps_ret (pe_callB call_isiT (by rfl) T.n_isinstance (by decide +kernel) (pa_cons (pe_ix ix_tup (pe_fld (pv 0) rfl) (pv 1) (fun _ _ => rfl)) (pa_cons (pe_tup (pa_cons (pcls T.g_Folder) (pa_cons (pcls T.g_Gone) pa_nil))) pa_nil)))), ?_⟩
    refine ⟨_, rfl, a, _, dx, _, _, rfl, h1, T.c_Tree, T.a_Tree_nodes, rfl, _, rfl, tp, _, _, _, rfl, rfl, SqT.of h2, hp1, (by show 2 ≤ sizeLine; decide), fun tq np => ?_⟩
    have s1 := same_new (o := .tup [.ref (He.ga K "Folder"), .ref (He.ga K "Gone")]) np
    refine ⟨_, tq, _, _, _, _, rfl, upd_same, .cons (.own _) (.cons (.own _) .nil), (hp2.gx (sgx s1)).ty T, kit_FG T _, ?_⟩
    rw [← isP_at (List.getElem?_eq_getElem hi)]
    exact q _ s1
def spCheckPlace (K : Frag) : Sp := fun vs H Q _ => ∃ (a : Addr) (t : Tr) (i : Nat), vs = [.ref a, .int i] ∧ PTree K H a t ∧ isP t i = true ∧ ∀ H', Same H H' → Q .non H'
theorem isP_lt {t : Tr} {i : Nat} (h : isP t i = true) : i < t.length := by
  cases e : t[i]? with
  | none =>
    unfold isP isF isG at h
    rw [e] at h
    cases h
  | some nd => exact (List.getElem?_eq_some_iff.mp e).1
theorem sc_check_place : FnScope ["tree", "node"] ["tree", "node"] (defScope s_check_place) := ⟨rfl, rfl, rfl, by decide +kernel, rfl, by decide +kernel, by decide +kernel⟩
theorem ok_check_place (T : Txt K mg) : Cal P w K mg base 3 "check_place" (spCheckPlace K) [] := by
  refine cal T.f_check_place T.g_check_place sc_check_place (fun _ _ _ _ _ _ us hl => match us, hl with | [_, _], _ => rfl) (fun vs H Q E h => ?_) (fun cdv A outer s H vs Q E hr h => ?_)
  · obtain ⟨a, t, i, rfl, _⟩ := h
    rfl
  · obtain ⟨a, t, i, rfl, hT, hi, q⟩ := h
    refine ⟨_, pss_cons (ps_expr (C8.pe_c (ok_check_node T) hr (by decide) rfl (pa_cons (pv 0) (pa_cons (pv 1) pa_nil))))
      (pss_one (ps_if (pt_not (pt_val (C8.pe_c (ok_is_place T) hr (by decide) rfl (pa_cons (pv 0) (pa_cons (pv 1) pa_nil))))) pss_never pss_nil)), ?_⟩
    refine ⟨_, rfl, _, rfl, a, t, i, rfl, hT, isP_lt hi, ?_⟩
    refine ⟨_, rfl, _, rfl, a, t, i, rfl, hT, isP_lt hi, fun H' s' => ⟨_, rfl, ?_⟩⟩
    rw [hi]
    exact iteF (q _ s')
end
end NW
set_option Elab.async false
set_option linter.all false
set_option maxRecDepth 100000
set_option maxHeartbeats 1000000
/-! W8: node_at, entries_of, above. -/
namespace NW
open PySem PySem.Spec PyProof.Rows L2
section
variable {P : Program} {w : World} {K : Frag} {mg : Str → Option Value} {base : Heap}
def optV : Option Nat → V
  | some n => .int (n : Nat)
  | none => .non
theorem fm_look {k : Nat} : ∀ {es : List (Nat × Nat)}, Srt es → (es.filterMap fun e => if e.1 = k then some (V.int (e.2 : Nat)) else none) = (lookE k es).toList.map fun n => V.int (n : Nat)
  | [], _ => rfl
  | e :: r, hs => by
    obtain ⟨h1, h2⟩ := List.pairwise_cons.mp hs
    by_cases c : e.1 = k
    · have z : (r.filterMap fun e => if e.1 = k then some (V.int (e.2 : Nat)) else none) = [] := by
        rw [List.filterMap_eq_nil_iff]
        intro x hx
        have := h1 x hx
        have c2 : ¬ x.1 = k := by omega
        rw [if_neg c2]
      have l : lookE k (e :: r) = some e.2 := by
        unfold lookE
        rw [List.find?_cons, decide_eq_true c]
        rfl
      rw [List.filterMap_cons, if_pos c, z, l]
      rfl
    · have l : lookE k (e :: r) = lookE k r := by
        unfold lookE
        rw [List.find?_cons, decide_eq_false c]
      rw [List.filterMap_cons, if_neg c, l]
      exact fm_look h2
def spNodeAt (K : Frag) : Sp := fun vs H Q _ => ∃ (a : Addr) (t : Tr) (f k : Nat), vs = [.ref a, .int f, .str (nm k)] ∧ PTree K H a t ∧ WF t ∧ isP t f = true ∧ k < 4 ∧ ∀ H', Same H H' → Q (optV (lookE k (ents t f))) H'
theorem sc_node_at : FnScope ["tree", "folder", "name", "found", "other", "node"] ["tree", "folder", "name"] (defScope s_node_at) := ⟨rfl, rfl, rfl, by decide +kernel, rfl, by decide +kernel, by decide +kernel⟩
theorem ok_node_at (T : Txt K mg) : Cal P w K mg base 1 "node_at" (spNodeAt K) [] := by
  refine cal T.f_node_at T.g_node_at sc_node_at (fun _ _ _ _ _ _ us hl => match us, hl with | [_, _, _], _ => rfl) (fun vs H Q E h => ?_) (fun cdv A outer s H vs Q E hr h => ?_)
  · obtain ⟨a, t, f, k, rfl, _⟩ := h
    rfl
  · obtain ⟨a, t, f, k, rfl, hT, wf, hf, hk, q⟩ := h
    have nd := sc_node_at.nd
    obtain ⟨dx, tp, ps, h1, h2, h3⟩ := id hT
    have hfl := isP_lt hf
    have ht : t[f]? = some t[f] := List.getElem?_eq_getElem hfl
    obtain ⟨p, hp1, hp2⟩ := node_at h3 ht
    generalize t[f] = n at ht hp2
    refine ⟨_, pss_cons (ps_if (pt_val (pe_callB call_isi (by rfl) T.n_isinstance (by decide +kernel) (pa_cons (pe_ix ix_tup (pe_fld (pv 0) rfl) (pv 1) (fun _ _ => rfl)) (pa_cons (pcls T.g_Gone) pa_nil)))) (pss_one (ps_ret pe_non)) pss_nil)
      (pss_cons (ps_setLc (i := 3) (own := [("other", 4), ("node", 5)]) (g := gTup K 2 (gCons (gName 4) (gCons (gName 5) gNil))) (tt := tTest _) rfl nd rfl rfl (sw_true rfl rfl rfl (by decide +kernel)) (pi_tup (pe_fld (pe_ix ix_tup (pe_fld (pv 0) rfl) (pv 1) (fun _ _ => rfl)) rfl)) (blkOk_by (N := ["tree", "folder", "name", "found", "other", "node"]) (sc := defScope s_node_at) (by decide +kernel))
        (fun _ _ _ _ _ => pg_tup rfl (pgs_cons (pg_name (i := 4) nd rfl (Or.inl rfl)) (pgs_cons (pg_name (i := 5) nd rfl (Or.inl rfl)) pgs_nil)))
        (fun _ _ _ _ _ => pts_one (pt_cmpR op_eq (pv 4) (pv 2) (nomark _))) (fun _ _ _ _ _ => pv 5))
      (pss_one (ps_ret (pe_ifExp (pt_cmpR (op_neNil hr.units0) (pv 3) (pe_lst pa_nil) (nomark _)) (pe_ix ix_list (pv 3) pe_int (fun _ _ => rfl)) pe_non)))), ?_⟩
    refine ⟨_, rfl, a, _, dx, _, _, rfl, h1, T.c_Tree, T.a_Tree_nodes, rfl, _, rfl, tp, _, _, _, rfl, rfl, SqT.of h2, hp1, _, _, _, _, _, rfl, .own _, hp2.ty T, kit_Gone T _, _, rfl, ?_⟩
    cases n with
    | fil o => rw [isP_at ht] at hf; cases hf
    | gon o ab =>
      have e : ents t f = [] := ents_at ht
      refine iteT ?_
      have := q H (Same.refl _)
      rw [e] at this
      exact this
    | fol o es =>
      obtain ⟨dx2, e, qs, g1, g2, g3⟩ := hp2
      have hen : ents t f = es := ents_at ht
      have hs : Srt es := by rw [← hen]; exact wf.srt f
      have h4 : ∀ kn ∈ es, kn.1 < 4 := fun kn hk => (wf.ent f kn.1 kn.2 (by rw [hen]; exact hk)).1
      have l4 := srt_len hs h4
      refine iteF ?_
      refine ⟨_, rfl, a, _, dx, _, _, rfl, h1, T.c_Tree, T.a_Tree_nodes, rfl, _, rfl, tp, _, _, _, rfl, rfl, SqT.of h2, hp1, p, _, dx2, _, _, rfl, g1, T.c_Folder, T.a_Folder_entries, rfl, e, rfl, ⟨_, SqT.of g2⟩,
        fun D nD => lc_fm walk_tup (fun i => (es[i]?).bind fun e => if e.1 = k then some (V.int (e.2 : Nat)) else none) nD (fun H' s => seqT s (SqT.of g2)) (by rw [List.length_map, Plen g3]; exact Nat.le_trans l4 (by decide)) (fun i x Hx Hi Qy Qn hi s hy ky kn => ?_) ?_⟩
      · obtain ⟨rfl, hx⟩ := hy
        obtain ⟨u, kn2, hkn, rfl, hu2⟩ := qs_get (Pmap g3 fun _ _ h => EPair.gx (sgx s) h) hx
        have hk4 := h4 _ (List.mem_of_getElem? hkn)
        rw [hkn] at ky kn
        refine ⟨u, _, rfl, SqT.of hu2, rfl, _, _, rfl, _, _, rfl, rfl, rfl, _, rfl, _, rfl, rfl, _, rfl, ?_⟩
        dsimp only
        by_cases hkr : kn2.1 = k
        · rw [if_pos (decide_eq_true (by rw [hkr]))]
          exact ⟨_, rfl, ky _ (by simp [hkr])⟩
        · rw [if_neg (fun z => hkr (nm_inj hk4 hk (V.str.inj (of_decide_eq_true z))))]
          exact kn (by simp [hkr])
      have eo : outsTo (fun i => (es[i]?).bind fun e => if e.1 = k then some (V.int (e.2 : Nat)) else none) (qs.map V.ref).length = (lookE k es).toList.map fun n => V.int (n : Nat) := by
        rw [List.length_map, Plen g3, outsTo_map es (fun e => if e.1 = k then some (V.int (e.2 : Nat)) else none) _ (fun i e he => by rw [he]; rfl)]
        exact fm_look hs
      rw [eo]
      have s1 := same_new (o := .lst ((lookE k es).toList.map fun n => V.int (n : Nat))) nD
      have hD : upd H D (.lst ((lookE k es).toList.map fun n => V.int (n : Nat))) D = some (.lst ((lookE k es).toList.map fun n => V.int (n : Nat))) := upd_same
      generalize upd H D (.lst ((lookE k es).toList.map fun n => V.int (n : Nat))) = H1 at s1 hD
      refine ⟨_, rfl, (by show 0 ≤ sizeLine; decide), fun p np => ⟨D, p, _, rfl, rfl, SqL.of (upd_at hD (ne_of_none hD np)), SqL.of upd_same, _, rfl, ?_⟩⟩
      have s2 := snew (o := .lst []) s1 np
      rw [hen] at q
      cases hlk : lookE k es with
      | none =>
        rw [hlk] at q
        exact iteF (q _ s2)
      | some m =>
        rw [hlk] at q hD
        exact iteT ⟨_, rfl, D, _, _, _, rfl, rfl, SqL.of (upd_at hD (ne_of_none hD np)), rfl, q _ s2⟩
/-! entries_of -/
abbrev FPair (H : Hp) (u : Addr) (fk : Nat × Nat) : Prop := H u = some (.tup [.int fk.1, .str (nm fk.2)])
theorem FPair.gx {H H' : Hp} {u : Addr} {fk : Nat × Nat} (s : Gx H H') (h : FPair H u fk) : FPair H' u fk := s _ _ h rfl
def fE (n f : Nat) (es : List (Nat × Nat)) : List (Nat × Nat) := es.filterMap fun e => if e.2 = n then some (f, e.1) else none
theorem fE_len (n f : Nat) (es : List (Nat × Nat)) : (fE n f es).length ≤ es.length := List.length_filterMap_le _ _
def spEntriesOf (K : Frag) : Sp := fun vs H Q _ => ∃ (a : Addr) (t : Tr) (n : Nat), vs = [.ref a, .int n] ∧ PTree K H a t ∧ WF t ∧ n < t.length ∧ t.length ≤ 1000 ∧
  ∀ r H' us, Same H H' → H' r = some (.lst (us.map V.ref)) → Paired (FPair H') us (entsOf t n) → Q (.ref r) H'
theorem sc_entries_of : FnScope ["tree", "node", "found", "folder", "name", "other"] ["tree", "node"] (defScope s_entries_of) := ⟨rfl, rfl, rfl, by decide +kernel, rfl, by decide +kernel, by decide +kernel⟩
theorem ok_entries_of (T : Txt K mg) : Cal P w K mg base 3 "entries_of" (spEntriesOf K) [] := by
  refine cal T.f_entries_of T.g_entries_of sc_entries_of (fun _ _ _ _ _ _ us hl => match us, hl with | [_, _], _ => rfl) (fun vs H Q E h => ?_) (fun cdv A outer s H vs Q E hr h => ?_)
  · obtain ⟨a, t, n, rfl, _⟩ := h
    rfl
  · obtain ⟨a, t, n, rfl, hT, wf, hn, hlen, q⟩ := h
    have nd := sc_entries_of.nd
    obtain ⟨dx, tp, ps, h1, h2, h3⟩ := id hT
    refine ⟨_, pss_cons (ps_expr (C8.pe_c (ok_check_node T) hr (by decide) rfl (pa_cons (pv 0) (pa_cons (pv 1) pa_nil))))
      (pss_cons (ps_set (i := 2) nd rfl (Or.inl rfl) (pe_lst pa_nil))
      (pss_cons (ps_for PassesOwn.never rfl (pi_list (C8.pe_mt0 (ok_fns T) hr (by decide) (pv 0))) (pg_name (i := 3) nd rfl (Or.inr rfl))
        (pss_one (ps_expr (pe_bm PySem.F.plainAttrs_list PySem.F.slot_list_extend PySem.F.type_list_extend mt_extend (pv 2)
          (pa_cons (pe_lc (own := [("name", 4), ("other", 5)]) (g := gTup K 2 (gCons (gName 4) (gCons (gName 5) gNil))) (tt := tTest _) rfl nd (pi_tup (pe_fld (pe_ix ix_tup (pe_fld (pv 0) rfl) (pv 3) (fun _ _ => rfl)) rfl)) (blkOk_by (N := ["tree", "node", "found", "folder", "name", "other"]) (sc := defScope s_entries_of) (by decide +kernel))
            (fun _ _ _ _ _ => pg_tup rfl (pgs_cons (pg_name (i := 4) nd rfl (Or.inl rfl)) (pgs_cons (pg_name (i := 5) nd rfl (Or.inl rfl)) pgs_nil)))
            (fun _ _ _ _ _ => pts_one (pt_cmpR op_eq (pv 5) (pv 1) (nomark _))) (fun _ _ _ _ _ => pe_tup (pa_cons (pv 3) (pa_cons (pv 4) pa_nil)))) pa_nil)))))
      (pss_one (ps_ret (pv 2))))), ?_⟩
    have noF : ([("nodes", V.ref tp)] : List (Str × V)).lookup ("folder_numbers" : Str) = none := rfl
    refine ⟨_, rfl, _, rfl, a, t, n, rfl, hT, hn, ?_⟩
    refine ⟨(by show 0 ≤ sizeLine; decide), fun D nD => ?_⟩
    have s1 := same_new (o := .lst []) nD
    have hD : upd H D (.lst []) D = some (.lst []) := upd_same
    generalize upd H D (.lst []) = H1 at s1 hD
    refine ⟨_, rfl, a, dx, _, rfl, s1 _ _ h1, noF, a, t, rfl, hT.gx (sgx s1), hlen, fun r Hr sr nr hr2 => ⟨r, rfl, ⟨_, SqL.of hr2⟩, ?_⟩⟩
    have nDr : r ≠ D := (ne_of_none hD nr).symm
    have h4 : ∀ f, ∀ kn ∈ ents t f, kn.1 < 4 := fun f kn hk => (wf.ent f kn.1 kn.2 hk).1
    have bd : ∀ fs : List Nat, (fs.flatMap fun f => fE n f (ents t f)).length ≤ 4 * fs.length := by
      intro fs
      induction fs with
      | nil => simp
      | cons f fs ih =>
        rw [List.flatMap_cons, List.length_append, List.length_cons]
        have l1 := fE_len n f (ents t f)
        have l2 := srt_len (wf.srt f) (h4 f)
        omega
    have fl : (fns t).length ≤ t.length := nodup_len (fns_nodup t) fun x hx => isF_lt (mem_fns.mp hx)
    refine for_it walk_list (fun i σ Hi => Sb D Hr Hi ∧ (∃ us, Hi D = some (.lst (us.map V.ref)) ∧ Paired (FPair Hi) us (((fns t).take i).flatMap fun f => fE n f (ents t f))) ∧ ∃ x3 x4 x5, σ = [some (.ref a), some (.int n), some (.ref D), x3, x4, x5]) ⟨Sb.refl _ _, ⟨[], sr _ _ hD, .nil⟩, _, _, _, rfl⟩ (fun i σ Hi _ h => SqL.of (h.1.at hr2 nDr)) (fun i x σ Hx Hi hi hI hy => ?_) (fun σ Hi hI => ?_)
    · obtain ⟨sb, ⟨us, hus, hP⟩, x3, x4, x5, rfl⟩ := hI
      obtain ⟨rfl, hx⟩ := hy
      obtain ⟨f, hf, rfl⟩ := natV_get hx
      have n0 : H D = none := nD
      have sHi : Same H Hi := sbSame (s1.trans sr) n0 sb
      have hF : isF t f = true := mem_fns.mp (List.mem_of_getElem? hf)
      obtain ⟨p, dx2, o, e, qs, g1, g2, g3, g4⟩ := fol_look (Pmap h3 fun _ _ h => PNode.gx (sgx sHi) h) hF
      have hs := wf.srt f
      have l4 := srt_len hs (h4 f)
      refine ⟨_, rfl, .inl ⟨rfl, _, SqL.of hus⟩, ?_⟩
      refine ⟨_, rfl, a, _, dx, _, _, rfl, sHi _ _ h1, T.c_Tree, T.a_Tree_nodes, rfl, _, rfl, tp, _, _, _, rfl, rfl, SqT.of (sHi _ _ h2), g1, p, _, dx2, _, _, rfl, g2, T.c_Folder, T.a_Folder_entries, rfl, e, rfl, ⟨_, SqT.of g3⟩,
        fun D2 n2 => lc_it walk_tup (fun j Hj => Same Hi Hj ∧ ∃ vs : List Addr, Hj D2 = some (.lst (vs.map V.ref)) ∧ vs.length ≤ j ∧ Paired (FPair Hj) vs (fE n f ((ents t f).take j))) ⟨same_new n2, [], upd_same, Nat.le_refl _, .nil⟩ (fun j Hj _ h => seqT h.1 (SqT.of g3)) (fun j x Hx Hj hj hJ hy => ?_) (fun Hj hJ => ?_)⟩
      · obtain ⟨sj, vs, hvs, hvl, hvP⟩ := hJ
        obtain ⟨rfl, hx⟩ := hy
        obtain ⟨u, kn2, hkn, rfl, hu2⟩ := qs_get (Pmap g4 fun _ _ h => EPair.gx (sgx sj) h) hx
        rw [List.length_map, Plen g4] at hj
        refine ⟨u, _, rfl, SqT.of hu2, rfl, _, _, rfl, _, _, rfl, rfl, rfl, _, rfl, _, rfl, rfl, _, rfl, ?_⟩
        dsimp only
        have htk : fE n f ((ents t f).take (j + 1)) = fE n f ((ents t f).take j) ++ (if kn2.2 = n then [(f, kn2.1)] else []) := by
          rw [List.take_succ, hkn]
          unfold fE
          rw [List.filterMap_append]
          congr 1
          by_cases c : kn2.2 = n <;> simp [c]
        by_cases c : kn2.2 = n
        · rw [if_pos (decide_eq_true (by rw [c]))]
          refine ⟨_, rfl, _, rfl, (by show 2 ≤ sizeLine; decide), fun p7 n7 => ⟨_, upd_at hvs (ne_of_none hvs n7), ?_, sput (snew sj n7) n2, vs ++ [p7], ?_, ?_, ?_⟩⟩
          · rw [List.length_map]
            exact Nat.lt_of_le_of_lt (by omega : vs.length ≤ 4) (by decide)
          · rw [upd_same, List.map_append]
            rfl
          · rw [List.length_append, List.length_singleton]
            omega
          · rw [htk, if_pos c]
            have nD7 : p7 ≠ D2 := (ne_of_none hvs n7).symm
            exact Paired.snoc (Pmap hvP fun q e hE => upd_at (upd_at hE (ne_of_none hE n7)) (ne_of hE hvs (by intro z; cases z))) (upd_at upd_same nD7)
        · rw [if_neg (fun z => c (by have := V.int.inj (of_decide_eq_true z); omega))]
          exact ⟨sj, vs, hvs, by omega, by rw [htk, if_neg c, List.append_nil]; exact hvP⟩
      · obtain ⟨sj, vs, hvs, hvl, hvP⟩ := hJ
        rw [List.length_map, Plen g4] at hvl
        rw [List.length_map, Plen g4, List.take_length] at hvP
        have hl1 := Plen hP
        have hl2 := bd ((fns t).take i)
        have hl3 : ((fns t).take i).length ≤ (fns t).length := by rw [List.length_take]; omega
        refine ⟨D, D2, _, _, rfl, rfl, sj _ _ hus, hvs, ?_, ?_⟩
        · rw [List.length_map, List.length_map]
          exact Nat.le_trans (by omega : _ ≤ 5000) (by decide)
        refine ⟨(sb.same sj).put, ⟨us ++ vs, by rw [upd_same, List.map_append], ?_⟩, _, _, _, rfl⟩
        rw [List.take_succ, hf, List.flatMap_append]
        have ef : List.flatMap (fun f => fE n f (ents t f)) (some f).toList = fE n f (ents t f) := by simp
        rw [ef]
        have app : ∀ {l1 l2 : List Addr} {m1 m2 : List (Nat × Nat)} {F : Addr → Nat × Nat → Prop}, Paired F l1 m1 → Paired F l2 m2 → Paired F (l1 ++ l2) (m1 ++ m2) := by
          intro l1 l2 m1 m2 F p1 p2
          induction p1 with
          | nil => exact p2
          | cons r _ ih => exact .cons r ih
        have hus' := sj _ _ hus
        exact app (Pmap hP fun q e hE => upd_at (sj _ _ hE) (ne_of (sj _ _ hE) hus' (by intro z; cases z))) (Pmap hvP fun q e hE => upd_at hE (ne_of hE hus' (by intro z; cases z)))
    · obtain ⟨sb, ⟨us, hus, hP⟩, x3, x4, x5, rfl⟩ := hI
      rw [natV_len, List.take_length] at hP
      exact ⟨_, rfl, q D Hi us (sbSame (s1.trans sr) nD sb) hus hP⟩
theorem atI_0 {α : Type} (x : α) (xs : List α) : atI (x :: xs) 0 = some x := atI_nat (j := 0) rfl
theorem atI_1 {α : Type} (x y : α) (xs : List α) : atI (x :: y :: xs) 1 = some y := atI_nat (j := 1) rfl
/-! above -/
def IsAb (t : Tr) (n m : Nat) : Prop := (n = 0 ∧ m = 0) ∨ (n ≠ 0 ∧ ∃ k, (k, n) ∈ ents t m)
def spAbove (K : Frag) : Sp := fun vs H Q _ => ∃ (a : Addr) (t : Tr) (n : Nat), vs = [.ref a, .int n] ∧ PTree K H a t ∧ WF t ∧ isF t n = true ∧ t.length ≤ 1000 ∧ ∀ m H', IsAb t n m → Same H H' → Q (.int (m : Nat)) H'
theorem sc_above : FnScope ["tree", "node"] ["tree", "node"] (defScope s_above) := ⟨rfl, rfl, rfl, by decide +kernel, rfl, by decide +kernel, by decide +kernel⟩
theorem ok_above (T : Txt K mg) : Cal P w K mg base 4 "above" (spAbove K) [] := by
  refine cal T.f_above T.g_above sc_above (fun _ _ _ _ _ _ us hl => match us, hl with | [_, _], _ => rfl) (fun vs H Q E h => ?_) (fun cdv A outer s H vs Q E hr h => ?_)
  · obtain ⟨a, t, n, rfl, _⟩ := h
    rfl
  · obtain ⟨a, t, n, rfl, hT, wf, hF, hlen, q⟩ := h
    obtain ⟨dx, tp, ps, h1, h2, h3⟩ := id hT
    have hn := isF_lt hF
    have ht : t[n]? = some t[n] := List.getElem?_eq_getElem hn
    obtain ⟨p, hp1, hp2⟩ := node_at h3 ht
    refine ⟨_, pss_cons (ps_expr (C8.pe_c (ok_check_node T) hr (by decide) rfl (pa_cons (pv 0) (pa_cons (pv 1) pa_nil))))
      (pss_cons (ps_if (pt_cmpR op_eq (pv 1) pe_int (nomark _)) (pss_one (ps_ret pe_int)) pss_nil)
      (pss_cons (ps_if (pt_val (pe_callB call_isi (by rfl) T.n_isinstance (by decide +kernel) (pa_cons (pe_ix ix_tup (pe_fld (pv 0) rfl) (pv 1) (fun _ _ => rfl)) (pa_cons (pcls T.g_Gone) pa_nil)))) pss_never pss_nil)
      (pss_one (ps_ret (pe_ifExp (pt_val (pe_callB call_isi (by rfl) T.n_isinstance (by decide +kernel) (pa_cons (pe_ix ix_tup (pe_fld (pv 0) rfl) (pv 1) (fun _ _ => rfl)) (pa_cons (pcls T.g_Folder) pa_nil))))
        (pe_ix ix_tup (pe_ix ix_list (C8.pe_c (ok_entries_of T) hr (by decide) rfl (pa_cons (pv 0) (pa_cons (pv 1) pa_nil))) pe_int (fun _ _ => rfl)) pe_int (fun _ _ => rfl)) pe_non))))), ?_⟩
    refine ⟨_, rfl, _, rfl, a, t, n, rfl, hT, hn, _, rfl, rfl, _, rfl, ?_⟩
    refine ite2 (fun c => ?_) (fun c => ?_)
    · have e0 : (n : Int) = 0 := V.int.inj (of_decide_eq_true c)
      exact q 0 H (.inl ⟨by omega, rfl⟩) (Same.refl _)
    · have n0 : n ≠ 0 := fun z => c (by subst z; exact decide_eq_true rfl)
      have hGf : (t[n]).isG = false := by
        have hF2 : (t[n]).isF = true := (isF_at ht).symm.trans hF
        cases e : t[n] with
        | fol o es => rfl
        | fil o => rw [e] at hF2; cases hF2
        | gon o a => rw [e] at hF2; cases hF2
      refine ⟨_, rfl, a, _, dx, _, _, rfl, h1, T.c_Tree, T.a_Tree_nodes, rfl, _, rfl, tp, _, _, _, rfl, rfl, SqT.of h2, hp1, _, _, _, _, _, rfl, .own _, hp2.ty T, kit_Gone T _, _, rfl, ?_⟩
      rw [hGf]
      refine iteF ?_
      refine ⟨_, rfl, a, _, dx, _, _, rfl, h1, T.c_Tree, T.a_Tree_nodes, rfl, _, rfl, tp, _, _, _, rfl, rfl, SqT.of h2, hp1, _, _, _, _, _, rfl, .own _, hp2.ty T, kit_Folder T _, _, rfl, ?_⟩
      rw [← isF_at ht, hF]
      refine iteT ⟨_, rfl, _, rfl, a, t, n, rfl, hT, wf, hn, hlen, fun r H' us s' hr2 hP => ?_⟩
      obtain ⟨d, hd⟩ := wf.dep n hF
      cases hd with
      | root => exact absurd rfl n0
      | @step f k x d hf hm hx =>
        obtain ⟨rest, hes⟩ := entsOf_one wf hF hm
        rw [hes] at hP
        cases hP with
        | cons hu hP =>
          exact ⟨r, _, _, _, rfl, rfl, SqL.of hr2, atI_0 _ _, _, _, _, _, rfl, rfl, SqT.of hu, rfl, q f H' (.inr ⟨n0, k, hm⟩) s'⟩
end
end NW
set_option Elab.async false
set_option linter.all false
set_option maxRecDepth 100000
set_option maxHeartbeats 1000000
/-! W9: what is wrong with a deed. -/
namespace NW
open PySem PySem.Spec PyProof.Rows L2
def Dd.cls : Dd → Str
  | .mkF _ _ _ => "MakeFolder"
  | .mkL _ _ _ => "MakeFile"
  | .put _ _ _ => "Put"
  | .take _ _ => "Take"
  | .move _ _ _ _ => "Move"
def Dd.fs : Dd → List (Str × V)
  | .mkF f k o => fMakeFolder (.int f, .str (nm k), .int o)
  | .mkL f k o => fMakeFile (.int f, .str (nm k), .int o)
  | .put f k n => fPut (.int f, .str (nm k), .int n)
  | .take f k => fTake (.int f, .str (nm k))
  | .move f k g j => fMove (.int f, .str (nm k), .int g, .str (nm j))
def PDeed (K : Frag) (H : Hp) (p : Addr) (d : Dd) : Prop := ∃ dx, H p = some (.ins (He.ga K d.cls) dx d.fs)
def Dd.f : Dd → Nat
  | .mkF f _ _ => f
  | .mkL f _ _ => f
  | .put f _ _ => f
  | .take f _ => f
  | .move f _ _ _ => f
def Dd.k : Dd → Nat
  | .mkF _ k _ => k
  | .mkL _ k _ => k
  | .put _ k _ => k
  | .take _ k => k
  | .move _ k _ _ => k
def Dd.isMove : Dd → Bool
  | .move _ _ _ _ => true
  | _ => false
section
variable {P : Program} {w : World} {K : Frag} {mg : Str → Option Value} {base : Heap}
theorem PDeed.gx {H H' : Hp} {p : Addr} {d : Dd} (s : Gx H H') (h : PDeed K H p d) : PDeed K H' p d := let ⟨dx, e⟩ := h; ⟨dx, s _ _ e rfl⟩
theorem PDeed.ty (T : Txt K mg) {H : Hp} {p : Addr} {d : Dd} (h : PDeed K H p d) : TyX K H (.ref p) (.ref (He.ga K d.cls)) := by
  obtain ⟨dx, e⟩ := h
  cases d with
  | mkF f k o => exact ty_ins T T.i_MakeFolder T.c_MakeFolder e
  | mkL f k o => exact ty_ins T T.i_MakeFile T.c_MakeFile e
  | put f k n => exact ty_ins T T.i_Put T.c_Put e
  | take f k => exact ty_ins T T.i_Take T.c_Take e
  | move f k g j => exact ty_ins T T.i_Move T.c_Move e
theorem kd_Move (T : Txt K mg) (d : Dd) : PySem.W.kitOne K (.ref (He.ga K d.cls)) (.ref (He.ga K "Move")) = some d.isMove := by
  cases d with
  | mkF f k o => exact T.t_MakeFolder_Move
  | mkL f k o => exact T.t_MakeFile_Move
  | put f k n => exact T.t_Put_Move
  | take f k => exact T.t_Take_Move
  | move f k g j => exact T.t_Move_Move
def Dd.isTake : Dd → Bool
  | .take _ _ => true
  | _ => false
theorem kd_Take (T : Txt K mg) (d : Dd) : PySem.W.kitOne K (.ref (He.ga K d.cls)) (.ref (He.ga K "Take")) = some d.isTake := by
  cases d with
  | mkF f k o => exact T.t_MakeFolder_Take
  | mkL f k o => exact T.t_MakeFile_Take
  | put f k n => exact T.t_Put_Take
  | take f k => exact T.t_Take_Take
  | move f k g j => exact T.t_Move_Take
def Dd.isPut : Dd → Bool
  | .put _ _ _ => true
  | _ => false
theorem kd_Put (T : Txt K mg) (d : Dd) : PySem.W.kitOne K (.ref (He.ga K d.cls)) (.ref (He.ga K "Put")) = some d.isPut := by
  cases d with
  | mkF f k o => exact T.t_MakeFolder_Put
  | mkL f k o => exact T.t_MakeFile_Put
  | put f k n => exact T.t_Put_Put
  | take f k => exact T.t_Take_Put
  | move f k g j => exact T.t_Move_Put
def Dd.isMkF : Dd → Bool
  | .mkF _ _ _ => true
  | _ => false
theorem kd_MkF (T : Txt K mg) (d : Dd) : PySem.W.kitOne K (.ref (He.ga K d.cls)) (.ref (He.ga K "MakeFolder")) = some d.isMkF := by
  cases d with
  | mkF f k o => exact T.t_MakeFolder_MakeFolder
  | mkL f k o => exact T.t_MakeFile_MakeFolder
  | put f k n => exact T.t_Put_MakeFolder
  | take f k => exact T.t_Take_MakeFolder
  | move f k g j => exact T.t_Move_MakeFolder
def Dd.isMkL : Dd → Bool
  | .mkL _ _ _ => true
  | _ => false
theorem kd_MkL (T : Txt K mg) (d : Dd) : PySem.W.kitOne K (.ref (He.ga K d.cls)) (.ref (He.ga K "MakeFile")) = some d.isMkL := by
  cases d with
  | mkF f k o => exact T.t_MakeFolder_MakeFile
  | mkL f k o => exact T.t_MakeFile_MakeFile
  | put f k n => exact T.t_Put_MakeFile
  | take f k => exact T.t_Take_MakeFile
  | move f k g j => exact T.t_Move_MakeFile
theorem kd_Link (T : Txt K mg) (d : Dd) : PySem.W.kitOne K (.ref (He.ga K d.cls)) (.ref (He.ga K "MakeLink")) = some false := by
  cases d with
  | mkF f k o => exact T.t_MakeFolder_MakeLink
  | mkL f k o => exact T.t_MakeFile_MakeLink
  | put f k n => exact T.t_Put_MakeLink
  | take f k => exact T.t_Take_MakeLink
  | move f k g j => exact T.t_Move_MakeLink
theorem kitAny2 {t c1 c2 : Value} {b1 b2 : Bool} (h1 : PySem.W.kitOne K t c1 = some b1) (h2 : PySem.W.kitOne K t c2 = some b2) : PySem.W.kitAny K t [c1, c2] = some (b1 || b2) := by
  unfold PySem.W.kitAny
  rw [h1]
  cases b1 with
  | true => rfl
  | false =>
    show PySem.W.kitAny K _ _ = _
    unfold PySem.W.kitAny
    rw [h2]
    cases b2 <;> rfl
theorem kitAny3 {t c1 c2 c3 : Value} {b1 b2 b3 : Bool} (h1 : PySem.W.kitOne K t c1 = some b1) (h2 : PySem.W.kitOne K t c2 = some b2) (h3 : PySem.W.kitOne K t c3 = some b3) : PySem.W.kitAny K t [c1, c2, c3] = some (b1 || (b2 || b3)) := by
  unfold PySem.W.kitAny
  rw [h1]
  cases b1 with
  | true => rfl
  | false =>
    show PySem.W.kitAny K _ _ = _
    rw [kitAny2 h2 h3, Bool.false_or]
/-- what a deed's object holds -/
theorem dFolder (T : Txt K mg) {H : Hp} {p : Addr} {d : Dd} (h : PDeed K H p d) : ∃ C dx fs, H p = some (.ins C dx fs) ∧ Cls K C ∧ NoAttr K C "folder" ∧ fs.lookup ("folder" : Str) = some (.int (d.f : Nat)) := by
  obtain ⟨dx, e⟩ := h
  cases d with
  | mkF f k o => exact ⟨_, dx, _, e, T.c_MakeFolder, T.a_MakeFolder_folder, rfl⟩
  | mkL f k o => exact ⟨_, dx, _, e, T.c_MakeFile, T.a_MakeFile_folder, rfl⟩
  | put f k n => exact ⟨_, dx, _, e, T.c_Put, T.a_Put_folder, rfl⟩
  | take f k => exact ⟨_, dx, _, e, T.c_Take, T.a_Take_folder, rfl⟩
  | move f k g j => exact ⟨_, dx, _, e, T.c_Move, T.a_Move_folder, rfl⟩
theorem dName (T : Txt K mg) {H : Hp} {p : Addr} {d : Dd} (h : PDeed K H p d) : ∃ C dx fs, H p = some (.ins C dx fs) ∧ Cls K C ∧ NoAttr K C "name" ∧ fs.lookup ("name" : Str) = some (.str (nm d.k)) := by
  obtain ⟨dx, e⟩ := h
  cases d with
  | mkF f k o => exact ⟨_, dx, _, e, T.c_MakeFolder, T.a_MakeFolder_name, rfl⟩
  | mkL f k o => exact ⟨_, dx, _, e, T.c_MakeFile, T.a_MakeFile_name, rfl⟩
  | put f k n => exact ⟨_, dx, _, e, T.c_Put, T.a_Put_name, rfl⟩
  | take f k => exact ⟨_, dx, _, e, T.c_Take, T.a_Take_name, rfl⟩
  | move f k g j => exact ⟨_, dx, _, e, T.c_Move, T.a_Move_name, rfl⟩
theorem Step.f {t t' : Tr} {d : Dd} (h : Step t d t') : isF t d.f = true ∧ d.k < 4 := by
  cases h <;> exact ⟨by assumption, by assumption⟩
/-! is_folder, is_leaf -/
def spIsFolder (K : Frag) : Sp := fun vs H Q _ => ∃ (a : Addr) (t : Tr) (i : Nat), vs = [.ref a, .int i] ∧ PTree K H a t ∧ isF t i = true ∧ Q (.bl true) H
theorem sc_is_folder : FnScope ["tree", "thing"] ["tree", "thing"] (defScope s_is_folder) := ⟨rfl, rfl, rfl, by decide +kernel, rfl, by decide +kernel, by decide +kernel⟩
theorem ok_is_folder (T : Txt K mg) : Cal P w K mg base 2 "is_folder" (spIsFolder K) [] := by
  refine cal T.f_is_folder T.g_is_folder sc_is_folder (fun _ _ _ _ _ _ us hl => match us, hl with | [_, _], _ => rfl) (fun vs H Q E h => ?_) (fun cdv A outer s H vs Q E hr h => ?_)
  · obtain ⟨a, t, i, rfl, _⟩ := h
    rfl
  · obtain ⟨a, t, i, rfl, hT, hF, q⟩ := h
    obtain ⟨dx, tp, ps, h1, h2, h3⟩ := id hT
    have hi := isF_lt hF
    obtain ⟨p, hp1, hp2⟩ := node_at h3 (List.getElem?_eq_getElem hi)
    refine ⟨_, pss_one (ps_ret (pe_and (C8.pe_c (ok_is_number T) hr (by decide) rfl (pa_cons (pv 1) pa_nil)) (pe_and (pe_chain op_le op_lt pe_int (pv 1) (pe_callB call_len_seq (by rfl) T.n_len PySem.boot_len (pa_cons (pe_fld (pv 0) rfl) pa_nil)))
      (pe_one (pe_callB call_isi (by rfl) T.n_isinstance (by decide +kernel) (pa_cons (pe_ix ix_tup (pe_fld (pv 0) rfl) (pv 1) (fun _ _ => rfl)) (pa_cons (pcls T.g_Folder) pa_nil))))))), ?_⟩
    refine ⟨_, rfl, _, rfl, _, rfl, iteT ?_⟩
    refine ⟨_, rfl, _, _, rfl, rfl, true, congrArg V.bl (decide_eq_true (by omega)), iteT ⟨_, rfl, a, _, dx, _, _, rfl, h1, T.c_Tree, T.a_Tree_nodes, rfl, tp, _, rfl, .inr (SqT.of h2), _, _, rfl, rfl, true, congrArg V.bl (decide_eq_true ?_), iteT ?_⟩⟩
    · rw [List.length_map, Plen h3]
      omega
    refine ⟨_, rfl, a, _, dx, _, _, rfl, h1, T.c_Tree, T.a_Tree_nodes, rfl, _, rfl, tp, _, _, _, rfl, rfl, SqT.of h2, hp1, _, _, _, _, _, rfl, .own _, hp2.ty T, kit_Folder T _, ?_⟩
    rw [← isF_at (List.getElem?_eq_getElem hi), hF]
    exact q
def spIsLeaf (K : Frag) : Sp := fun vs H Q _ => ∃ (a : Addr) (t : Tr) (i : Nat) (o : Int), vs = [.ref a, .int i] ∧ PTree K H a t ∧ t[i]? = some (.fil o) ∧ ∀ H', Same H H' → Q (.bl true) H'
theorem sc_is_leaf : FnScope ["tree", "thing"] ["tree", "thing"] (defScope s_is_leaf) := ⟨rfl, rfl, rfl, by decide +kernel, rfl, by decide +kernel, by decide +kernel⟩
theorem ok_is_leaf (T : Txt K mg) : Cal P w K mg base 2 "is_leaf" (spIsLeaf K) [] := by
  refine cal T.f_is_leaf T.g_is_leaf sc_is_leaf (fun _ _ _ _ _ _ us hl => match us, hl with | [_, _], _ => rfl) (fun vs H Q E h => ?_) (fun cdv A outer s H vs Q E hr h => ?_)
  · obtain ⟨a, t, i, o, rfl, _⟩ := h
    rfl
  · obtain ⟨a, t, i, o, rfl, hT, ht, q⟩ := h
    obtain ⟨dx, tp, ps, h1, h2, h3⟩ := id hT
    have hi := (List.getElem?_eq_some_iff.mp ht).1
    obtain ⟨p, hp1, hp2⟩ := node_at h3 ht
    refine ⟨_, pss_one (ps_ret (pe_and (C8.pe_c (ok_is_number T) hr (by decide) rfl (pa_cons (pv 1) pa_nil)) (pe_and (pe_chain op_le op_lt pe_int (pv 1) (pe_callB call_len_seq (by rfl) T.n_len PySem.boot_len (pa_cons (pe_fld (pv 0) rfl) pa_nil)))
      (pe_one (pe_callB call_isiT (by rfl) T.n_isinstance (by decide +kernel) (pa_cons (pe_ix ix_tup (pe_fld (pv 0) rfl) (pv 1) (fun _ _ => rfl)) (pa_cons (pe_tup (pa_cons (pcls T.g_File) (pa_cons (pcls T.g_Link) pa_nil))) pa_nil))))))), ?_⟩
    refine ⟨_, rfl, _, rfl, _, rfl, iteT ?_⟩
    refine ⟨_, rfl, _, _, rfl, rfl, true, congrArg V.bl (decide_eq_true (by omega)), iteT ⟨_, rfl, a, _, dx, _, _, rfl, h1, T.c_Tree, T.a_Tree_nodes, rfl, tp, _, rfl, .inr (SqT.of h2), _, _, rfl, rfl, true, congrArg V.bl (decide_eq_true ?_), iteT ?_⟩⟩
    · rw [List.length_map, Plen h3]
      omega
    refine ⟨_, rfl, a, _, dx, _, _, rfl, h1, T.c_Tree, T.a_Tree_nodes, rfl, _, rfl, tp, _, _, _, rfl, rfl, SqT.of h2, hp1, (by show 2 ≤ sizeLine; decide), fun tq np => ?_⟩
    have s1 := same_new (o := .tup [.ref (He.ga K "File"), .ref (He.ga K "Link")]) np
    exact ⟨_, tq, _, _, _, _, rfl, upd_same, .cons (.own _) (.cons (.own _) .nil), (hp2.gx (sgx s1)).ty T, kit_LL T _, q _ s1⟩
/-! is_below -/
def spIsBelow (K : Frag) : Sp := fun vs H Q _ => ∃ (a : Addr) (t : Tr) (x top : Nat), vs = [.ref a, .int x, .int top] ∧ PTree K H a t ∧ WF t ∧ t.length ≤ 1000 ∧ isF t x = true ∧ ¬ Bel t top x ∧ ∀ H', Same H H' → Q (.bl false) H'
theorem sc_is_below : FnScope ["tree", "folder", "top"] ["tree", "folder", "top"] (defScope s_is_below) := ⟨rfl, rfl, rfl, by decide +kernel, rfl, by decide +kernel, by decide +kernel⟩
theorem ok_is_below (T : Txt K mg) : Cal P w K mg base 5 "is_below" (spIsBelow K) [] := by
  refine cal T.f_is_below T.g_is_below sc_is_below (fun _ _ _ _ _ _ us hl => match us, hl with | [_, _, _], _ => rfl) (fun vs H Q E h => ?_) (fun cdv A outer s H vs Q E hr h => ?_)
  · obtain ⟨a, t, x, top, rfl, _⟩ := h
    rfl
  · obtain ⟨a, t, x, top, rfl, hT, wf, hlen, hF, hb, q⟩ := h
    have nd := sc_is_below.nd
    obtain ⟨d, hd⟩ := wf.dep x hF
    refine ⟨_, pss_cons (ps_while PassesOwn.never (PW.pt (pw_and (pt_cmpR op_ne (pv 1) (pv 2) (nomark _)) (pw_and1 (pt_cmpR op_ne (pv 1) pe_int (nomark _)))))
        (pss_one (ps_set (i := 1) nd rfl (Or.inl rfl) (C8.pe_c (ok_above T) hr (by decide) rfl (pa_cons (pv 0) (pa_cons (pv 1) pa_nil))))))
      (pss_one (ps_ret (pe_cmpR op_eq (pv 1) (pv 2) (nomark _)))), ?_⟩
    refine ⟨fun μ σ Hc => ∃ y, σ = [some (.ref a), some (.int (y : Nat)), some (.int top)] ∧ Same H Hc ∧ isF t y = true ∧ ¬ Bel t top y ∧ Dep t y μ, ⟨d, x, rfl, Same.refl _, hF, hb, hd⟩, ?_⟩
    rintro μ σ Hc ⟨y, rfl, sc, hFy, hby, hdy⟩
    have nyt : ¬ V.int (y : Nat) = V.int top := fun z => by
      have e1 := V.int.inj z
      have e : y = top := by omega
      subst e
      exact hby .refl
    refine ⟨_, rfl, _, rfl, rfl, _, rfl, ?_⟩
    rw [decide_eq_false nyt]
    refine iteT ⟨_, rfl, rfl, _, rfl, ?_⟩
    by_cases y0 : y = 0
    · subst y0
      refine iteF ?_
      refine ⟨_, rfl, _, rfl, rfl, ?_⟩
      rw [decide_eq_false nyt]
      exact q _ sc
    · rw [decide_eq_false (fun z => y0 (by have := V.int.inj z; omega))]
      refine iteT ⟨fun σ' H' => ∃ m', m' < μ ∧ ∃ y, σ' = [some (.ref a), some (.int (y : Nat)), some (.int top)] ∧ Same H H' ∧ isF t y = true ∧ ¬ Bel t top y ∧ Dep t y m', fun _ _ h => h, ?_⟩
      refine ⟨_, rfl, _, rfl, a, t, y, rfl, hT.gx (sgx sc), wf, hFy, hlen, fun m H' hm s' => ?_⟩
      rcases hm with ⟨z, _⟩ | ⟨_, k, hk⟩
      · exact absurd z y0
      · cases hdy with
        | root => exact absurd rfl y0
        | @step f k2 _ d2 hf hm2 hx =>
          obtain ⟨rfl, _⟩ := wf.one _ _ _ _ y hFy hk hm2
          exact ⟨d2, Nat.lt_succ_self _, m, rfl, sc.trans s', dep_isF wf hf, fun hbm => hby (.step hbm hm2 hx), hf⟩
end
end NW
set_option Elab.async false
set_option linter.all false
set_option maxRecDepth 100000
set_option maxHeartbeats 1000000
/-! W10: wrong_names, wrong_move, wrong_deed. -/
namespace NW
open PySem PySem.Spec PyProof.Rows L2
section
variable {P : Program} {w : World} {K : Frag} {mg : Str → Option Value} {base : Heap}
def spStep (K : Frag) (t : Tr) (d : Dd) (t' : Tr) (vs : List V) (H : Hp) : Prop := ∃ (a p : Addr), vs = [.ref a, .ref p] ∧ PTree K H a t ∧ PDeed K H p d ∧ WF t ∧ t.length ≤ 1000 ∧ Step t d t'
def spNoWhy (K : Frag) : Sp := fun vs H Q _ => ∃ (t t' : Tr) (d : Dd), spStep K t d t' vs H ∧ ∀ H', Same H H' → Q .non H'
theorem sc_wrong_names : FnScope ["tree", "deed", "is_move"] ["tree", "deed"] (defScope s_wrong_names) := ⟨rfl, rfl, rfl, by decide +kernel, rfl, by decide +kernel, by decide +kernel⟩
theorem ok_wrong_names (T : Txt K mg) : Cal P w K mg base 3 "wrong_names" (spNoWhy K) [] := by
  refine cal T.f_wrong_names T.g_wrong_names sc_wrong_names (fun _ _ _ _ _ _ us hl => match us, hl with | [_, _], _ => rfl) (fun vs H Q E h => ?_) (fun cdv A outer s H vs Q E hr h => ?_)
  · obtain ⟨t, t', d, ⟨a, p, rfl, _⟩, _⟩ := h
    rfl
  · obtain ⟨t, t', d, ⟨a, p, rfl, hT, hP, wf, hlen, hst⟩, q⟩ := h
    have nd := sc_wrong_names.nd
    obtain ⟨hf, hk⟩ := hst.f
    refine ⟨_, pss_cons (ps_set (i := 2) nd rfl (Or.inl rfl) (pe_callB call_isi (by rfl) T.n_isinstance (by decide +kernel) (pa_cons (pv 1) (pa_cons (pcls T.g_Move) pa_nil))))
      (C8.pss_cut (ps_if (PW.pt (pw_or (pt_not (pt_val (C8.pe_c (ok_is_folder T) hr (by decide) rfl (pa_cons (pv 0) (pa_cons (pe_fld (pv 1) rfl) pa_nil))))) (pw_or1 (PW.pt (pw_and (pt_val (pv 2)) (pw_and1 (pt_not (pt_val (C8.pe_c (ok_is_folder T) hr (by decide) rfl (pa_cons (pv 0) (pa_cons (pe_fld (pv 1) rfl) pa_nil))))))))))) pss_never pss_nil)
      (C8.pss_cut (ps_if (PW.pt (pw_or (pt_not (pt_val (C8.pe_c (ok_is_name T) hr (by decide) rfl (pa_cons (pe_fld (pv 1) rfl) pa_nil)))) (pw_or1 (PW.pt (pw_and (pt_val (pv 2)) (pw_and1 (pt_not (pt_val (C8.pe_c (ok_is_name T) hr (by decide) rfl (pa_cons (pe_fld (pv 1) rfl) pa_nil)))))))))) pss_never pss_nil)
      (C8.pss_cut (ps_if (PW.pt (pw_and (pt_val (pe_callB call_isiT (by rfl) T.n_isinstance (by decide +kernel) (pa_cons (pv 1) (pa_cons (pe_tup (pa_cons (pcls T.g_MakeFolder) (pa_cons (pcls T.g_MakeFile) (pa_cons (pcls T.g_MakeLink) pa_nil)))) pa_nil)))) (pw_and1 (pt_not (pt_val (C8.pe_c (ok_is_owner T) hr (by decide) rfl (pa_cons (pe_fld (pv 1) rfl) pa_nil))))))) pss_never pss_nil)
      (pss_one (ps_ret (pe_ifExp (PW.pt (pw_and (pt_val (pe_callB call_isi (by rfl) T.n_isinstance (by decide +kernel) (pa_cons (pv 1) (pa_cons (pcls T.g_MakeLink) pa_nil)))) (pw_and1 pt_never))) pe_never pe_non)))))), ?_⟩
    obtain ⟨C1, dx1, fs1, f1, f2, f3, f4⟩ := dFolder T hP
    obtain ⟨C2, dx2, fs2, n1, n2, n3, n4⟩ := dName T hP
    refine ⟨_, rfl, _, _, _, _, _, rfl, .own _, hP.ty T, kd_Move T d, ?_⟩
    -- folders
    refine ⟨fun σ' H' => σ' = [some (.ref a), some (.ref p), some (.bl d.isMove)] ∧ H' = H, ?_, ?_⟩
    · refine ⟨_, rfl, _, rfl, p, C1, dx1, fs1, _, rfl, f1, f2, f3, f4, a, t, d.f, rfl, hT, hf, _, rfl, iteF ?_⟩
      refine ⟨_, rfl, _, rfl, ?_⟩
      cases hst with
      | move _ _ hg _ _ _ _ =>
        obtain ⟨dx, e⟩ := hP
        exact iteT ⟨_, rfl, _, rfl, p, _, dx, _, _, rfl, e, T.c_Move, T.a_Move_goal, rfl, a, t, _, rfl, hT, hg, _, rfl, iteF ⟨rfl, rfl⟩⟩
      | _ => exact iteF (iteF ⟨rfl, rfl⟩)
    rintro σ' H' ⟨rfl, rfl⟩
    -- names
    refine ⟨fun σ' H'' => σ' = [some (.ref a), some (.ref p), some (.bl d.isMove)] ∧ Same H' H'', ?_, ?_⟩
    · refine ⟨_, rfl, p, C2, dx2, fs2, _, rfl, n1, n2, n3, n4, d.k, hk, rfl, fun H1 s1 => ⟨_, rfl, iteF ?_⟩⟩
      refine ⟨_, rfl, _, rfl, ?_⟩
      cases hst with
      | move _ _ _ hj _ _ _ =>
        obtain ⟨dx, e⟩ := hP
        exact iteT ⟨_, rfl, p, _, dx, _, _, rfl, s1 _ _ e, T.c_Move, T.a_Move_other, rfl, _, hj, rfl, fun H2 s2 => ⟨_, rfl, iteF ⟨rfl, s1.trans s2⟩⟩⟩
      | _ => exact iteF (iteF ⟨rfl, s1⟩)
    rintro σ' H1 ⟨rfl, s1⟩
    -- owner
    refine ⟨fun σ' H'' => σ' = [some (.ref a), some (.ref p), some (.bl d.isMove)] ∧ Same H' H'', ?_, ?_⟩
    · refine ⟨_, rfl, (by show 3 ≤ sizeLine; decide), fun tq np => ?_⟩
      have s2 := snew (o := .tup [.ref (He.ga K "MakeFolder"), .ref (He.ga K "MakeFile"), .ref (He.ga K "MakeLink")]) s1 np
      have hP2 := hP.gx (sgx s2)
      refine ⟨_, tq, _, _, _, _, rfl, upd_same, .cons (.own _) (.cons (.own _) (.cons (.own _) .nil)), hP2.ty T, kitAny3 (kd_MkF T d) (kd_MkL T d) (kd_Link T d), _, rfl, ?_⟩
      cases hst with
      | mkF _ _ ho _ =>
        obtain ⟨dx, e⟩ := hP2
        exact iteT ⟨_, rfl, p, _, dx, _, _, rfl, e, T.c_MakeFolder, T.a_MakeFolder_owner, rfl, _, rfl, ho, _, rfl, iteF ⟨rfl, s2⟩⟩
      | mkL _ _ ho _ =>
        obtain ⟨dx, e⟩ := hP2
        exact iteT ⟨_, rfl, p, _, dx, _, _, rfl, e, T.c_MakeFile, T.a_MakeFile_owner, rfl, _, rfl, ho, _, rfl, iteF ⟨rfl, s2⟩⟩
      | _ => exact iteF (iteF ⟨rfl, s2⟩)
    rintro σ' H2 ⟨rfl, s2⟩
    refine ⟨_, rfl, _, _, _, _, _, rfl, .own _, (hP.gx (sgx s2)).ty T, kd_Link T d, _, rfl, iteF (iteF (q _ s2))⟩
/-! wrong_move -/
def spWrongMove (K : Frag) : Sp := fun vs H Q _ => ∃ (t t' : Tr) (f k g j n : Nat) (a p : Addr), vs = [.ref a, .ref p, .int n] ∧ PTree K H a t ∧ PDeed K H p (.move f k g j) ∧ WF t ∧ t.length ≤ 1000 ∧ isF t g = true ∧ j < 4 ∧ lookE j (ents t g) = none ∧ n < t.length ∧ (isF t n = true → ¬ Bel t n g) ∧ ∀ H', Same H H' → Q .non H'
theorem sc_wrong_move : FnScope ["tree", "deed", "node"] ["tree", "deed", "node"] (defScope s_wrong_move) := ⟨rfl, rfl, rfl, by decide +kernel, rfl, by decide +kernel, by decide +kernel⟩
theorem ok_wrong_move (T : Txt K mg) : Cal P w K mg base 6 "wrong_move" (spWrongMove K) [] := by
  refine cal T.f_wrong_move T.g_wrong_move sc_wrong_move (fun _ _ _ _ _ _ us hl => match us, hl with | [_, _, _], _ => rfl) (fun vs H Q E h => ?_) (fun cdv A outer s H vs Q E hr h => ?_)
  · obtain ⟨t, t', f, k, g, j, n, a, p, rfl, _⟩ := h
    rfl
  · obtain ⟨t, t', f, k, g, j, n, a, p, rfl, hT, ⟨dx0, hP⟩, wf, hlen, hg, hj, hno, hn, hb, q⟩ := h
    refine ⟨_, pss_cons (ps_if (pt_cmpR op_notN (C8.pe_c (ok_node_at T) hr (by decide) rfl (pa_cons (pv 0) (pa_cons (pe_fld (pv 1) rfl) (pa_cons (pe_fld (pv 1) rfl) pa_nil)))) pe_non (nomark _)) pss_never pss_nil)
      (pss_one (ps_ret (pe_ifExp (PW.pt (pw_and (pt_val (pe_callB call_isi (by rfl) T.n_isinstance (by decide +kernel) (pa_cons (pe_ix ix_tup (pe_fld (pv 0) rfl) (pv 2) (fun _ _ => rfl)) (pa_cons (pcls T.g_Folder) pa_nil))))
        (pw_and1 (pt_val (C8.pe_c (ok_is_below T) hr (by decide) rfl (pa_cons (pv 0) (pa_cons (pe_fld (pv 1) rfl) (pa_cons (pv 2) pa_nil)))))))) pe_never pe_non))), ?_⟩
    have hgp : isP t g = true := by unfold isP; rw [hg]; rfl
    refine ⟨_, rfl, _, rfl, p, _, dx0, _, _, rfl, hP, T.c_Move, T.a_Move_goal, rfl, _, rfl, p, _, dx0, _, _, rfl, hP, T.c_Move, T.a_Move_other, rfl, a, t, g, j, rfl, hT, wf, hgp, hj, fun H1 s1 => ?_⟩
    rw [hno]
    refine ⟨rfl, _, rfl, iteF ?_⟩
    obtain ⟨dx, tp, ps, h1, h2, h3⟩ := hT.gx (sgx s1)
    obtain ⟨pn, hp1, hp2⟩ := node_at h3 (List.getElem?_eq_getElem hn)
    refine ⟨_, rfl, a, _, dx, _, _, rfl, h1, T.c_Tree, T.a_Tree_nodes, rfl, _, rfl, tp, _, _, _, rfl, rfl, SqT.of h2, hp1, _, _, _, _, _, rfl, .own _, hp2.ty T, kit_Folder T _, _, rfl, ?_⟩
    rw [← isF_at (List.getElem?_eq_getElem hn)]
    cases hF : isF t n with
    | false => exact iteF (iteF (q _ s1))
    | true => exact iteT ⟨_, rfl, _, rfl, p, _, dx0, _, _, rfl, s1 _ _ hP, T.c_Move, T.a_Move_goal, rfl, _, rfl, a, t, g, n, rfl, hT.gx (sgx s1), wf, hlen, hg, hb hF, fun H2 s2 => ⟨_, rfl, iteF (q _ (s1.trans s2))⟩⟩
/-! wrong_deed -/
theorem sc_wrong_deed : FnScope ["tree", "deed", "why", "node"] ["tree", "deed"] (defScope s_wrong_deed) := ⟨rfl, rfl, rfl, by decide +kernel, rfl, by decide +kernel, by decide +kernel⟩
theorem ok_wrong_deed (T : Txt K mg) : Cal P w K mg base 7 "wrong_deed" (spNoWhy K) [] := by
  refine cal T.f_wrong_deed T.g_wrong_deed sc_wrong_deed (fun _ _ _ _ _ _ us hl => match us, hl with | [_, _], _ => rfl) (fun vs H Q E h => ?_) (fun cdv A outer s H vs Q E hr h => ?_)
  · obtain ⟨t, t', d, ⟨a, p, rfl, _⟩, _⟩ := h
    rfl
  · obtain ⟨t, t', d, ⟨a, p, rfl, hT, hP, wf, hlen, hst⟩, q⟩ := h
    have nd := sc_wrong_deed.nd
    obtain ⟨hf, hk⟩ := hst.f
    have hfp : isP t d.f = true := by unfold isP; rw [hf]; rfl
    refine ⟨_, pss_cons (ps_set (i := 2) nd rfl (Or.inl rfl) (C8.pe_c (ok_wrong_names T) hr (by decide) rfl (pa_cons (pv 0) (pa_cons (pv 1) pa_nil))))
      (pss_cons (ps_if (pt_cmpR op_notN (pv 2) pe_non (nomark _)) pss_never pss_nil)
      (pss_cons (ps_set (i := 3) nd rfl (Or.inl rfl) (C8.pe_c (ok_node_at T) hr (by decide) rfl (pa_cons (pv 0) (pa_cons (pe_fld (pv 1) rfl) (pa_cons (pe_fld (pv 1) rfl) pa_nil)))))
      (pss_cons (ps_if (pt_val (pe_callB call_isiT (by rfl) T.n_isinstance (by decide +kernel) (pa_cons (pv 1) (pa_cons (pe_tup (pa_cons (pcls T.g_Take) (pa_cons (pcls T.g_Move) pa_nil))) pa_nil))))
        (pss_cons (ps_if (pt_cmpR op_isN (pv 3) pe_non (nomark _)) pss_never pss_nil)
        (pss_cons (ps_if (pt_val (pe_callB call_isi (by rfl) T.n_isinstance (by decide +kernel) (pa_cons (pv 1) (pa_cons (pcls T.g_Move) pa_nil)))) (pss_one (ps_ret (C8.pe_c (ok_wrong_move T) hr (by decide) rfl (pa_cons (pv 0) (pa_cons (pv 1) (pa_cons (pv 3) pa_nil)))))) pss_nil)
        (pss_one (ps_ret (pe_ifExp (PW.pt (pw_and (pt_val (pe_callB call_isi (by rfl) T.n_isinstance (by decide +kernel) (pa_cons (pe_ix ix_tup (pe_fld (pv 0) rfl) (pv 3) (fun _ _ => rfl)) (pa_cons (pcls T.g_Folder) pa_nil))))
          (pw_and1 (pt_cmpR (op_neD hr.units) (pe_fld (pe_ix ix_tup (pe_fld (pv 0) rfl) (pv 3) (fun _ _ => rfl)) rfl) (pe_tup pa_nil) (nomark _))))) pe_never pe_non))))) pss_nil)
      (pss_cons (ps_if (PW.pt (pw_and (pt_val (pe_callB call_isi (by rfl) T.n_isinstance (by decide +kernel) (pa_cons (pv 1) (pa_cons (pcls T.g_Put) pa_nil)))) (pw_and1 (pt_not (pt_val (C8.pe_c (ok_is_leaf T) hr (by decide) rfl (pa_cons (pv 0) (pa_cons (pe_fld (pv 1) rfl) pa_nil)))))))) pss_never pss_nil)
      (pss_one (ps_ret (pe_ifExp (pt_cmpR op_notN (pv 3) pe_non (nomark _)) pe_never pe_non))))))), ?_⟩
    obtain ⟨C1, dx1, fs1, f1, f2, f3, f4⟩ := dFolder T hP
    obtain ⟨C2, dx2, fs2, n1, n2, n3, n4⟩ := dName T hP
    refine ⟨_, rfl, _, rfl, t, t', d, ⟨a, p, rfl, hT, hP, wf, hlen, hst⟩, fun H1 s1 => ?_⟩
    refine ⟨_, rfl, rfl, _, rfl, iteF ?_⟩
    refine ⟨_, rfl, _, rfl, p, C1, dx1, fs1, _, rfl, s1 _ _ f1, f2, f3, f4, _, rfl, p, C2, dx2, fs2, _, rfl, s1 _ _ n1, n2, n3, n4, a, t, d.f, d.k, rfl, hT.gx (sgx s1), wf, hfp, hk, fun H2 s2 => ?_⟩
    have s12 := s1.trans s2
    generalize hv : optV (lookE d.k (ents t d.f)) = v
    refine ⟨_, rfl, (by show 2 ≤ sizeLine; decide), fun tq np => ?_⟩
    have s3 := snew (o := .tup [.ref (He.ga K "Take"), .ref (He.ga K "Move")]) s12 np
    have hP3 := hP.gx (sgx s3)
    have hT3 := hT.gx (sgx s3)
    refine ⟨_, tq, _, _, _, _, rfl, upd_same, .cons (.own _) (.cons (.own _) .nil), hP3.ty T, kitAny2 (kd_Take T d) (kd_Move T d), _, rfl, ?_⟩
    generalize upd H2 tq (.tup [.ref (He.ga K "Take"), .ref (He.ga K "Move")]) = H3 at s3 hP3 hT3
    obtain ⟨dx, tp, ps, h1, h2, h3⟩ := id hT3
    cases hst with
    | mkF _ _ _ hno =>
      have ev : v = .non := hv.symm.trans (congrArg optV hno)
      subst ev
      refine iteF ⟨_, rfl, _, _, _, _, _, rfl, .own _, hP3.ty T, kd_Put T _, _, rfl, iteF (iteF ?_)⟩
      refine ⟨_, rfl, rfl, _, rfl, ?_⟩
      exact iteF (q _ s3)
    | mkL _ _ _ hno =>
      have ev : v = .non := hv.symm.trans (congrArg optV hno)
      subst ev
      refine iteF ⟨_, rfl, _, _, _, _, _, rfl, .own _, hP3.ty T, kd_Put T _, _, rfl, iteF (iteF ?_)⟩
      refine ⟨_, rfl, rfl, _, rfl, ?_⟩
      exact iteF (q _ s3)
    | put _ _ hn hno =>
      have ev : v = .non := hv.symm.trans (congrArg optV hno)
      subst ev
      obtain ⟨dx0, e0⟩ := id hP3
      refine iteF ⟨_, rfl, _, _, _, _, _, rfl, .own _, hP3.ty T, kd_Put T _, _, rfl, iteT ⟨_, rfl, _, rfl, p, _, dx0, _, _, rfl, e0, T.c_Put, T.a_Put_node, rfl, a, t, _, _, rfl, hT3, hn, fun H4 s4 => ⟨_, rfl, iteF ?_⟩⟩⟩
      refine ⟨_, rfl, rfl, _, rfl, ?_⟩
      exact iteF (q _ (s3.trans s4))
    | @takeF _ _ n o _ _ hl hn =>
      have ev : v = .int (n : Nat) := hv.symm.trans (congrArg optV hl)
      subst ev
      have hnl := (List.getElem?_eq_some_iff.mp hn).1
      obtain ⟨pn, hp1, hp2⟩ := node_at h3 hn
      obtain ⟨dxn, e, qs, g1, g2, g3⟩ := id hp2
      cases g3
      refine iteT ⟨_, rfl, rfl, _, rfl, ?_⟩
      refine iteF ⟨_, rfl, _, _, _, _, _, rfl, .own _, hP3.ty T, kd_Move T _, _, rfl, iteF ?_⟩
      refine ⟨_, rfl, a, _, dx, _, _, rfl, h1, T.c_Tree, T.a_Tree_nodes, rfl, _, rfl, tp, _, _, _, rfl, rfl, SqT.of h2, hp1, _, _, _, _, _, rfl, .own _, hp2.ty T, kit_Folder T _, _, rfl, iteT ?_⟩
      refine ⟨_, rfl, a, _, dx, _, _, rfl, h1, T.c_Tree, T.a_Tree_nodes, rfl, _, rfl, tp, _, _, _, rfl, rfl, SqT.of h2, hp1, pn, _, dxn, _, _, rfl, g1, T.c_Folder, T.a_Folder_entries, rfl, (by show 0 ≤ sizeLine; decide), fun p5 n5 => ?_⟩
      exact ⟨_, _, .tup (SqT.of (upd_at g2 (ne_of_none g2 n5))) .nil, .tup (SqT.of upd_same) .nil, rfl, rfl, _, rfl, iteF (q _ (snew s3 n5))⟩
    | @takeL _ _ n o _ _ hl hn =>
      have ev : v = .int (n : Nat) := hv.symm.trans (congrArg optV hl)
      subst ev
      have hnl := (List.getElem?_eq_some_iff.mp hn).1
      obtain ⟨pn, hp1, hp2⟩ := node_at h3 hn
      refine iteT ⟨_, rfl, rfl, _, rfl, ?_⟩
      refine iteF ⟨_, rfl, _, _, _, _, _, rfl, .own _, hP3.ty T, kd_Move T _, _, rfl, iteF ?_⟩
      exact ⟨_, rfl, a, _, dx, _, _, rfl, h1, T.c_Tree, T.a_Tree_nodes, rfl, _, rfl, tp, _, _, _, rfl, rfl, SqT.of h2, hp1, _, _, _, _, _, rfl, .own _, hp2.ty T, kit_Folder T _, _, rfl, iteF (iteF (q _ s3))⟩
    | @move f k g j n _ _ hg hj hl hno hb =>
      have ev : v = .int (n : Nat) := hv.symm.trans (congrArg optV hl)
      subst ev
      have hnl : n < t.length := (wf.ent _ _ _ (mem_of_lookE hl)).2.2.1
      refine iteT ⟨_, rfl, rfl, _, rfl, ?_⟩
      refine iteF ⟨_, rfl, _, _, _, _, _, rfl, .own _, hP3.ty T, kd_Move T _, _, rfl, iteT ?_⟩
      exact ⟨_, rfl, _, rfl, _, rfl, t, t, f, k, g, j, n, a, p, rfl, hT3, hP3, wf, hlen, hg, hj, hno, hnl, hb, fun H4 s4 => q _ (s3.trans s4)⟩
end
end NW
set_option Elab.async false
set_option linter.all false
set_option maxRecDepth 100000
set_option maxHeartbeats 1000000
/-! W11: made_node, with_entry, without_entry, done, trees. -/
namespace NW
open PySem PySem.Spec PyProof.Rows L2
/-- all instances and tuples are kept -/
def Fx (H H' : Hp) : Prop := (∀ b C d fs, H b = some (.ins C d fs) → H' b = some (.ins C d fs)) ∧ ∀ b xs, H b = some (.tup xs) → H' b = some (.tup xs)
theorem Gx.fx {H H' : Hp} (s : Gx H H') : Fx H H' := ⟨fun _ _ _ _ e => s _ _ e rfl, fun _ _ e => s _ _ e rfl⟩
theorem sfx {H H' : Hp} (s : Same H H') : Fx H H' := (sgx s).fx
theorem Fx.trans {H H1 H2 : Hp} (a : Fx H H1) (b : Fx H1 H2) : Fx H H2 := ⟨fun _ _ _ _ e => b.1 _ _ _ _ (a.1 _ _ _ _ e), fun _ _ e => b.2 _ _ (a.2 _ _ e)⟩
theorem Sb.fx {a : Addr} {xs : List V} {H H' : Hp} (s : Sb a H H') (h : H a = some (.lst xs)) : Fx H H' :=
  ⟨fun b C d fs e => s b _ (fun z => by subst z; rw [h] at e; cases e) e, fun b ys e => s b _ (fun z => by subst z; rw [h] at e; cases e) e⟩
section
variable {P : Program} {w : World} {K : Frag} {mg : Str → Option Value} {base : Heap}
theorem PNode.fx {H H' : Hp} {p : Addr} {nd : Nd} (s : Fx H H') (h : PNode K H p nd) : PNode K H' p nd := by
  cases nd with
  | fol o es => obtain ⟨dx, e, qs, h1, h2, h3⟩ := h; exact ⟨dx, e, qs, s.1 _ _ _ _ h1, s.2 _ _ h2, Pmap h3 fun _ _ h => s.2 _ _ h⟩
  | fil o => obtain ⟨dx, h1⟩ := h; exact ⟨dx, s.1 _ _ _ _ h1⟩
  | gon o a => obtain ⟨dx, h1⟩ := h; exact ⟨dx, s.1 _ _ _ _ h1⟩
theorem PTree.fx {H H' : Hp} {a : Addr} {t : Tr} (s : Fx H H') (h : PTree K H a t) : PTree K H' a t := by
  obtain ⟨dx, tp, ps, h1, h2, h3⟩ := h
  exact ⟨dx, tp, ps, s.1 _ _ _ _ h1, s.2 _ _ h2, Pmap h3 fun _ _ => PNode.fx s⟩
theorem PDeed.fx {H H' : Hp} {p : Addr} {d : Dd} (s : Fx H H') (h : PDeed K H p d) : PDeed K H' p d := let ⟨dx, e⟩ := h; ⟨dx, s.1 _ _ _ _ e⟩
theorem Pset {α β : Type} {F : α → β → Prop} {a : α} {b : β} : ∀ {l₁ : List α} {l₂ : List β} (i : Nat), Paired F l₁ l₂ → F a b → Paired F (l₁.set i a) (l₂.set i b)
  | _, _, _, .nil, _ => .nil
  | _, _, 0, .cons _ t, h => .cons h t
  | _, _, i + 1, .cons r t, h => .cons r (Pset i t h)
/-- a list of nodes that may be changed -/
def NL (K : Frag) (H : Hp) (a : Addr) (t : Tr) : Prop := ∃ ps : List Addr, H a = some (.lst (ps.map V.ref)) ∧ Paired (PNode K H) ps t
theorem NL.same {H H' : Hp} {a : Addr} {t : Tr} (s : Same H H') (h : NL K H a t) : NL K H' a t := let ⟨ps, h1, h2⟩ := h; ⟨ps, s _ _ h1, Pmap h2 fun _ _ => PNode.fx (sfx s)⟩
/-- a node is put into its place -/
theorem NL.put {H : Hp} {a x : Addr} {ps : List Addr} {t : Tr} {i : Nat} {nd : Nd} (h : H a = some (.lst (ps.map V.ref))) (hp : Paired (PNode K H) ps t) (hx : PNode K H x nd) : NL K (upd H a (.lst ((ps.map V.ref).set i (.ref x)))) a (t.set i nd) := by
  have s : Fx H (upd H a (.lst ((ps.map V.ref).set i (.ref x)))) := Sb.fx (sb_upd (r := a)) h
  exact ⟨ps.set i x, by rw [upd_same, ← List.map_set], Pmap (Pset i hp hx) fun _ _ => PNode.fx s⟩
theorem EArg.same {H H' : Hp} {a : Addr} {es : List (Nat × Nat)} (s : Same H H') (h : EArg K H a es) : EArg K H' a es := by
  obtain ⟨qs, h1, h2, h3⟩ := h
  exact ⟨qs, h1.same s, Pmap h2 fun _ _ h => s _ _ h, h3⟩
theorem addEnt_at {t : Tr} {f k n : Nat} {o : Int} {es : List (Nat × Nat)} (h : t[f]? = some (.fol o es)) : addEnt t f k n = t.set f (.fol o (insE k n es)) := by unfold addEnt; rw [h]
theorem delEnt_at {t : Tr} {f k : Nat} {o : Int} {es : List (Nat × Nat)} (h : t[f]? = some (.fol o es)) : delEnt t f k = t.set f (.fol o (delE k es)) := by unfold delEnt; rw [h]
/-! with_entry -/
def spWithEntry (K : Frag) : Sp := fun vs H Q _ => ∃ (a : Addr) (f k n : Nat) (t : Tr) (o : Int) (es : List (Nat × Nat)), vs = [.ref a, .int f, .str (nm k), .int n] ∧ NL K H a t ∧ t[f]? = some (.fol o es) ∧ Srt es ∧ (∀ e ∈ es, e.1 < 4) ∧ k < 4 ∧ lookE k es = none ∧
  ∀ H', Sb a H H' → NL K H' a (addEnt t f k n) → Q .non H'
theorem sc_with_entry : FnScope ["nodes", "folder", "name", "node"] ["nodes", "folder", "name", "node"] (defScope s_with_entry) := ⟨rfl, rfl, rfl, by decide +kernel, rfl, by decide +kernel, by decide +kernel⟩
theorem ok_with_entry (T : Txt K mg) : Cal P w K mg base 5 "with_entry" (spWithEntry K) [] := by
  refine cal T.f_with_entry T.g_with_entry sc_with_entry (fun _ _ _ _ _ _ us hl => match us, hl with | [_, _, _, _], _ => rfl) (fun vs H Q E h => ?_) (fun cdv A outer s H vs Q E hr h => ?_)
  · obtain ⟨a, f, k, n, t, o, es, rfl, _⟩ := h
    rfl
  · obtain ⟨a, f, k, n, t, o, es, rfl, ⟨ps, ha, hp⟩, ht, hs, h4, hk, hno, q⟩ := h
    have hf := (List.getElem?_eq_some_iff.mp ht).1
    obtain ⟨p, hp1, dx, e, qs, g1, g2, g3⟩ := node_at hp ht
    refine ⟨_, pss_one (ps_asg (C8.pe_mk (mk_Folder T) hr (by decide) rfl (pa_cons (pe_fld (pe_ix ix_list (pv 0) (pv 1) (fun _ _ => rfl)) rfl)
      (pa_cons (pe_op op_catA (pe_fld (pe_ix ix_list (pv 0) (pv 1) (fun _ _ => rfl)) rfl) (pe_tup (pa_cons (pe_tup (pa_cons (pv 2) (pa_cons (pv 3) pa_nil))) pa_nil))) pa_nil))) (pg_sub (pv 0) (pv 1) set_list)), ?_⟩
    refine ⟨_, rfl, _, rfl, a, _, _, _, rfl, rfl, SqL.of ha, hp1, p, _, dx, _, _, rfl, g1, T.c_Folder, T.a_Folder_owner, rfl, ?_⟩
    refine ⟨_, rfl, _, rfl, a, _, _, _, rfl, rfl, SqL.of ha, hp1, p, _, dx, _, _, rfl, g1, T.c_Folder, T.a_Folder_entries, rfl, ?_⟩
    refine ⟨_, rfl, _, rfl, (by show 2 ≤ sizeLine; decide), fun u nu => ⟨(by show 1 ≤ sizeLine; decide), fun v nv => ?_⟩⟩
    have su := same_new (o := .tup [.str (nm k), .int n]) nu
    have sv := snew (o := .tup [.ref u]) su nv
    have hu : upd (upd H u (.tup [.str (nm k), .int n])) v (.tup [.ref u]) u = some (.tup [.str (nm k), .int n]) := upd_at upd_same (fun z => by rw [← z, upd_same] at nv; cases nv)
    have hv : upd (upd H u (.tup [.str (nm k), .int n])) v (.tup [.ref u]) v = some (.tup [.ref u]) := upd_same
    generalize upd (upd H u (.tup [.str (nm k), .int n])) v (.tup [.ref u]) = H1 at sv hu hv
    have g3' : Paired (EPair H1) (qs ++ [u]) (es ++ [(k, n)]) := Paired.snoc (Pmap g3 fun _ _ h => sv _ _ h) hu
    have hnok := lookE_none.mp hno
    have harg : ∀ b (H2 : Hp), Same H1 H2 → H2 b = some (.tup ((qs ++ [u]).map V.ref)) → EArg K H2 b (es ++ [(k, n)]) := fun b H2 s2 hb =>
      ⟨qs ++ [u], .inr (SqT.of hb), Pmap g3' fun _ _ h => s2 _ _ h, by
        rw [List.map_append, List.nodup_append]
        refine ⟨srt_nodup hs, by simp, fun x hx y hy => ?_⟩
        obtain ⟨e, he, rfl⟩ := List.mem_map.mp hx
        simp at hy
        subst hy
        exact hnok e he, fun e he => by
        rcases List.mem_append.mp he with he | he
        · exact h4 e he
        · simp at he; subst he; exact hk, by
        have := srt_len hs h4
        rw [List.length_append, List.length_singleton]
        omega⟩
    have fin : ∀ b (H2 : Hp), Same H1 H2 → EArg K H2 b (es ++ [(k, n)]) → tMake (He.ga K "Folder") (spMkA (He.ga K "Folder") (fun a : Int × Addr × List (Nat × Nat) => [.int a.1, .ref a.2.1]) (fun a H => EArg K H a.2.1 a.2.2) (fun a H x => PNode K H x (.fol a.1 (srtE a.2.2)))) [] E0 (fun _ H' Q' => Q' [.int o, .ref b] H') [] H2 (fun x H1 => gSub (tVar 0) (tVar 1) rSetL x [some (.ref a), some (.int f), some (.str (nm k)), some (.int n)] H1 fun _ H' => Q .non H') := fun b H2 s2 hE => by
      intro x dx2 nx ndx ne
      refine ⟨(o, b, es ++ [(k, n)]), H2, x, dx2, rfl, rfl, nx, ndx, ne, hE, fun H3 s3 hN => ⟨rfl, ?_⟩⟩
      have s13 := (sv.trans s2).trans s3
      have ha3 := s13 _ _ ha
      simp only at hN
      rw [srtE_add hs hnok] at hN
      refine ⟨_, rfl, _, rfl, a, _, _, _, rfl, rfl, ha3, ixN_nat (by rw [List.length_map, Plen hp]; exact hf), ?_⟩
      refine q _ ((ssb s13 a).put) ?_
      rw [addEnt_at ht]
      exact NL.put ha3 (Pmap hp fun _ _ => PNode.fx (sfx s13)) hN
    refine ⟨e, v, _, _, rfl, rfl, SqT.of (sv _ _ g2), SqT.of hv, ?_, fun h0 => ?_, fun h0 _ => ?_, fun _ _ b nb => ?_⟩
    · have := srt_len hs h4
      rw [List.length_map, Plen g3]
      exact Nat.le_trans (by simp; omega : _ ≤ 10) (by decide)
    · have e0 : qs = [] := by simpa using h0
      subst e0
      exact fin v H1 (Same.refl _) (harg v H1 (Same.refl _) hv)
    · rename_i hne
      exact absurd hne (by simp)
    · have sb2 := same_new (o := .tup ((qs.map V.ref) ++ [.ref u])) nb
      exact fin b _ sb2 (harg b _ sb2 (by rw [upd_same, List.map_append]; rfl))
/-! without_entry -/
theorem delE_srt {k : Nat} {es : List (Nat × Nat)} (h : Srt es) : Srt (delE k es) := h.sublist List.filter_sublist
def spWithoutEntry (K : Frag) : Sp := fun vs H Q _ => ∃ (a : Addr) (f k : Nat) (t : Tr) (o : Int) (es : List (Nat × Nat)), vs = [.ref a, .int f, .str (nm k)] ∧ NL K H a t ∧ t[f]? = some (.fol o es) ∧ Srt es ∧ (∀ e ∈ es, e.1 < 4) ∧ k < 4 ∧
  ∀ H', Sb a H H' → NL K H' a (delEnt t f k) → Q .non H'
theorem sc_without_entry : FnScope ["nodes", "folder", "name", "left", "entry"] ["nodes", "folder", "name"] (defScope s_without_entry) := ⟨rfl, rfl, rfl, by decide +kernel, rfl, by decide +kernel, by decide +kernel⟩
theorem ok_without_entry (T : Txt K mg) : Cal P w K mg base 5 "without_entry" (spWithoutEntry K) [] := by
  refine cal T.f_without_entry T.g_without_entry sc_without_entry (fun _ _ _ _ _ _ us hl => match us, hl with | [_, _, _], _ => rfl) (fun vs H Q E h => ?_) (fun cdv A outer s H vs Q E hr h => ?_)
  · obtain ⟨a, f, k, t, o, es, rfl, _⟩ := h
    rfl
  · obtain ⟨a, f, k, t, o, es, rfl, ⟨ps, ha, hp⟩, ht, hs, h4, hk, q⟩ := h
    have nd := sc_without_entry.nd
    have hf := (List.getElem?_eq_some_iff.mp ht).1
    obtain ⟨p, hp1, dx, e, qs, g1, g2, g3⟩ := node_at hp ht
    refine ⟨_, pss_cons (ps_setLc (i := 3) (own := [("entry", 4)]) (g := gName 4) (tt := tTest (tOp rNe (tOp (rIxT K) (tVar 4) (tC (.int 0))) (tVar 2))) rfl nd rfl rfl (sw_true rfl rfl rfl (by decide +kernel)) (pi_tup (pe_fld (pe_ix ix_list (pv 0) (pv 1) (fun _ _ => rfl)) rfl)) (blkOk_by (N := ["nodes", "folder", "name", "left", "entry"]) (sc := defScope s_without_entry) (by decide +kernel))
        (fun _ _ _ _ _ => pg_name (i := 4) nd rfl (Or.inl rfl)) (fun _ _ _ _ _ => pts_one (pt_cmpR op_ne (pe_ix (ixT (K := K)) (pv 4) pe_int (fun _ _ => rfl)) (pv 2) (nomark _))) (fun _ _ _ _ _ => pv 4))
      (pss_one (ps_asg (C8.pe_mk (mk_Folder T) hr (by decide) rfl (pa_cons (pe_fld (pe_ix ix_list (pv 0) (pv 1) (fun _ _ => rfl)) rfl) (pa_cons (pv 3) pa_nil))) (pg_sub (pv 0) (pv 1) set_list))), ?_⟩
    refine ⟨_, rfl, _, rfl, a, _, _, _, rfl, rfl, SqL.of ha, hp1, p, _, dx, _, _, rfl, g1, T.c_Folder, T.a_Folder_entries, rfl, e, rfl, ⟨_, SqT.of g2⟩,
      fun D nD => lc_fm walk_tup (fun i => (qs[i]?).bind fun u => (es[i]?).bind fun e => if e.1 = k then none else some (.ref u)) nD (fun H' s => seqT s (SqT.of g2)) (by rw [List.length_map, Plen g3]; exact Nat.le_trans (srt_len hs h4) (by decide)) (fun i x Hx Hi Qy Qn hi s hy ky kn => ?_) ?_⟩
    · obtain ⟨rfl, hx⟩ := hy
      rw [List.getElem?_map] at hx
      cases hq : qs[i]? with
      | none => rw [hq] at hx; cases hx
      | some u =>
        rw [hq] at hx
        cases hx
        obtain ⟨kn2, hkn, hE⟩ := Pget' g3 hq
        have hk4 := h4 _ (List.mem_of_getElem? hkn)
        rw [hq, hkn] at ky kn
        refine ⟨rfl, _, rfl, u, _, _, _, rfl, rfl, SqT.of (s _ _ hE), atI_0 _ _, _, rfl, rfl, _, rfl, ?_⟩
        dsimp only
        by_cases c : kn2.1 = k
        · rw [decide_eq_true (by rw [c])]
          exact kn (by simp [c])
        · rw [decide_eq_false (fun z => c (nm_inj hk4 hk (V.str.inj z)))]
          exact ⟨_, rfl, ky _ (by simp [c])⟩
    · have key : ∃ us : List Addr, outsTo (fun i => (qs[i]?).bind fun u => (es[i]?).bind fun e => if e.1 = k then none else some (V.ref u)) (qs.map V.ref).length = us.map V.ref ∧ Paired (EPair H) us (delE k es) := by
        rw [List.length_map]
        have gen : ∀ {qs : List Addr} {es : List (Nat × Nat)}, Paired (EPair H) qs es → ∃ us : List Addr, outsTo (fun i => (qs[i]?).bind fun u => (es[i]?).bind fun e => if e.1 = k then none else some (V.ref u)) qs.length = us.map V.ref ∧ Paired (EPair H) us (delE k es) := by
          intro qs es p
          have h1 : outsTo (fun i => (qs[i]?).bind fun u => (es[i]?).bind fun e => if e.1 = k then none else some (V.ref u)) qs.length = (qs.zip es).filterMap fun z => if z.2.1 = k then none else some (V.ref z.1) := by
            have l := Plen p
            rw [show qs.length = (qs.zip es).length by rw [List.length_zip]; omega]
            refine outsTo_map (qs.zip es) (fun z => if z.2.1 = k then none else some (V.ref z.1)) _ fun i z hz => ?_
            rw [List.getElem?_zip_eq_some] at hz
            rw [hz.1, hz.2]
            rfl
          rw [h1]
          clear h1
          induction p with
          | nil => exact ⟨[], rfl, .nil⟩
          | @cons u e qs es hE _ ih =>
            obtain ⟨us, e1, e2⟩ := ih
            unfold delE at e2 ⊢
            by_cases c : e.1 = k
            · refine ⟨us, ?_, ?_⟩
              · rw [List.zip_cons_cons, List.filterMap_cons, if_pos c]
                exact e1
              · rw [List.filter_cons, if_neg (by simp [c])]
                exact e2
            · refine ⟨u :: us, ?_, ?_⟩
              · rw [List.zip_cons_cons, List.filterMap_cons, if_neg c]
                simp [e1]
              · rw [List.filter_cons, if_pos (by simp [c])]
                exact .cons hE e2
        exact gen g3
      obtain ⟨us, eo, hus⟩ := key
      rw [eo]
      have s1 := same_new (o := .lst (us.map V.ref)) nD
      have hD : upd H D (.lst (us.map V.ref)) D = some (.lst (us.map V.ref)) := upd_same
      generalize upd H D (.lst (us.map V.ref)) = H1 at s1 hD
      refine ⟨_, rfl, _, rfl, a, _, _, _, rfl, rfl, SqL.of (s1 _ _ ha), hp1, p, _, dx, _, _, rfl, s1 _ _ g1, T.c_Folder, T.a_Folder_owner, rfl, _, rfl, fun x dx2 nx ndx ne => ?_⟩
      refine ⟨(o, D, delE k es), H1, x, dx2, rfl, rfl, nx, ndx, ne, ⟨us, .inl (SqL.of hD), Pmap hus fun _ _ h => s1 _ _ h, srt_nodup (delE_srt hs), fun e he => h4 e (List.mem_filter.mp he).1, Nat.le_trans (List.length_filter_le _ _) (Nat.le_trans (srt_len hs h4) (by decide))⟩, fun H3 s3 hN => ⟨rfl, ?_⟩⟩
      have s13 := s1.trans s3
      have ha3 := s13 _ _ ha
      simp only at hN
      rw [srtE_id (delE_srt hs)] at hN
      refine ⟨_, rfl, _, rfl, a, _, _, _, rfl, rfl, ha3, ixN_nat (by rw [List.length_map, Plen hp]; exact hf), ?_⟩
      refine q _ ((ssb s13 a).put) ?_
      rw [delEnt_at ht]
      exact NL.put ha3 (Pmap hp fun _ _ => PNode.fx (sfx s13)) hN
/-! made_node -/
def MadeV (K : Frag) (H : Hp) (v : V) : Dd → Prop
  | .mkF _ _ o => ∃ x, v = .ref x ∧ PNode K H x (.fol o [])
  | .mkL _ _ o => ∃ x, v = .ref x ∧ PNode K H x (.fil o)
  | _ => v = .non
def spMadeNode (K : Frag) : Sp := fun vs H Q _ => ∃ (p : Addr) (d : Dd), vs = [.ref p] ∧ PDeed K H p d ∧ ∀ v H', Same H H' → MadeV K H' v d → Q v H'
theorem sc_made_node : FnScope ["deed"] ["deed"] (defScope s_made_node) := ⟨rfl, rfl, rfl, by decide +kernel, rfl, by decide +kernel, by decide +kernel⟩
theorem ok_made_node (T : Txt K mg) : Cal P w K mg base 5 "made_node" (spMadeNode K) [] := by
  refine cal T.f_made_node T.g_made_node sc_made_node (fun _ _ _ _ _ _ us hl => match us, hl with | [_], _ => rfl) (fun vs H Q E h => ?_) (fun cdv A outer s H vs Q E hr h => ?_)
  · obtain ⟨p, d, rfl, _⟩ := h
    rfl
  · obtain ⟨p, d, rfl, hP, q⟩ := h
    refine ⟨_, pss_cons (ps_if (pt_val (pe_callB call_isi (by rfl) T.n_isinstance (by decide +kernel) (pa_cons (pv 0) (pa_cons (pcls T.g_MakeFolder) pa_nil)))) (pss_one (ps_ret (C8.pe_mk (mk_Folder T) hr (by decide) rfl (pa_cons (pe_fld (pv 0) rfl) (pa_cons (pe_tup pa_nil) pa_nil))))) pss_nil)
      (pss_cons (ps_if (pt_val (pe_callB call_isi (by rfl) T.n_isinstance (by decide +kernel) (pa_cons (pv 0) (pa_cons (pcls T.g_MakeFile) pa_nil)))) (pss_one (ps_ret (C8.pe_mk (mk_File T) hr (by decide) rfl (pa_cons (pe_fld (pv 0) rfl) pa_nil)))) pss_nil)
      (pss_one (ps_ret (pe_ifExp (pt_val (pe_callB call_isi (by rfl) T.n_isinstance (by decide +kernel) (pa_cons (pv 0) (pa_cons (pcls T.g_MakeLink) pa_nil)))) pe_never pe_non)))), ?_⟩
    refine ⟨_, rfl, _, _, _, _, _, rfl, .own _, hP.ty T, kd_MkF T d, _, rfl, ?_⟩
    have rest : d.isMkF = false → d.isMkL = false → MadeV K H .non d → (tB (tCB (rIsi K) (tCons (tVar 0) (tCons (tC (.ref (He.ga K "MakeLink"))) tNil)))) [some (.ref p)] H fun b H1 => if b = true then tNeverE [some (.ref p)] H1 Q else tC .non [some (.ref p)] H1 Q := fun _ _ hm =>
      ⟨_, rfl, _, _, _, _, _, rfl, .own _, hP.ty T, kd_Link T d, _, rfl, iteF (q _ _ (Same.refl _) hm)⟩
    cases d with
    | mkF f k o =>
      obtain ⟨dx, e⟩ := hP
      refine iteT ⟨_, rfl, p, _, dx, _, _, rfl, e, T.c_MakeFolder, T.a_MakeFolder_owner, rfl, (by show 0 ≤ sizeLine; decide), fun b nb x dx2 nx ndx ne => ?_⟩
      have s1 := same_new (o := .tup []) nb
      exact ⟨(o, b, []), _, x, dx2, rfl, rfl, nx, ndx, ne, ⟨[], .inr (SqT.of upd_same), .nil, by simp, by simp, by simp⟩, fun H3 s3 hN => ⟨rfl, q _ _ (s1.trans s3) ⟨x, rfl, hN⟩⟩⟩
    | mkL f k o =>
      refine iteF ⟨_, rfl, _, _, _, _, _, rfl, .own _, hP.ty T, kd_MkL T _, _, rfl, ?_⟩
      obtain ⟨dx, e⟩ := hP
      refine iteT ⟨_, rfl, p, _, dx, _, _, rfl, e, T.c_MakeFile, T.a_MakeFile_owner, rfl, fun x dx2 nx ndx ne => ?_⟩
      exact ⟨o, _, x, dx2, rfl, rfl, nx, ndx, ne, True.intro, fun H3 s3 hN => ⟨rfl, q _ _ s3 ⟨x, rfl, hN⟩⟩⟩
    | _ => exact iteF ⟨_, rfl, _, _, _, _, _, rfl, .own _, hP.ty T, kd_MkL T _, _, rfl, iteF (rest rfl rfl rfl)⟩
end
end NW
set_option Elab.async false
set_option linter.all false
set_option maxRecDepth 100000
set_option maxHeartbeats 1000000
/-! W12: done, trees. -/
namespace NW
open PySem PySem.Spec PyProof.Rows L2
theorem set_get {t : Tr} {f : Nat} {nd : Nd} (hf : f < t.length) (i : Nat) : (t.set f nd)[i]? = if i = f then some nd else t[i]? := by
  rw [List.getElem?_set]
  by_cases c : f = i
  · subst c
    rw [if_pos rfl, if_pos hf, if_pos rfl]
  · rw [if_neg c, if_neg fun z => c z.symm]
theorem fol_srt {t : Tr} (wf : WF t) {f : Nat} {o : Int} {es : List (Nat × Nat)} (h : t[f]? = some (.fol o es)) : Srt es ∧ (∀ e ∈ es, e.1 < 4) ∧ ents t f = es := by
  have e : ents t f = es := ents_at h
  exact ⟨by rw [← e]; exact wf.srt f, fun x hx => (wf.ent f x.1 x.2 (by rw [e]; exact hx)).1, e⟩
section
variable {P : Program} {w : World} {K : Frag} {mg : Str → Option Value} {base : Heap}
def spDone (K : Frag) : Sp := fun vs H Q _ => ∃ (t t' : Tr) (d : Dd), spStep K t d t' vs H ∧ WF t' ∧ t'.length ≤ 1000 ∧ ∀ r H', Same H H' → PTree K H' r t' → Q (.ref r) H'
theorem sc_done : FnScope ["tree", "deed", "why", "nodes", "made", "node"] ["tree", "deed"] (defScope s_done) := ⟨rfl, rfl, rfl, by decide +kernel, rfl, by decide +kernel, by decide +kernel⟩
theorem ok_done (T : Txt K mg) : Cal P w K mg base 8 "done" (spDone K) [] := by
  refine cal T.f_done T.g_done sc_done (fun _ _ _ _ _ _ us hl => match us, hl with | [_, _], _ => rfl) (fun vs H Q E h => ?_) (fun cdv A outer s H vs Q E hr h => ?_)
  · obtain ⟨t, t', d, ⟨a, p, rfl, _⟩, _⟩ := h
    rfl
  · obtain ⟨t, t', d, ⟨a, p, rfl, hT, hP, wf, hlen, hst⟩, wf', hlen', q⟩ := h
    have nd := sc_done.nd
    obtain ⟨hf, hk⟩ := hst.f
    have hfp : isP t d.f = true := by unfold isP; rw [hf]; rfl
    have fold : ∀ {X : Cx} {f n : Str}, True := fun {_ _ _} => True.intro
    refine ⟨_, pss_cons (ps_set (i := 2) nd rfl (Or.inl rfl) (C8.pe_c (ok_wrong_deed T) hr (by decide) rfl (pa_cons (pv 0) (pa_cons (pv 1) pa_nil))))
      (pss_cons (ps_if (pt_cmpR op_notN (pv 2) pe_non (nomark _)) pss_never pss_nil)
      (pss_cons (ps_par (i := 3) (j := 4) rfl nd rfl rfl (by decide) rfl rfl (pa_cons (pe_callTy call_list_of (by rfl) T.n_list (by decide +kernel) (pa_cons (pe_fld (pv 0) rfl) pa_nil)) (pa_cons (C8.pe_c (ok_made_node T) hr (by decide) rfl (pa_cons (pv 1) pa_nil)) pa_nil)) (by rfl))
      (C8.pss_cut (ps_if (pt_cmpR op_notN (pv 4) pe_non (nomark _))
        (pss_cons (ps_expr (pe_bm PySem.F.plainAttrs_list PySem.F.slot_list_append PySem.F.type_list_append mt_append (pv 3) (pa_cons (pv 4) pa_nil)))
          (pss_one (ps_expr (C8.pe_c (ok_with_entry T) hr (by decide) rfl (pa_cons (pv 3) (pa_cons (pe_fld (pv 1) rfl) (pa_cons (pe_fld (pv 1) rfl) (pa_cons (pe_op op_sub (pe_callB call_len_seq (by rfl) T.n_len PySem.boot_len (pa_cons (pv 3) pa_nil)) pe_int) pa_nil))))))))
        (pss_one (ps_if (pt_val (pe_callB call_isi (by rfl) T.n_isinstance (by decide +kernel) (pa_cons (pv 1) (pa_cons (pcls T.g_Put) pa_nil))))
          (pss_one (ps_expr (C8.pe_c (ok_with_entry T) hr (by decide) rfl (pa_cons (pv 3) (pa_cons (pe_fld (pv 1) rfl) (pa_cons (pe_fld (pv 1) rfl) (pa_cons (pe_fld (pv 1) rfl) pa_nil)))))))
          (pss_cons (ps_set (i := 5) nd rfl (Or.inl rfl) (C8.pe_c (ok_node_at T) hr (by decide) rfl (pa_cons (pv 0) (pa_cons (pe_fld (pv 1) rfl) (pa_cons (pe_fld (pv 1) rfl) pa_nil)))))
          (pss_cons (ps_expr (C8.pe_c (ok_without_entry T) hr (by decide) rfl (pa_cons (pv 3) (pa_cons (pe_fld (pv 1) rfl) (pa_cons (pe_fld (pv 1) rfl) pa_nil)))))
          (pss_one (ps_if (pt_val (pe_callB call_isi (by rfl) T.n_isinstance (by decide +kernel) (pa_cons (pv 1) (pa_cons (pcls T.g_Move) pa_nil))))
            (pss_one (ps_expr (C8.pe_c (ok_with_entry T) hr (by decide) rfl (pa_cons (pv 3) (pa_cons (pe_fld (pv 1) rfl) (pa_cons (pe_fld (pv 1) rfl) (pa_cons (pv 5) pa_nil)))))))
            (pss_one (ps_if (pt_val (pe_callB call_isi (by rfl) T.n_isinstance (by decide +kernel) (pa_cons (pe_ix ix_list (pv 3) (pv 5) (fun _ _ => rfl)) (pa_cons (pcls T.g_Folder) pa_nil))))
              (pss_one (ps_asg (C8.pe_mk (mk_Gone T) hr (by decide) rfl (pa_cons (pe_fld (pe_ix ix_list (pv 3) (pv 5) (fun _ _ => rfl)) rfl) (pa_cons (pe_fld (pv 1) rfl) pa_nil))) (pg_sub (pv 3) (pv 5) set_list)))
              pss_nil)))))))))
      (pss_one (ps_ret (C8.pe_mk (mk_Tree T) hr (by decide) rfl (pa_cons (pv 3) pa_nil))))))), ?_⟩
    obtain ⟨C1, dx1, fs1, f1, f2, f3, f4⟩ := dFolder T hP
    obtain ⟨C2, dx2, fs2, n1, n2, n3, n4⟩ := dName T hP
    refine ⟨_, rfl, _, rfl, t, t', d, ⟨a, p, rfl, hT, hP, wf, hlen, hst⟩, fun H1 s1 => ?_⟩
    refine ⟨_, rfl, rfl, _, rfl, iteF ?_⟩
    obtain ⟨dx, tp, ps, h1, h2, h3⟩ := hT.gx (sgx s1)
    refine ⟨_, rfl, a, _, dx, _, _, rfl, h1, T.c_Tree, T.a_Tree_nodes, rfl, tp, _, rfl, .inr (SqT.of h2), fun l nl => ?_⟩
    have s2 := snew (o := .lst (ps.map V.ref)) s1 nl
    have hl0 : upd H1 l (.lst (ps.map V.ref)) l = some (.lst (ps.map V.ref)) := upd_same
    have n0 : H l = none := s1.free nl
    have h3' : Paired (PNode K (upd H1 l (.lst (ps.map V.ref)))) ps t := Pmap h3 fun _ _ => PNode.fx (sfx (same_new nl))
    generalize upd H1 l (.lst (ps.map V.ref)) = H2 at s2 hl0 h3'
    refine ⟨_, rfl, p, d, rfl, hP.fx (sfx s2), fun v H3 s3 hv => ⟨_, _, rfl, ?_⟩⟩
    have s13 := s2.trans s3
    have hl3 := s3 _ _ hl0
    have h33 : Paired (PNode K H3) ps t := Pmap h3' fun _ _ => PNode.fx (sfx s3)
    have hP3 := hP.fx (sfx s13)
    have hsb : ∀ {H' : Hp}, Sb l H3 H' → PDeed K H' p d ∧ Same H H' := fun {H'} sb => ⟨hP3.fx (sb.fx hl3), sbSame s13 n0 sb⟩
    refine ⟨fun σ' H' => (∃ x4 x5, σ' = [some (.ref a), some (.ref p), some .non, some (.ref l), x4, x5]) ∧ Same H H' ∧ NL K H' l t', ?_, ?_⟩
    · have app : ∀ (x : Addr) (nd : Nd), PNode K H3 x nd → ∃ H4, H4 = upd H3 l (.lst (ps.map V.ref ++ [V.ref x])) ∧ Sb l H3 H4 ∧ NL K H4 l (t ++ [nd]) ∧ SqL K H4 l (ps.map V.ref ++ [V.ref x]) := fun x nd hx => by
        have s4 : Sb l H3 (upd H3 l (.lst (ps.map V.ref ++ [V.ref x]))) := sb_upd
        have f4 := s4.fx hl3
        refine ⟨_, rfl, s4, ⟨ps ++ [x], by rw [upd_same, List.map_append]; rfl, Paired.snoc (Pmap h33 fun _ _ => PNode.fx f4) (hx.fx f4)⟩, SqL.of upd_same⟩
      have lps : (ps.map V.ref).length = t.length := by rw [List.length_map, Plen h33]
      have fin : ∀ (H' : Hp) (x4 x5 : Option V), Sb l H3 H' → NL K H' l t' → (∃ y4 y5, [some (V.ref a), some (.ref p), some .non, some (.ref l), x4, x5] = [some (.ref a), some (.ref p), some .non, some (.ref l), y4, y5]) ∧ Same H H' ∧ NL K H' l t' := fun H' x4 x5 sb nl => ⟨⟨x4, x5, rfl⟩, (hsb sb).2, nl⟩
      have lt : t.length < sizeLine := Nat.lt_of_le_of_lt hlen (by decide)
      cases hst with
      | @mkF f k o hf1 hk1 ho1 hno =>
        obtain ⟨x, rfl, hx⟩ := hv
        obtain ⟨H4, e4, s4, nl4, sq4⟩ := app x _ hx
        obtain ⟨oo, ht⟩ := isF_fol hf1
        obtain ⟨hs, h4, he⟩ := fol_srt wf ht
        have ltf := (List.getElem?_eq_some_iff.mp ht).1
        obtain ⟨dd, hp4⟩ := (hsb s4).1
        refine ⟨_, rfl, rfl, _, rfl, iteT ⟨_, rfl, .inl ⟨rfl, _, SqL.of hl3⟩, _, rfl, l, _, _, rfl, rfl, hl3, by rw [lps]; exact lt, ?_⟩⟩
        rw [← e4]
        refine ⟨_, rfl, _, rfl, p, _, dd, _, _, rfl, hp4, T.c_MakeFolder, T.a_MakeFolder_folder, rfl, _, rfl, p, _, dd, _, _, rfl, hp4, T.c_MakeFolder, T.a_MakeFolder_name, rfl, _, rfl, l, _, rfl, .inl sq4, _, _, rfl, rfl, ?_⟩
        refine ⟨l, f, k, t.length, _, oo, _, ?_, nl4, ?_, hs, h4, hk1, hno, fun H' sb nl => fin H' _ _ (s4.trans sb) nl⟩
        · rw [List.length_append, lps]
          simp
        · rw [List.getElem?_append_left ltf]
          exact ht
      | @mkL f k o hf1 hk1 ho1 hno =>
        obtain ⟨x, rfl, hx⟩ := hv
        obtain ⟨H4, e4, s4, nl4, sq4⟩ := app x _ hx
        obtain ⟨oo, ht⟩ := isF_fol hf1
        obtain ⟨hs, h4, he⟩ := fol_srt wf ht
        have ltf := (List.getElem?_eq_some_iff.mp ht).1
        obtain ⟨dd, hp4⟩ := (hsb s4).1
        refine ⟨_, rfl, rfl, _, rfl, iteT ⟨_, rfl, .inl ⟨rfl, _, SqL.of hl3⟩, _, rfl, l, _, _, rfl, rfl, hl3, by rw [lps]; exact lt, ?_⟩⟩
        rw [← e4]
        refine ⟨_, rfl, _, rfl, p, _, dd, _, _, rfl, hp4, T.c_MakeFile, T.a_MakeFile_folder, rfl, _, rfl, p, _, dd, _, _, rfl, hp4, T.c_MakeFile, T.a_MakeFile_name, rfl, _, rfl, l, _, rfl, .inl sq4, _, _, rfl, rfl, ?_⟩
        refine ⟨l, f, k, t.length, _, oo, _, ?_, nl4, ?_, hs, h4, hk1, hno, fun H' sb nl => fin H' _ _ (s4.trans sb) nl⟩
        · rw [List.length_append, lps]
          simp
        · rw [List.getElem?_append_left ltf]
          exact ht
      | @put f k n o hf1 hk1 hn1 hno => 
        subst hv
        obtain ⟨oo, ht⟩ := isF_fol hf1
        obtain ⟨hs, h4, he⟩ := fol_srt wf ht
        obtain ⟨dd, hp4⟩ := id hP3
        refine ⟨_, rfl, rfl, _, rfl, iteF ⟨_, rfl, _, _, _, _, _, rfl, .own _, hP3.ty T, kd_Put T _, _, rfl, iteT ?_⟩⟩
        refine ⟨_, rfl, _, rfl, p, _, dd, _, _, rfl, hp4, T.c_Put, T.a_Put_folder, rfl, _, rfl, p, _, dd, _, _, rfl, hp4, T.c_Put, T.a_Put_name, rfl, _, rfl, p, _, dd, _, _, rfl, hp4, T.c_Put, T.a_Put_node, rfl, ?_⟩
        exact ⟨l, f, k, n, _, oo, _, rfl, ⟨ps, hl3, h33⟩, ht, hs, h4, hk1, hno, fun H' sb nl => fin H' _ _ sb nl⟩
      | @takeF f k n o hf1 hk1 hlk hn1 =>
        subst hv
        obtain ⟨oo, ht⟩ := isF_fol hf1
        obtain ⟨hs, h4, he⟩ := fol_srt wf ht
        obtain ⟨dd, hp4⟩ := id hP3
        have ltf := (List.getElem?_eq_some_iff.mp ht).1
        refine ⟨_, rfl, rfl, _, rfl, iteF ⟨_, rfl, _, _, _, _, _, rfl, .own _, hP3.ty T, kd_Put T _, _, rfl, iteF ?_⟩⟩
        refine ⟨_, rfl, _, rfl, p, _, dd, _, _, rfl, hp4, T.c_Take, T.a_Take_folder, rfl, _, rfl, p, _, dd, _, _, rfl, hp4, T.c_Take, T.a_Take_name, rfl, ?_⟩
        refine ⟨a, t, f, k, rfl, hT.gx (sgx s13), wf, hfp, hk1, fun H5 s5 => ?_⟩
        rw [hlk]
        have hp5 := s5 _ _ hp4
        have nl5 := NL.same s5 ⟨ps, hl3, h33⟩
        obtain ⟨ps5, hl5, h55⟩ := id nl5
        refine ⟨_, rfl, _, rfl, p, _, dd, _, _, rfl, hp5, T.c_Take, T.a_Take_folder, rfl, _, rfl, p, _, dd, _, _, rfl, hp5, T.c_Take, T.a_Take_name, rfl, ?_⟩
        refine ⟨l, f, k, t, oo, _, rfl, nl5, ht, hs, h4, hk1, fun H6 s6 nl6 => ?_⟩
        have s36 : Sb l H3 H6 := ((ssb s5 l).trans s6)
        obtain ⟨ps6, hl6, h66⟩ := id nl6
        have lt6 : (delEnt t f k).length = t.length := by rw [delEnt_at ht, List.length_set]
        have hP6 := (hsb s36).1
        obtain ⟨dd6, hp6⟩ := id hP6
        have hne : n ≠ f := ?_
        have hn6 : (delEnt t f k)[n]? = t[n]? := by rw [delEnt_at ht, set_get ltf, if_neg hne]
        refine ⟨_, rfl, _, _, _, _, _, rfl, .own _, hP6.ty T, kd_Move T _, _, rfl, iteF ?_⟩
        rw [hn1] at hn6
        obtain ⟨x, hx1, hx2⟩ := node_at h66 hn6
        refine ⟨_, rfl, _, rfl, l, _, _, _, rfl, rfl, SqL.of hl6, hx1, _, _, _, _, _, rfl, .own _, hx2.ty T, T.t_Folder_Folder, _, rfl, iteT ?_⟩
        obtain ⟨dn, en, qn, gn1, gn2, gn3⟩ := id hx2
        refine ⟨_, rfl, _, rfl, l, _, _, _, rfl, rfl, SqL.of hl6, hx1, x, _, dn, _, _, rfl, gn1, T.c_Folder, T.a_Folder_owner, rfl, _, rfl, p, _, dd6, _, _, rfl, hp6, T.c_Take, T.a_Take_folder, rfl, fun y dy ny ndy ney => ?_⟩
        refine ⟨(.int o, .int f), _, y, dy, rfl, rfl, ny, ndy, ney, True.intro, fun H7 s7 hG => ⟨rfl, ?_⟩⟩
        have hl7 := s7 _ _ hl6
        refine ⟨_, rfl, _, rfl, l, _, _, _, rfl, rfl, hl7, ixN_nat (by rw [List.length_map, Plen h66, lt6]; exact (List.getElem?_eq_some_iff.mp hn1).1), ?_⟩
        exact fin _ _ _ ((s36.trans (ssb s7 l)).put) (NL.put hl7 (Pmap h66 fun _ _ => PNode.fx (sfx s7)) hG)
        · rintro rfl
          rw [ents_at hn1] at hlk
          cases hlk
      | @takeL f k n o hf1 hk1 hlk hn1 =>
        subst hv
        obtain ⟨oo, ht⟩ := isF_fol hf1
        obtain ⟨hs, h4, he⟩ := fol_srt wf ht
        obtain ⟨dd, hp4⟩ := id hP3
        have ltf := (List.getElem?_eq_some_iff.mp ht).1
        refine ⟨_, rfl, rfl, _, rfl, iteF ⟨_, rfl, _, _, _, _, _, rfl, .own _, hP3.ty T, kd_Put T _, _, rfl, iteF ?_⟩⟩
        refine ⟨_, rfl, _, rfl, p, _, dd, _, _, rfl, hp4, T.c_Take, T.a_Take_folder, rfl, _, rfl, p, _, dd, _, _, rfl, hp4, T.c_Take, T.a_Take_name, rfl, ?_⟩
        refine ⟨a, t, f, k, rfl, hT.gx (sgx s13), wf, hfp, hk1, fun H5 s5 => ?_⟩
        rw [hlk]
        have hp5 := s5 _ _ hp4
        have nl5 := NL.same s5 ⟨ps, hl3, h33⟩
        obtain ⟨ps5, hl5, h55⟩ := id nl5
        refine ⟨_, rfl, _, rfl, p, _, dd, _, _, rfl, hp5, T.c_Take, T.a_Take_folder, rfl, _, rfl, p, _, dd, _, _, rfl, hp5, T.c_Take, T.a_Take_name, rfl, ?_⟩
        refine ⟨l, f, k, t, oo, _, rfl, nl5, ht, hs, h4, hk1, fun H6 s6 nl6 => ?_⟩
        have s36 : Sb l H3 H6 := ((ssb s5 l).trans s6)
        obtain ⟨ps6, hl6, h66⟩ := id nl6
        have lt6 : (delEnt t f k).length = t.length := by rw [delEnt_at ht, List.length_set]
        have hP6 := (hsb s36).1
        obtain ⟨dd6, hp6⟩ := id hP6
        have hne : n ≠ f := ?_
        have hn6 : (delEnt t f k)[n]? = t[n]? := by rw [delEnt_at ht, set_get ltf, if_neg hne]
        refine ⟨_, rfl, _, _, _, _, _, rfl, .own _, hP6.ty T, kd_Move T _, _, rfl, iteF ?_⟩
        rw [hn1] at hn6
        obtain ⟨x, hx1, hx2⟩ := node_at h66 hn6
        refine ⟨_, rfl, _, rfl, l, _, _, _, rfl, rfl, SqL.of hl6, hx1, _, _, _, _, _, rfl, .own _, hx2.ty T, T.t_File_Folder, _, rfl, iteF ?_⟩
        exact fin _ _ _ s36 nl6
        · rintro rfl
          rw [ht] at hn1
          cases hn1
      | @move f k g j n hf1 hk1 hg1 hj1 hlk hno hb =>
        subst hv
        obtain ⟨oo, ht⟩ := isF_fol hf1
        obtain ⟨hs, h4, he⟩ := fol_srt wf ht
        obtain ⟨dd, hp4⟩ := id hP3
        have ltf := (List.getElem?_eq_some_iff.mp ht).1
        refine ⟨_, rfl, rfl, _, rfl, iteF ⟨_, rfl, _, _, _, _, _, rfl, .own _, hP3.ty T, kd_Put T _, _, rfl, iteF ?_⟩⟩
        refine ⟨_, rfl, _, rfl, p, _, dd, _, _, rfl, hp4, T.c_Move, T.a_Move_folder, rfl, _, rfl, p, _, dd, _, _, rfl, hp4, T.c_Move, T.a_Move_name, rfl, ?_⟩
        refine ⟨a, t, f, k, rfl, hT.gx (sgx s13), wf, hfp, hk1, fun H5 s5 => ?_⟩
        rw [hlk]
        have hp5 := s5 _ _ hp4
        have nl5 := NL.same s5 ⟨ps, hl3, h33⟩
        obtain ⟨ps5, hl5, h55⟩ := id nl5
        refine ⟨_, rfl, _, rfl, p, _, dd, _, _, rfl, hp5, T.c_Move, T.a_Move_folder, rfl, _, rfl, p, _, dd, _, _, rfl, hp5, T.c_Move, T.a_Move_name, rfl, ?_⟩
        refine ⟨l, f, k, t, oo, _, rfl, nl5, ht, hs, h4, hk1, fun H6 s6 nl6 => ?_⟩
        have s36 : Sb l H3 H6 := ((ssb s5 l).trans s6)
        obtain ⟨ps6, hl6, h66⟩ := id nl6
        have lt6 : (delEnt t f k).length = t.length := by rw [delEnt_at ht, List.length_set]
        have hP6 := (hsb s36).1
        obtain ⟨dd6, hp6⟩ := id hP6
        refine ⟨_, rfl, _, _, _, _, _, rfl, .own _, hP6.ty T, kd_Move T _, _, rfl, iteT ?_⟩
        refine ⟨_, rfl, _, rfl, p, _, dd6, _, _, rfl, hp6, T.c_Move, T.a_Move_goal, rfl, _, rfl, p, _, dd6, _, _, rfl, hp6, T.c_Move, T.a_Move_other, rfl, _, rfl, ?_⟩
        obtain ⟨og, hg⟩ := isF_fol hg1
        obtain ⟨gs, g4, ge⟩ := fol_srt wf hg
        have hgd : ∃ eg, (delEnt t f k)[g]? = some (.fol og eg) ∧ Srt eg ∧ (∀ e ∈ eg, e.1 < 4) ∧ lookE j eg = none := by
          rw [delEnt_at ht, set_get ltf]
          by_cases c : g = f
          · subst c
            rw [ht] at hg
            cases hg
            refine ⟨_, if_pos rfl, delE_srt gs, fun e he => g4 e (List.mem_filter.mp he).1, lookE_none.mpr fun e he => lookE_none.mp hno e (List.mem_filter.mp he).1⟩
          · exact ⟨_, by rw [if_neg c]; exact hg, gs, g4, hno⟩
        obtain ⟨eg, q1, q2, q3, q4⟩ := hgd
        exact ⟨l, g, j, n, _, og, eg, rfl, nl6, q1, q2, q3, hj1, q4, fun H7 s7 nl7 => fin _ _ _ (s36.trans s7) nl7⟩
    · rintro σ' H' ⟨⟨x4, x5, rfl⟩, s', ⟨ps', g1, g2⟩⟩
      refine ⟨_, rfl, fun x dx3 nx ndx ne => ⟨(l, t'), H', x, dx3, rfl, rfl, nx, ndx, ne, ⟨⟨ps', SqL.of g1, g2⟩, wf', hlen'⟩, fun H4 s4 hT4 => ⟨rfl, q _ _ (s'.trans s4) hT4⟩⟩⟩
end
end NW
set_option Elab.async false
set_option linter.all false
set_option maxRecDepth 100000
set_option maxHeartbeats 1000000
/-! W13: trees. -/
namespace NW
open PySem PySem.Spec PyProof.Rows L2
theorem Row.len {ts : List Tr} {ds : List Dd} (h : Row ts ds) : ts.length = ds.length + 1 := by
  induction h with
  | one t _ => rfl
  | cons _ _ _ ih => simp only [List.length_cons] at ih ⊢; omega
theorem Row.wf {ts : List Tr} {ds : List Dd} (h : Row ts ds) : ∀ t ∈ ts, WF t := by
  induction h with
  | one t w => intro x hx; simp at hx; subst hx; exact w
  | cons w _ _ ih =>
    intro x hx
    rcases List.mem_cons.mp hx with rfl | hx
    · exact w
    · exact ih x hx
theorem Row.step {ts : List Tr} {ds : List Dd} (h : Row ts ds) : ∀ {i : Nat} {d : Dd}, ds[i]? = some d → ∃ t t', ts[i]? = some t ∧ ts[i + 1]? = some t' ∧ Step t d t' := by
  induction h with
  | one t w => intro i d e; simp at e
  | cons w s r ih =>
    intro i d e
    cases i with
    | zero =>
      simp at e
      subst e
      exact ⟨_, _, rfl, rfl, s⟩
    | succ i => exact ih (i := i) (by simpa using e)
def RowOk (ts : List Tr) (ds : List Dd) : Prop := Row ts ds ∧ (∀ t ∈ ts, t.length ≤ 1000) ∧ ds.length ≤ 100
theorem Psplit {α β : Type} {F : α → β → Prop} : ∀ {l : List α} {m : List β} {b : β}, Paired F l (m ++ [b]) → ∃ l0 a, l = l0 ++ [a] ∧ Paired F l0 m ∧ F a b
  | _, [], _, .cons h .nil => ⟨[], _, rfl, .nil, h⟩
  | _, _ :: m, b, .cons h t => by
    obtain ⟨l0, a, e, h1, h2⟩ := Psplit (m := m) t
    subst e
    exact ⟨_ :: l0, a, rfl, .cons h h1, h2⟩
section
variable {P : Program} {w : World} {K : Frag} {mg : Str → Option Value} {base : Heap}
/-- the trees of a row, one by one -/
def PRow (K : Frag) (H : Hp) (r : Addr) (ts : List Tr) : Prop := ∃ rs : List Addr, H r = some (.lst (rs.map V.ref)) ∧ Paired (PTree K H) rs ts
def PDeeds (K : Frag) (H : Hp) (b : Addr) (ds : List Dd) : Prop := ∃ qs : List Addr, SqL K H b (qs.map V.ref) ∧ Paired (PDeed K H) qs ds
theorem PDeeds.same {H H' : Hp} {b : Addr} {ds : List Dd} (s : Same H H') (h : PDeeds K H b ds) : PDeeds K H' b ds := let ⟨qs, h1, h2⟩ := h; ⟨qs, s.seq h1, Pmap h2 fun _ _ => PDeed.fx (sfx s)⟩
theorem PRow.same {H H' : Hp} {b : Addr} {ts : List Tr} (s : Same H H') (h : PRow K H b ts) : PRow K H' b ts := let ⟨qs, h1, h2⟩ := h; ⟨qs, s _ _ h1, Pmap h2 fun _ _ => PTree.fx (sfx s)⟩
def spTrees (K : Frag) : Sp := fun vs H Q _ => ∃ (a b : Addr) (t : Tr) (ts : List Tr) (ds : List Dd), vs = [.ref a, .ref b] ∧ RowOk (t :: ts) ds ∧ PTree K H a t ∧ PDeeds K H b ds ∧ ∀ r H', Same H H' → H r = none → PRow K H' r (t :: ts) → Q (.ref r) H'
theorem sc_trees : FnScope ["tree", "deeds", "found", "index", "deed", "why"] ["tree", "deeds"] (defScope s_trees) := ⟨rfl, rfl, rfl, by decide +kernel, rfl, by decide +kernel, by decide +kernel⟩
theorem ok_trees (T : Txt K mg) : Cal P w K mg base 9 "trees" (spTrees K) [] := by
  refine cal T.f_trees T.g_trees sc_trees (fun _ _ _ _ _ _ us hl => match us, hl with | [_, _], _ => rfl) (fun vs H Q E h => ?_) (fun cdv A outer s H vs Q E hr h => ?_)
  · obtain ⟨a, b, t, ts, ds, rfl, _⟩ := h
    rfl
  · obtain ⟨a, b, t, ts, ds, rfl, hR, hT, ⟨qs, hb, hq⟩, q⟩ := h
    have nd := sc_trees.nd
    refine ⟨_, pss_cons (ps_set (i := 2) nd rfl (Or.inl rfl) (pe_lst (pa_cons (pv 0) pa_nil)))
      (pss_cons (ps_for PassesOwn.never rfl (pi_enum (by rfl) T.n_enumerate (pa_cons (pv 1) pa_nil)) (pg_tup rfl (pgs_cons (pg_name (i := 3) nd rfl (Or.inl rfl)) (pgs_cons (pg_name (i := 4) nd rfl (Or.inl rfl)) pgs_nil)))
        (pss_cons (ps_set (i := 5) nd rfl (Or.inl rfl) (C8.pe_c (ok_wrong_deed T) hr (by decide) rfl (pa_cons (pe_ix (r := rIxL K) ix_list (pv 2) (pe_un un_neg pe_int) (fun _ _ => rfl)) (pa_cons (pv 4) pa_nil))))
        (pss_cons (ps_if (pt_cmpR op_notN (pv 5) pe_non (nomark _)) pss_never pss_nil)
        (pss_one (ps_expr (pe_bm PySem.F.plainAttrs_list PySem.F.slot_list_append PySem.F.type_list_append mt_append (pv 2) (pa_cons (C8.pe_c (ok_done T) hr (by decide) rfl (pa_cons (pe_ix (r := rIxL K) ix_list (pv 2) (pe_un un_neg pe_int) (fun _ _ => rfl)) (pa_cons (pv 4) pa_nil))) pa_nil)))))))
      (pss_one (ps_ret (pv 2)))), ?_⟩
    refine ⟨_, rfl, (by show 1 ≤ sizeLine; decide), fun D nD => ?_⟩
    have s1 := same_new (o := .lst [.ref a]) nD
    have hD : upd H D (.lst [.ref a]) D = some (.lst ([a].map V.ref)) := upd_same
    generalize upd H D (.lst [.ref a]) = H1 at s1 hD
    have nDb : ∀ {o : HO}, H1 b = some o → H b = some o → b ≠ D := fun h1 h0 => ne_of_none h0 nD
    have hbl : qs.length = ds.length := Plen hq
    have hb1 := s1.seq hb
    have key := hR.1.len
    refine ⟨_, rfl, b, _, rfl, hb1, for_it walk_enum (fun i σ Hi => Same H Hi ∧ (∃ rs, Hi D = some (.lst (rs.map V.ref)) ∧ Paired (PTree K Hi) rs ((t :: ts).take (i + 1))) ∧ ∃ x3 x4 x5, σ = [some (.ref a), some (.ref b), some (.ref D), x3, x4, x5]) ⟨s1, ⟨[a], hD, .cons (hT.gx (sgx s1)) .nil⟩, _, _, _, rfl⟩ (fun i σ Hi _ h => h.1.seq hb) (fun i x σ Hi Hj hi hI hy => ?_) (fun σ Hi hI => ?_)⟩
    · obtain ⟨sHi, ⟨rs, hrs, hP⟩, x3, x4, x5, rfl⟩ := hI
      rw [List.length_map, hbl] at hi
      obtain ⟨u, x, y, rfl, nu, rfl, ex, ey⟩ := hy
      cases ex
      dsimp only at ey
      rw [List.getElem?_map] at ey
      cases hqi : qs[i]? with
      | none => rw [hqi] at ey; cases ey
      | some p =>
        rw [hqi] at ey
        cases ey
        obtain ⟨d, hd, hpd⟩ := Pget' hq hqi
        obtain ⟨t1, t2, e1, e2, hst⟩ := hR.1.step hd
        have su := same_new (o := .tup [.int (i : Nat), .ref p]) nu
        have hu : upd Hi u (.tup [.int (i : Nat), .ref p]) u = some (.tup [.int (i : Nat), .ref p]) := upd_same
        generalize upd Hi u (.tup [.int (i : Nat), .ref p]) = H2 at su hu
        have s02 := sHi.trans su
        have etk : (t :: ts).take (i + 1 + 1) = (t :: ts).take (i + 1) ++ [t2] := by rw [List.take_succ (i := i + 1), e2]; rfl
        have etk1 : (t :: ts).take (i + 1) = (t :: ts).take i ++ [t1] := by rw [List.take_succ, e1]; rfl
        obtain ⟨rs0, r1, rfl, hP0, hr1⟩ : ∃ rs0 r1, rs = rs0 ++ [r1] ∧ Paired (PTree K Hi) rs0 ((t :: ts).take i) ∧ PTree K Hi r1 t1 := by
          rw [etk1] at hP
          exact Psplit hP
        have rl : rs0.length = i := by
          rw [Plen hP0, List.length_take]
          omega
        have elast : atI ((rs0 ++ [r1]).map V.ref) (-1) = some (.ref r1) := by
          rw [List.map_append]
          exact atI_last _ _
        have hrs2 := su _ _ hrs
        have hl1 : t1.length ≤ 1000 := hR.2.1 _ (List.mem_of_getElem? e1)
        have hl2 : t2.length ≤ 1000 := hR.2.1 _ (List.mem_of_getElem? e2)
        have w1 : WF t1 := hR.1.wf _ (List.mem_of_getElem? e1)
        have w2 : WF t2 := hR.1.wf _ (List.mem_of_getElem? e2)
        have st2 : spStep K t1 d t2 [.ref r1, .ref p] H2 := ⟨r1, p, rfl, hr1.gx (sgx su), hpd.fx (sfx s02), w1, hl1, hst⟩
        refine ⟨u, _, rfl, SqT.of hu, rfl, _, _, rfl, _, _, rfl, rfl, ?_⟩
        refine ⟨_, rfl, _, rfl, D, _, _, _, rfl, rfl, SqL.of hrs2, elast, _, rfl, t1, t2, d, st2, fun H3 s3 => ?_⟩
        refine ⟨_, rfl, rfl, _, rfl, iteF ?_⟩
        have hrs3 := s3 _ _ hrs2
        refine ⟨_, rfl, .inl ⟨rfl, _, SqL.of hrs3⟩, _, rfl, _, rfl, D, _, _, _, rfl, rfl, SqL.of hrs3, elast, _, rfl, t1, t2, d, ⟨r1, p, rfl, hr1.gx (sgx (su.trans s3)), hpd.fx (sfx (s02.trans s3)), w1, hl1, hst⟩, w2, hl2, fun r H4 s4 hr4 => ?_⟩
        have hrs4 := s4 _ _ hrs3
        refine ⟨D, _, _, rfl, rfl, hrs4, ?_, sput ((s02.trans s3).trans s4) nD, ⟨rs0 ++ [r1] ++ [r], ?_, ?_⟩, _, _, _, rfl⟩
        · rw [List.length_map, List.length_append, List.length_singleton, rl]
          have := hR.2.2
          exact Nat.lt_of_le_of_lt (by omega : _ ≤ 100) (by decide)
        · rw [upd_same, List.map_append (l₁ := rs0 ++ [r1])]
          rfl
        · rw [etk]
          have f4 : Fx Hi (upd H4 D (.lst ((rs0 ++ [r1]).map V.ref ++ [V.ref r]))) := (sfx ((su.trans s3).trans s4)).trans (Sb.fx (sb_upd (r := D)) hrs4)
          exact Paired.snoc (Pmap hP fun _ _ => PTree.fx f4) (hr4.fx (Sb.fx (sb_upd (r := D)) hrs4))
    · obtain ⟨sHi, ⟨rs, hrs, hP⟩, x3, x4, x5, rfl⟩ := hI
      refine ⟨_, rfl, q D Hi sHi nD ⟨rs, hrs, ?_⟩⟩
      rw [List.length_map, hbl, ← key, List.take_length] at hP
      exact hP
end
end NW
set_option Elab.async false
set_option linter.all false
set_option maxRecDepth 100000
set_option maxHeartbeats 1000000
/-! W14: != of instances whose class inherits an own __eq__ (and object's __ne__). -/
namespace NW
open PySem PySem.Spec PyProof.Rows L2
section
variable {prog : Program} {w : World} {A : Around} {E : Value → Shared → Prop} {K : PySem.W.Frag} {x y C f : Addr} {h : Heap} {g : Array GenState} {d : Drawn} {t : Nat} {os : OsState} {ox oy : Obj} {od od' : Option Obj}
theorem ifBoundNe_K {M : Model} {args : List Value} {s : Shared} {Q : Option Value → Shared → Prop} (X : K.In s.heap) (I : PySem.W.InstAt s.heap x ox C od) (hs : PySem.W.findIn K (.ref C) "__ne__" = some (some (.builtin "object.__ne__")))
    (h : wpAny M A (call (.builtin "object.__ne__") (.ref x :: args)) (fun v => Q (some v)) E s) : wpAny M A (callSpecialIfBound? (.ref x) "__ne__" args) Q E s := by
  simp only [callSpecialIfBound?, bindSpecialIfBound?]
  refine wpAny_holding (wpAny_bind (wpAny_bind (wpAny_bind (I.type.here ((PySem.W.looks_findIn X hs).here ?_)))))
  simp only [PySem.F.cmp_object.ne.bind]
  refine wpAny_bind (wpAny_askSetting (wpAny_ite ?_))
  have fin : wpAny M A (call (.builtin "object.__ne__") ([.ref x] ++ args) >>= fun v => pure (some v)) Q E s := wpAny_bind (wpAny_mono h (fun v s' h' => wpAny_pure h') fun _ _ h' => h')
  split
  · exact wpAny_bind (wpAny_pure (wpAny_pure fin))
  · exact wpAny_tryCatch (wpAny_bind (wpAny_pure (wpAny_pure fin)))
theorem checkSlot_K {M : Model} {id owner n : String} {s : Shared} {rest : List Value} {Q : Unit → Shared → Prop} (hk : builtinKind id = some .slot) (hs : splitId id = some (owner, n)) (X : K.In s.heap) (I : PySem.W.InstAt s.heap x ox C od) (hm : PySem.W.mroIn K C (.type owner) = some true)
    (ha : argsOk id ⟨.ref x :: rest, []⟩) (hq : Q () s) : wpAny M A (checkBuiltinCall id ⟨.ref x :: rest, []⟩) Q E s := by
  simp only [checkBuiltinCall, hk, hs]
  refine wpAny_bind ?_
  · unfold isInstance
    refine wpAny_bind (I.type.here ((PySem.W.looks_mroIn X hm).here ?_))
    repeat (first | wp_step)
    cases hsig : Manifest.signature? id with
    | none => exact wpAny_pure hq
    | some sig =>
      simp only [argsOk, hsig] at ha
      have h2 : Bind.checkArgs id sig ⟨.ref x :: rest, []⟩ = pure () := ha
      show wpAny M A (Bind.checkArgs id sig ⟨.ref x :: rest, []⟩) Q E _
      rw [h2]; exact wpAny_pure hq
theorem objNe_K {Q : Fin → Shared → Prop} (X : K.In h) (I : PySem.W.InstAt h x ox C od) (he : PySem.W.findIn K (.ref C) "__eq__" = some (some (.ref f))) (hf : PySem.W.isFn K (.ref f) = true) (hu : A.units < cLine)
    (hcall : wpAny (model prog w) A (call (.ref f) [.ref x, .ref y]) (fun v s' => ∃ b, v = .bool b ∧ Q (.done (.ret (.bool (!b)))) s') E ⟨h, g, d, t, os⟩) :
    wpAny (model prog w) A (Builtin.«object.__ne__» ⟨[.ref x, .ref y], []⟩) Q E ⟨h, g, d, t, os⟩ := by
  unfold Builtin.«object.__ne__»
  repeat (first
    | with_reducible refine wpAny_cRoomFor hu ?_
    | (refine wpAny_bind (m := callSpecialIfBound? (.ref x) (Str.ofString "__eq__") [.ref y])
        (PySem.W.ifBound_K X I he hf (wpAny_mono hcall (fun r s' hr => by
          obtain ⟨b, rfl, hq⟩ := hr
          repeat (first | exact hq | exact wpAny_pure hq | exact wpAny_truthy_bool hq | (refine wpAny_bind (m := truthy (.bool _)) (wpAny_truthy_bool ?_)) | wp_step)) fun _ _ e => e)))
    | wp_step)
theorem ne_K {Q : Value → Shared → Prop} (X : K.In h) (I : PySem.W.InstAt h x ox C od) (J : PySem.W.InstAt h y oy C od') (hs : PySem.W.findIn K (.ref C) "__ne__" = some (some (.builtin "object.__ne__"))) (hm : PySem.W.mroIn K C (.type "object") = some true)
    (he : PySem.W.findIn K (.ref C) "__eq__" = some (some (.ref f))) (hf : PySem.W.isFn K (.ref f) = true) (hu : A.units + 1 < cLine)
    (hcall : wpAny (model prog w) A.in1 (call (.ref f) [.ref x, .ref y]) (fun v s' => ∃ b, v = .bool b ∧ Q (.bool (!b)) s') E ⟨h, g, d, t, os⟩) :
    wpAny (model prog w) A (richCompare .NotEq (.ref x) (.ref y)) Q E ⟨h, g, d, t, os⟩ := by
  have one : wpAny (model prog w) A (tryCompare (.ref x) "__ne__" (.ref y)) (fun r s' => ∃ v, r = some v ∧ Q v s') E ⟨h, g, d, t, os⟩ := by
    simp only [tryCompare]
    refine wpAny_bind (ifBoundNe_K X I hs (wpAny_call (codeAny_call_builtin PySem.F.cmp_object.ne.plain PySem.F.cmpEntry_ne
      (checkSlot_K PySem.F.cmpKind_ne PySem.F.cmpSplit_ne X I hm (PySem.F.cmpArgs_ne _ _)
        (objNe_K (A := A.in1) X I he hf hu (wpAny_mono hcall (fun v s' hv => ?_) fun _ _ e => e))))))
    obtain ⟨b, rfl, hq⟩ := hv
    exact ⟨b, rfl, wpAny_pure ⟨_, rfl, hq⟩⟩
  unfold richCompare
  simp only [oneThing_ref]
  refine wpAny_holding ?_
  refine wpAny_bind (wpAny_cRoomFor (Nat.lt_of_succ_lt hu) ?_)
  rw [cmpInfo_NotEq]
  dsimp only
  refine wpAny_bind (I.type.here (wpAny_bind (J.type.here ?_)))
  rw [show (Value.ref C != Value.ref C) = false from by simp]
  simp only [Bool.false_eq_true, if_false]
  refine wpAny_bind (wpAny_pure ?_)
  simp only [Bool.false_eq_true, if_false]
  refine wpAny_bind (wpAny_mono one (fun r s' z => ?_) fun _ _ e => e)
  obtain ⟨v, rfl, hq⟩ := z
  exact wpAny_pure hq
end
/-! the rule -/
section
variable {X : Cx} {k j : Nat} {C f : Addr} {sp : Sp}
def rNeI (C : Addr) (sp : Sp) : R2 := fun x y H Q => ∃ a dx fs b dy gs, x = .ref a ∧ y = .ref b ∧ H a = some (.ins C dx fs) ∧ H b = some (.ins C dy gs) ∧ sp [.ref a, .ref b] H (fun v H' => ∃ r, v = .bl r ∧ Q (.bl (!r)) H') C8.E0
theorem op_neI {fd : FuncData} {ps : List Str} (F : FnOk X.prog X.w X.K X.mg X.base C8.CX0 k f fd ps sp) (hb : Binds X.K fd ps []) (hr : Room j X.A) (hk : k + 1 ≤ j) (hs : PySem.W.findIn X.K (.ref C) "__ne__" = some (some (.builtin "object.__ne__"))) (hm : PySem.W.mroIn X.K C (.type "object") = some true)
    (he : PySem.W.findIn X.K (.ref C) "__eq__" = some (some (.ref f))) (hf : PySem.W.isFn X.K (.ref f) = true) : OpR X (compareOp .NotEq) (rNeI C sp) := by
  intro pins s σ H x y v u Q I rx ry h
  obtain ⟨a, dx, fs, b, dy, gs, rfl, rfl, ha, hb', q⟩ := h
  cases (show v = Value.ref a from rx)
  cases (show u = Value.ref b from ry)
  obtain ⟨mA, J, _⟩ := ins_get I.hok ha
  obtain ⟨mB, J', _⟩ := ins_get I.hok hb'
  obtain ⟨od, J, _⟩ := J.look
  obtain ⟨od', J', _⟩ := J'.look
  have hr1 : Room k X.A.in1 := (hr.mono hk : Room (k + 1) X.A).in1
  have hin := I.kIn
  have I' := I
  obtain ⟨hp, g, d, tk, os⟩ := s
  show wpAny (model X.prog X.w) X.A (richCompare .NotEq (.ref a) (.ref b)) _ _ _
  refine ne_K hin J J' hs hm he hf hr1.units0 ?_
  have hl := F.len _ _ _ _ q
  have r2 : Vals [V.ref a, V.ref b] [Value.ref a, Value.ref b] := .cons rfl (.cons rfl .nil)
  refine wpAny_call (codeAny_mono (F.run X.A.in1 X.stack _ H ⟨[.ref a, .ref b], []⟩ [.ref a, .ref b] [.ref a, .ref b] _ _ hr1 I.env0.in1 (by
    have := hb ⟨hp, g, d, tk, os⟩ [.ref a, .ref b] I.kIn (by simpa using hl)
    simpa using this) r2 q) fun r s' hq => ?_)
  cases r with
  | error e => exact (C8.pass0 (E := C8.E0) pins σ H _ e s' I hq)
  | ok fl =>
    cases fl with
    | ret w =>
      obtain ⟨z, H', I2, rz, r, ez, hQ⟩ := I.after hq
      subst ez
      cases rz
      exact ⟨r, rfl, .bl (!r), H', I2, rfl, hQ⟩
    | next => exact False.elim hq
    | brk => exact False.elim hq
    | cont => exact False.elim hq
end
end NW
set_option Elab.async false
set_option linter.all false
set_option maxRecDepth 100000
set_option maxHeartbeats 1000000
/-! W15: class_name, facts, == and != of Came and Refused. -/
namespace NW
open PySem PySem.Spec PyProof.Rows L2
section
variable {P : Program} {w : World} {K : Frag} {mg : Str → Option Value} {base : Heap}
def spClsName (C : Addr) (z : Str) : Sp := fun vs H Q _ => ∃ (a dx : Addr) (fs : List (Str × V)), vs = [.ref a] ∧ H a = some (.ins C dx fs) ∧ Q (.str z) H
def spFacts1 (C : Addr) (z : Str) : Sp := fun vs H Q _ => ∃ (a dx : Addr) (x : V), vs = [.ref a] ∧ H a = some (.ins C dx [(z, x)]) ∧ ∀ r H', Same H H' → H' r = some (.tup [x]) → Q (.ref r) H'
theorem sc_Came_class_name : FnScope ["self"] ["self"] (defScope s_Came_class_name) := ⟨rfl, rfl, rfl, by decide +kernel, rfl, by decide +kernel, by decide +kernel⟩
theorem ok_Came_class_name (T : Txt K mg) : Met P w K mg base 1 (He.ga K "Came") "class_name" (spClsName (He.ga K "Came") "came") [] := by
  refine met T.f_Came_class_name T.c_Came T.e_Came_class_name sc_Came_class_name (fun _ _ _ _ _ _ us hl => match us, hl with | [_], _ => rfl) (fun vs H Q E h => ?_) (fun cdv A outer s H vs Q E hr h => ?_)
  · obtain ⟨a, dx, fs, rfl, _⟩ := h
    rfl
  · obtain ⟨a, dx, fs, rfl, e, q⟩ := h
    exact ⟨_, pss_one (ps_ret pe_str), q⟩
theorem sc_Came_facts : FnScope ["self"] ["self"] (defScope s_Came_facts) := ⟨rfl, rfl, rfl, by decide +kernel, rfl, by decide +kernel, by decide +kernel⟩
theorem lk1 (f : Str) (x : V) : ([(f, x)] : List (Str × V)).lookup f = some x := by simp [List.lookup]
theorem ok_Came_facts (T : Txt K mg) : Met P w K mg base 1 (He.ga K "Came") "facts" (spFacts1 (He.ga K "Came") "node") [] := by
  refine met T.f_Came_facts T.c_Came T.e_Came_facts sc_Came_facts (fun _ _ _ _ _ _ us hl => match us, hl with | [_], _ => rfl) (fun vs H Q E h => ?_) (fun cdv A outer s H vs Q E hr h => ?_)
  · obtain ⟨a, dx, x, rfl, _⟩ := h
    rfl
  · obtain ⟨a, dx, x, rfl, e, q⟩ := h
    refine ⟨_, pss_one (ps_ret (pe_tup (pa_cons (pe_fld (pv 0) rfl) pa_nil))), ?_⟩
    exact ⟨_, rfl, a, _, dx, _, _, rfl, e, T.c_Came, T.a_Came_node, lk1 _ _, (by show 1 ≤ sizeLine; decide), fun r nr => q r _ (same_new nr) upd_same⟩
theorem sc_Refused_class_name : FnScope ["self"] ["self"] (defScope s_Refused_class_name) := ⟨rfl, rfl, rfl, by decide +kernel, rfl, by decide +kernel, by decide +kernel⟩
theorem ok_Refused_class_name (T : Txt K mg) : Met P w K mg base 1 (He.ga K "Refused") "class_name" (spClsName (He.ga K "Refused") "refused") [] := by
  refine met T.f_Refused_class_name T.c_Refused T.e_Refused_class_name sc_Refused_class_name (fun _ _ _ _ _ _ us hl => match us, hl with | [_], _ => rfl) (fun vs H Q E h => ?_) (fun cdv A outer s H vs Q E hr h => ?_)
  · obtain ⟨a, dx, fs, rfl, _⟩ := h
    rfl
  · obtain ⟨a, dx, fs, rfl, e, q⟩ := h
    exact ⟨_, pss_one (ps_ret pe_str), q⟩
theorem sc_Refused_facts : FnScope ["self"] ["self"] (defScope s_Refused_facts) := ⟨rfl, rfl, rfl, by decide +kernel, rfl, by decide +kernel, by decide +kernel⟩
theorem ok_Refused_facts (T : Txt K mg) : Met P w K mg base 1 (He.ga K "Refused") "facts" (spFacts1 (He.ga K "Refused") "why") [] := by
  refine met T.f_Refused_facts T.c_Refused T.e_Refused_facts sc_Refused_facts (fun _ _ _ _ _ _ us hl => match us, hl with | [_], _ => rfl) (fun vs H Q E h => ?_) (fun cdv A outer s H vs Q E hr h => ?_)
  · obtain ⟨a, dx, x, rfl, _⟩ := h
    rfl
  · obtain ⟨a, dx, x, rfl, e, q⟩ := h
    refine ⟨_, pss_one (ps_ret (pe_tup (pa_cons (pe_fld (pv 0) rfl) pa_nil))), ?_⟩
    exact ⟨_, rfl, a, _, dx, _, _, rfl, e, T.c_Refused, T.a_Refused_why, lk1 _ _, (by show 1 ≤ sizeLine; decide), fun r nr => q r _ (same_new nr) upd_same⟩
theorem sc_Thing_eq : FnScope ["self", "other"] ["self", "other"] (defScope s_Thing_eq) := ⟨rfl, rfl, rfl, by decide +kernel, rfl, by decide +kernel, by decide +kernel⟩
/-- two instances with the same facts -/
inductive Sme (K : Frag) (H : Hp) (a b : Addr) : Prop where
  | came {n : Nat} : InsF (He.ga K "Came") (fCame (.int n)) H a → InsF (He.ga K "Came") (fCame (.int n)) H b → Sme K H a b
  | refused : InsF (He.ga K "Refused") (fRefused (.str "gone")) H a → InsF (He.ga K "Refused") (fRefused (.str "gone")) H b → Sme K H a b
def spSme (K : Frag) : Sp := fun vs H Q _ => ∃ a b, vs = [.ref a, .ref b] ∧ Sme K H a b ∧ ∀ H', Same H H' → Q (.bl true) H'
theorem ok_Thing_eq (T : Txt K mg) : ∃ fd, FnOk P w K mg base C8.CX0 2 (eqM K) fd ["self", "other"] (spSme K) ∧ L2.Binds K fd ["self", "other"] [] := by
  obtain ⟨fd, F⟩ := T.f_Thing_eq
  refine ⟨fd, fn_ok F sc_Thing_eq (fun vs H Q E h => ?_) (fun cdv A outer s H vs Q E hr h => ?_), F.bindsN (fun _ _ _ _ _ _ us hl => match us, hl with | [_, _], _ => rfl)⟩
  · obtain ⟨a, b, rfl, _⟩ := h
    rfl
  · obtain ⟨a, b, rfl, hs, q⟩ := h
    cases hs with
    | @came n ha hb =>
      obtain ⟨dx, ea⟩ := ha
      obtain ⟨dy, eb⟩ := hb
      refine ⟨_, pss_cons (ps_if (PW.pt (pw_or (pt_not (pt_val (pe_callB call_isi (by rfl) T.n_isinstance (by decide +kernel) (pa_cons (pv 1) (pa_cons (pcls T.g_Thing) pa_nil))))) (pw_or1 (pt_cmpR op_ne (C8.pe_mt0 (ok_Came_class_name T) hr (by decide) (pv 0)) (C8.pe_mt0 (ok_Came_class_name T) hr (by decide) (pv 1)) (nomark _))))) pss_never pss_nil)
        (pss_one (ps_ret (pe_cmpR (op_eqD (Room.units hr)) (C8.pe_mt0 (ok_Came_facts T) hr (by decide) (pv 0)) (C8.pe_mt0 (ok_Came_facts T) hr (by decide) (pv 1)) (nomark _)))), ?_⟩
      refine ⟨_, rfl, _, _, _, _, _, rfl, .own _, ty_ins T T.i_Came T.c_Came eb, T.t_Came_Thing, ?_⟩
      refine ⟨_, rfl, _, rfl, a, dx, _, rfl, ea, rfl, a, dx, _, rfl, ea, _, rfl, b, dy, _, rfl, eb, rfl, b, dy, _, rfl, eb, rfl, _, rfl, ?_⟩
      refine ⟨_, rfl, a, dx, _, rfl, ea, rfl, a, dx, _, rfl, ea, fun r1 H1 s1 h1 => ⟨_, rfl, b, dy, _, rfl, s1 _ _ eb, rfl, b, dy, _, rfl, s1 _ _ eb, fun r2 H2 s2 h2 => ?_⟩⟩
      have g1 := s2 _ _ h1
      refine ⟨_, _, .tup (SqT.of g1) (.cons (Dp.int n) .nil), .tup (SqT.of h2) (.cons (Dp.int n) .nil), rfl, rfl, ?_⟩
      have e : PyData.eqv (.tuple [.int n]) (.tuple [.int n]) = true := by simp [PyData.eqv, PyData.eqvAll]
      rw [e]
      exact q _ (s1.trans s2)
    | @refused  ha hb =>
      obtain ⟨dx, ea⟩ := ha
      obtain ⟨dy, eb⟩ := hb
      refine ⟨_, pss_cons (ps_if (PW.pt (pw_or (pt_not (pt_val (pe_callB call_isi (by rfl) T.n_isinstance (by decide +kernel) (pa_cons (pv 1) (pa_cons (pcls T.g_Thing) pa_nil))))) (pw_or1 (pt_cmpR op_ne (C8.pe_mt0 (ok_Refused_class_name T) hr (by decide) (pv 0)) (C8.pe_mt0 (ok_Refused_class_name T) hr (by decide) (pv 1)) (nomark _))))) pss_never pss_nil)
        (pss_one (ps_ret (pe_cmpR (op_eqD (Room.units hr)) (C8.pe_mt0 (ok_Refused_facts T) hr (by decide) (pv 0)) (C8.pe_mt0 (ok_Refused_facts T) hr (by decide) (pv 1)) (nomark _)))), ?_⟩
      refine ⟨_, rfl, _, _, _, _, _, rfl, .own _, ty_ins T T.i_Refused T.c_Refused eb, T.t_Refused_Thing, ?_⟩
      refine ⟨_, rfl, _, rfl, a, dx, _, rfl, ea, rfl, a, dx, _, rfl, ea, _, rfl, b, dy, _, rfl, eb, rfl, b, dy, _, rfl, eb, rfl, _, rfl, ?_⟩
      refine ⟨_, rfl, a, dx, _, rfl, ea, rfl, a, dx, _, rfl, ea, fun r1 H1 s1 h1 => ⟨_, rfl, b, dy, _, rfl, s1 _ _ eb, rfl, b, dy, _, rfl, s1 _ _ eb, fun r2 H2 s2 h2 => ?_⟩⟩
      have g1 := s2 _ _ h1
      refine ⟨_, _, .tup (SqT.of g1) (.cons (Dp.str _) .nil), .tup (SqT.of h2) (.cons (Dp.str _) .nil), (by decide +kernel), (by decide +kernel), ?_⟩
      have e : PyData.eqv (.tuple [.str ("gone" : Str)]) (.tuple [.str ("gone" : Str)]) = true := by simp [PyData.eqv, PyData.eqvAll]
      rw [e]
      exact q _ (s1.trans s2)
end
end NW
set_option Elab.async false
set_option linter.all false
set_option maxRecDepth 100000
/-! KT: paths as texts; no program in sight. -/
namespace NW
open PySem PySem.Spec PyProof.Rows L2 SX
/-- a component: empty, or a name -/
def cl : Option Nat → List Nat
  | none => []
  | some k => (nm k).cps.toList
def cs (c : Option Nat) : Str := S (cl c)
theorem cs_none : cs none = "" := rfl
theorem cs_some (k : Nat) : cs (some k) = nm k := S_tl _
def ptx (l : List (Option Nat)) : Str := S (TL.joinL [47] (l.map cl))
/-- the path of a folder by the names of its way: an empty component, then the names -/
def orN : List Nat → List (Option Nat)
  | [] => [none]
  | l => l.map some
def up (l : List Nat) : Str := ptx (none :: orN l)
theorem nm47 : ∀ k : Nat, 47 ∉ (nm k).cps.toList := by
  have h : ∀ i : _root_.Fin 4, 47 ∉ (nm i.1).cps.toList := by decide +kernel
  intro k
  match k with
  | 0 => exact h 0
  | 1 => exact h 1
  | 2 => exact h 2
  | n + 3 => exact h 3
theorem cl47 (c : Option Nat) : 47 ∉ cl c := by
  cases c with
  | none => simp [cl]
  | some k => exact nm47 k
theorem nm_le : ∀ k : Nat, (nm k).cps.toList.length ≤ 3 := by
  have h : ∀ i : _root_.Fin 4, (nm i.1).cps.toList.length ≤ 3 := by decide +kernel
  intro k
  match k with
  | 0 => exact h 0
  | 1 => exact h 1
  | 2 => exact h 2
  | n + 3 => exact h 3
theorem cl_le (c : Option Nat) : (cl c).length ≤ 3 := by
  cases c with
  | none => simp [cl]
  | some k => exact nm_le k
theorem split_ptx {l : List (Option Nat)} (h : l ≠ []) : Txt.split (ptx l) "/" = l.map cs := by
  have e := split_S (a := TL.joinL [47] (l.map cl)) (b := [47]) (by simp) (by decide)
  rw [spl_join (by simpa using h) (fun p hp => by
    obtain ⟨c, _, rfl⟩ := List.mem_map.mp hp
    exact cl47 c), List.map_map] at e
  exact e
theorem joinL_len : ∀ l : List (Option Nat), (TL.joinL [47] (l.map cl)).length ≤ 4 * l.length
  | [] => by simp [TL.joinL]
  | [c] => by
    have := cl_le c
    simp [TL.joinL]
    omega
  | c :: d :: r => by
    have h := joinL_len (d :: r)
    have := cl_le c
    simp only [List.map_cons, TL.joinL, List.length_append, List.length_cons, List.length_nil] at h ⊢
    omega
theorem ptx_len (l : List (Option Nat)) : (ptx l).length ≤ 4 * l.length := by
  unfold ptx
  rw [S_len]
  exact joinL_len l
theorem ptx_head (c : Option Nat) (l : List (Option Nat)) : (ptx (none :: c :: l)).cps.toList = 47 :: TL.joinL [47] ((c :: l).map cl) := by
  show (TL.joinL [47] ((none :: c :: l).map cl)).toArray.toList = _
  simp [TL.joinL, cl]
theorem joinL_snoc : ∀ (l : List (List Nat)) (x : List Nat), l ≠ [] → TL.joinL [47] (l ++ [x]) = TL.joinL [47] l ++ ([47] ++ x)
  | [c], x, _ => by simp [TL.joinL]
  | c :: d :: r, x, _ => by
    have h := joinL_snoc (d :: r) x (by simp)
    simp only [List.cons_append, TL.joinL] at h ⊢
    rw [h]
    simp
theorem ptx_snoc (l : List (Option Nat)) (k : Nat) (h : l ≠ []) : ptx l ++ "/" ++ nm k = ptx (l ++ [some k]) := by
  have e1 : nm k = S (cl (some k)) := (S_tl _).symm
  have e2 : ("/" : Str) = S [47] := rfl
  unfold ptx
  rw [e1, e2, S_cat, S_cat, List.map_append, List.map_singleton, joinL_snoc _ _ (by simpa using h), List.append_assoc]
theorem up_nil : up [] = "/" := rfl
theorem up_join (l : List Nat) : up l = "/" ++ Txt.join "/" (l.map nm) := by
  have e2 : ("/" : Str) = S [47] := rfl
  have e3 : l.map nm = (l.map fun k => (nm k).cps.toList).map S := by
    rw [List.map_map]
    exact List.map_congr_left fun k _ => (S_tl _).symm
  rw [e2, e3, join_S, S_cat]
  cases l with
  | nil => rfl
  | cons k l =>
    unfold up ptx orN
    congr 1
    simp [TL.joinL, cl, Function.comp_def]
theorem orN_ne (l : List Nat) : orN l ≠ [] := by cases l <;> simp [orN]
theorem orN_len (l : List Nat) : (orN l).length ≤ l.length + 1 := by cases l <;> simp [orN]
theorem orN_ks (l : List Nat) : (orN l).filterMap id = l := by
  cases l with
  | nil => rfl
  | cons k l => simp [orN]
end NW
set_option Elab.async false
set_option linter.all false
set_option maxRecDepth 100000
set_option maxHeartbeats 1000000
/-! W16: Path, read_path, path_text. -/
namespace NW
open PySem PySem.Spec PyProof.Rows L2
section
variable {P : Program} {w : World} {K : Frag} {mg : Str → Option Value} {base : Heap}
abbrev nmV (l : List Nat) : List V := l.map fun k => V.str (nm k)
theorem nm_up : ∀ k : Nat, k < 4 → decide (V.str (nm k) = V.str "..") = false := by
  have h : ∀ i : _root_.Fin 4, ¬ nm i.1 = ".." := by decide +kernel
  exact fun k hk => decide_eq_false fun e => h ⟨k, hk⟩ (V.str.inj e)
def fPath (s : Addr) (fo : Bool) : List (Str × V) := [("steps", .ref s), ("absolute", .bl true), ("folder", .bl fo)]
def PPath (K : Frag) (H : Hp) (x : Addr) (l : List Nat) (fo : Bool) : Prop := ∃ dx s, H x = some (.ins (He.ga K "Path") dx (fPath s fo)) ∧ H s = some (.tup (nmV l))
theorem PPath.same {H H' : Hp} {x : Addr} {l : List Nat} {fo : Bool} (s : Same H H') (h : PPath K H x l fo) : PPath K H' x l fo := let ⟨dx, a, h1, h2⟩ := h; ⟨dx, a, s _ _ h1, s _ _ h2⟩
theorem sc_Path : FnScope ["self", "steps", "absolute", "folder", "step"] ["self", "steps", "absolute", "folder"] (defScope s_Path_init) := ⟨rfl, rfl, rfl, by decide +kernel, rfl, by decide +kernel, by decide +kernel⟩
theorem mk_Path (T : Txt K mg) : Mak P w K mg base 2 "Path" (He.ga K "Path") (spMkA (He.ga K "Path") (fun a : Addr × List Nat × Bool => [.ref a.1, .bl true, .bl a.2.2]) (fun a H => SqL K H a.1 (nmV a.2.1) ∧ (∀ k ∈ a.2.1, k < 4) ∧ a.2.1.length ≤ 100 ∧ (a.2.2 = false → a.2.1 ≠ [])) (fun a H x => PPath K H x a.2.1 a.2.2)) [] := by
  refine mak T.f_Path_init T.k_Path T.g_Path sc_Path (fun _ _ _ _ _ _ us hl => match us, hl with | [_, _, _, _], _ => rfl) (fun vs H Q E h => ?_) (fun cdv A outer s H vs Q E hr h => ?_)
  · obtain ⟨a, _, _, _, rfl, _⟩ := h
    rfl
  · obtain ⟨⟨a, l, fo⟩, H1, x, dx, rfl, rfl, nx, ndx, ne, ⟨ha, h4, hlen, hfo⟩, q⟩ := h
    have nd := sc_Path.nd
    refine ⟨_, pss_cons (ps_fld (pv 0) (pe_tupleOf (by rfl) T.n_tuple (pv 1)) rfl)
      (pss_cons (ps_fld (pv 0) (pv 2) rfl)
      (pss_cons (ps_fld (pv 0) (pv 3) rfl)
      (pss_cons (ps_if (pt_not (pt_val (pe_callB (cr_all rfl) (by rfl) T.n_all (by decide +kernel) (pa_cons (pe_lc (own := [("step", 4)]) (g := gName 4) (tt := tYes) rfl nd (pi_tup (pe_fld (pv 0) rfl)) (blkOk_by (N := ["self", "steps", "absolute", "folder", "step"]) (sc := defScope s_Path_init) (by decide +kernel))
        (fun _ _ _ _ _ => pg_name (i := 4) nd rfl (Or.inl rfl)) (fun _ _ _ _ _ => pts_nil) (fun _ _ _ _ _ => pe_or (C8.pe_c (ok_is_name T) hr (by decide) rfl (pa_cons (pv 4) pa_nil)) (pe_one (pe_cmpR op_eq (pv 4) (C8.pe_gc (by rfl) T.v_UP) (by rfl))))) pa_nil)))) pss_never pss_nil)
      (pss_one (ps_if (PW.pt (pw_and (pt_not (pt_val (pv 3))) (pw_and1 (PW.pt (pw_or (pt_cmpR (op_eqNilT hr.units0) (pe_fld (pv 0) rfl) (pe_tup pa_nil) (nomark _)) (pw_or1 (pt_cmpR op_eq (pe_ix ix_tup (pe_fld (pv 0) rfl) (pe_un un_neg pe_int) (fun _ _ => rfl)) (C8.pe_gc (by rfl) T.v_UP) (nomark _)))))))) pss_never pss_nil))))), ?_⟩
    simp only at ha h4 hlen hfo q
    have s0 := same_mk (C := He.ga K "Path") (fs := []) nx ndx
    have hx0 : upd (upd H1 dx (.own x)) x (.ins (He.ga K "Path") dx []) x = some (.ins (He.ga K "Path") dx []) := upd_same
    generalize upd (upd H1 dx (.own x)) x (.ins (He.ga K "Path") dx []) = H0 at s0 hx0
    refine ⟨_, rfl, .inl ⟨a, _, rfl, s0.seq ha, fun tp nt => ⟨_, rfl, x, _, dx, _, rfl, upd_at hx0 (ne_of_none hx0 nt), T.c_Path, T.a_Path_steps, by decide, ?_⟩⟩⟩
    refine ⟨_, rfl, _, rfl, x, _, dx, _, rfl, upd_same, T.c_Path, T.a_Path_absolute, len1, _, rfl, _, rfl, x, _, dx, _, rfl, upd_same, T.c_Path, T.a_Path_folder, len2, ?_⟩
    have s1 := sput (o := .ins (He.ga K "Path") dx (putF "folder" (.bl fo) (putF "absolute" (.bl true) (putF "steps" (.ref tp) [])))) (sput (o := .ins (He.ga K "Path") dx (putF "absolute" (.bl true) (putF "steps" (.ref tp) []))) (sput (o := .ins (He.ga K "Path") dx (putF "steps" (.ref tp) [])) (snew (o := .tup (nmV l)) s0 nt) nx) nx) nx
    have hntx : tp ≠ x := (ne_of_none hx0 nt).symm
    have ht1 : ∀ o1 o2 o3, upd (upd (upd (upd H0 tp (.tup (nmV l))) x o1) x o2) x o3 tp = some (.tup (nmV l)) := fun _ _ _ => upd_at (upd_at (upd_at upd_same hntx) hntx) hntx
    have ht2 := ht1 (.ins (He.ga K "Path") dx (putF "steps" (.ref tp) [])) (.ins (He.ga K "Path") dx (putF "absolute" (.bl true) (putF "steps" (.ref tp) []))) (.ins (He.ga K "Path") dx (putF "folder" (.bl fo) (putF "absolute" (.bl true) (putF "steps" (.ref tp) []))))
    clear ht1
    have hx2 : upd (upd (upd (upd H0 tp (.tup (nmV l))) x (.ins (He.ga K "Path") dx (putF "steps" (.ref tp) []))) x (.ins (He.ga K "Path") dx (putF "absolute" (.bl true) (putF "steps" (.ref tp) [])))) x (.ins (He.ga K "Path") dx (putF "folder" (.bl fo) (putF "absolute" (.bl true) (putF "steps" (.ref tp) [])))) x = some (.ins (He.ga K "Path") dx (fPath tp fo)) := upd_same.trans (congrArg (fun z => some (HO.ins _ _ z)) (putF3 (by decide +kernel)))
    generalize upd (upd (upd (upd H0 tp (.tup (nmV l))) x (.ins (He.ga K "Path") dx (putF "steps" (.ref tp) []))) x (.ins (He.ga K "Path") dx (putF "absolute" (.bl true) (putF "steps" (.ref tp) [])))) x (.ins (He.ga K "Path") dx (putF "folder" (.bl fo) (putF "absolute" (.bl true) (putF "steps" (.ref tp) [])))) = H2 at s1 ht2 hx2
    have hT : SqT K H2 tp (nmV l) := SqT.of ht2
    have ln : (nmV l).length = l.length := List.length_map _
    refine ⟨_, rfl, x, _, dx, _, _, rfl, hx2, T.c_Path, T.a_Path_steps, rfl, tp, rfl, ⟨_, hT⟩, fun D2 n2 => lc_it walk_tup (fun i Hi => Same H2 Hi ∧ Hi D2 = some (.lst ((List.replicate i true).map V.bl))) ⟨same_new n2, upd_same⟩ (fun i Hi _ h => seqT h.1 hT) (fun i x Hi H' hi hI hy => ?_) (fun Hi hI => ?_)⟩
    · obtain ⟨sm, hts⟩ := hI
      obtain ⟨rfl, hx⟩ := hy
      rw [List.getElem?_map] at hx
      rw [ln] at hi
      rw [List.getElem?_eq_getElem hi] at hx
      cases hx
      refine ⟨rfl, _, rfl, l[i], h4 _ (List.getElem_mem hi), rfl, fun H' s' => ⟨_, rfl, iteT ⟨_, s' _ _ hts, ?_, sput (sm.trans s') n2, ?_⟩⟩⟩
      · rw [List.length_map, List.length_replicate]
        exact Nat.lt_of_lt_of_le (by omega : i < 101) (by decide)
      · rw [upd_same, List.replicate_succ', List.map_append]
        rfl
    obtain ⟨sm, hts⟩ := hI
    refine ⟨D2, _, rfl, SqL.of hts, _, rfl, ?_⟩
    rw [all_true]
    have s2 := s1.trans sm
    have fin := q _ s2 ⟨dx, tp, sm _ _ hx2, sm _ _ ht2⟩
    refine iteF ⟨_, rfl, _, rfl, ?_⟩
    cases fo with
    | true => exact iteF fin
    | false =>
      have hne := hfo rfl
      obtain ⟨l0, k, rfl⟩ : ∃ l0 k, l = l0 ++ [k] := ⟨l.dropLast, l.getLast hne, (List.dropLast_concat_getLast hne).symm⟩
      refine iteT ⟨_, rfl, x, _, dx, _, _, rfl, sm _ _ hx2, T.c_Path, T.a_Path_steps, rfl, (by show 0 ≤ sizeLine; decide), fun p np => ⟨tp, p, _, rfl, rfl, SqT.of (upd_at (sm _ _ ht2) (ne_of_none (sm _ _ ht2) np)), SqT.of upd_same, _, rfl, ?_⟩⟩
      have he : (nmV (l0 ++ [k])).isEmpty = false := by cases l0 <;> rfl
      rw [he]
      have sp := same_new (o := .tup []) np
      generalize upd Hi p (.tup []) = H3 at sp
      have elast : atI (nmV (l0 ++ [k])) (-1) = some (.str (nm k)) := by
        unfold nmV
        rw [List.map_append]
        exact atI_last _ _
      refine iteF ⟨_, rfl, x, _, dx, _, _, rfl, sp _ _ (sm _ _ hx2), T.c_Path, T.a_Path_steps, rfl, _, rfl, tp, _, _, _, rfl, rfl, SqT.of (sp _ _ (sm _ _ ht2)), elast, rfl, _, rfl, ?_⟩
      rw [nm_up k (h4 k (by simp))]
      exact iteF (q _ (s2.trans sp) ⟨dx, tp, sp _ _ (sm _ _ hx2), sp _ _ (sm _ _ ht2)⟩)
/-! read_path -/
theorem cs_in1 (c : Option Nat) (h : ∀ k, c = some k → k < 4) : (if true = true then !inV (.str (cs c)) [.str "", .str "."] else inV (.str (cs c)) [.str "", .str "."]) = c.isSome := by
  have e : ∀ i : _root_.Fin 4, inV (.str (cs (some i.1))) [.str "", .str "."] = false := by decide +kernel
  have e0 : inV (.str (cs none)) [.str "", .str "."] = true := by decide +kernel
  rw [if_pos rfl]
  cases c with
  | none => rw [e0]; rfl
  | some k => rw [e ⟨k, h k rfl⟩]; rfl
theorem cs_in2 (c : Option Nat) (h : ∀ k, c = some k → k < 4) : (if false = true then !inV (.str (cs c)) [.str "", .str ".", .str ".."] else inV (.str (cs c)) [.str "", .str ".", .str ".."]) = decide (c = none) := by
  have e : ∀ i : _root_.Fin 4, inV (.str (cs (some i.1))) [.str "", .str ".", .str ".."] = false := by decide +kernel
  have e0 : inV (.str (cs none)) [.str "", .str ".", .str ".."] = true := by decide +kernel
  rw [if_neg (by simp)]
  cases c with
  | none => rw [e0]; rfl
  | some k => rw [e ⟨k, h k rfl⟩]; rfl
theorem cs_len (c : Option Nat) : (cs c).length ≤ 3 := by
  unfold cs
  rw [SX.S_len]
  exact cl_le c
def spReadPath (K : Frag) : Sp := fun vs H Q _ => ∃ (c : Option Nat) (l : List (Option Nat)), vs = [.str (ptx (none :: c :: l))] ∧ (∀ k, some k ∈ c :: l → k < 4) ∧ l.length ≤ 90 ∧
  ∀ r H', Same H H' → PPath K H' r ((c :: l).filterMap id) (decide ((c :: l).getLastD none = none)) → Q (.ref r) H'
theorem sc_read_path : FnScope ["text", "components", "steps", "place", "component"] ["text"] (defScope s_read_path) := ⟨rfl, rfl, rfl, by decide +kernel, rfl, by decide +kernel, by decide +kernel⟩
theorem ok_read_path (T : Txt K mg) : Cal P w K mg base 4 "read_path" (spReadPath K) [] := by
  refine cal T.f_read_path T.g_read_path sc_read_path (fun _ _ _ _ _ _ us hl => match us, hl with | [_], _ => rfl) (fun vs H Q E h => ?_) (fun cdv A outer s H vs Q E hr h => ?_)
  · obtain ⟨c, l, rfl, _⟩ := h
    rfl
  · obtain ⟨c, l, rfl, h4, hlen, q⟩ := h
    have nd := sc_read_path.nd
    refine ⟨_, pss_cons (ps_if (PW.pt (pw_or (pt_not (pt_val (pe_callB call_isi (by rfl) T.n_isinstance (by decide +kernel) (pa_cons (pv 0) (pa_cons (pe_bltn (v := .ty "str") (by rfl) T.n_str (by decide +kernel) rfl) pa_nil))))) (pw_or1 (pt_cmpR op_eq (pv 0) pe_str (nomark _))))) pss_never pss_nil)
      (pss_cons (ps_par3 (i := 1) (j := 2) (l := 3) rfl nd rfl rfl rfl (by decide) (by decide) (by decide) rfl rfl rfl (pa_cons (pe_split (pv 0) pe_str) (pa_cons (pe_lst pa_nil) (pa_cons pe_int pa_nil))) (by rfl))
      (pss_cons (ps_for PassesOwn.never rfl (pi_list (pv 1)) (pg_name (i := 4) nd rfl (Or.inl rfl))
        (pss_cons (ps_if (pt_cmpR op_notIn_seq (pv 4) (pe_tup (pa_cons pe_str (pa_cons (C8.pe_gc (by rfl) T.v_HERE) pa_nil))) (by rfl))
          (pss_cons (ps_if (PW.pt (pw_and (pt_cmpR op_ne (pv 4) (C8.pe_gc (by rfl) T.v_UP) (nomark _)) (pw_and1 (pt_not (pt_val (C8.pe_c (ok_is_name T) hr (by decide) rfl (pa_cons (pv 4) pa_nil))))))) pss_never pss_nil)
          (pss_one (ps_expr (pe_bm PySem.F.plainAttrs_list PySem.F.slot_list_append PySem.F.type_list_append mt_append (pv 2) (pa_cons (pv 4) pa_nil))))) pss_nil)
        (pss_one (ps_set (i := 3) nd rfl (Or.inl rfl) (pe_op op_add (pe_op op_add (pv 3) (pe_callB call_len_str (by rfl) T.n_len PySem.boot_len (pa_cons (pv 4) pa_nil))) pe_int)))))
      (pss_one (ps_ret (C8.pe_mk (mk_Path T) hr (by decide) rfl (pa_cons (pv 2) (pa_cons (pe_cmpR op_eq (pe_ix ix_str (pv 0) pe_int (fun _ _ => rfl)) pe_str (nomark _)) (pa_cons (pe_cmpR op_in_seq (pe_ix ix_list (pv 1) (pe_un un_neg pe_int) (fun _ _ => rfl)) (pe_tup (pa_cons pe_str (pa_cons (C8.pe_gc (by rfl) T.v_HERE) (pa_cons (C8.pe_gc (by rfl) T.v_UP) pa_nil)))) (by rfl)) pa_nil)))))))), ?_⟩
    have hz : (ptx (none :: c :: l)).length ≤ 400 := by
      have := ptx_len (none :: c :: l)
      simp only [List.length_cons] at this
      omega
    have hne : decide (V.str (ptx (none :: c :: l)) = V.str "") = false := decide_eq_false fun e => by
      have h1 := ptx_head c l
      rw [V.str.inj e] at h1
      exact nomatch h1
    have hhd : (ptx (none :: c :: l)).cps.toList[0]? = some 47 := by rw [ptx_head]; rfl
    have hsp : Txt.split (ptx (none :: c :: l)) "/" = (none :: c :: l).map cs := split_ptx (by simp)
    refine ⟨_, rfl, _, _, _, _, true, rfl, .ty _, .base (.str _), kit_ty (by decide +kernel), _, rfl, iteF ⟨_, rfl, rfl, _, rfl, ?_⟩⟩
    rw [hne]
    refine iteF ⟨_, rfl, ⟨_, rfl⟩, _, _, rfl, rfl, (by decide +kernel), Nat.le_trans (by omega : _ ≤ 402) (by decide), fun p np => ⟨(by show 0 ≤ sizeLine; decide), fun D nD => ?_⟩⟩
    rw [hsp] at nD ⊢
    have s1 := same_new (o := .lst (((none :: c :: l).map cs).map V.str)) np
    have hp := upd_at (o := .lst []) (upd_same : upd H p (.lst (((none :: c :: l).map cs).map V.str)) p = _) (ne_of_none upd_same nD)
    have s2 := snew (o := .lst []) s1 nD
    have hD : upd (upd H p (.lst (((none :: c :: l).map cs).map V.str))) D (.lst []) D = some (.lst []) := upd_same
    have n0D : H D = none := s1.free nD
    have hpD : p ≠ D := ne_of_none upd_same nD
    generalize upd (upd H p (.lst (((none :: c :: l).map cs).map V.str))) D (.lst []) = H2 at s2 hp hD
    have hcs : ∀ x ∈ none :: c :: l, ∀ k, x = some k → k < 4 := fun x hx k e => by
      subst e
      rcases List.mem_cons.mp hx with h | h
      · cases h
      · exact h4 k h
    refine ⟨_, _, _, rfl, _, rfl, p, rfl, ⟨_, SqL.of hp⟩, for_it walk_list (fun i σ Hi => Sb D H2 Hi ∧ Hi D = some (.lst (nmV (((none :: c :: l).take i).filterMap id))) ∧ ∃ (x3 : Int) (x4 : Option V), σ = [some (.str (ptx (none :: c :: l))), some (.ref p), some (.ref D), some (.int x3), x4]) ⟨Sb.refl _ _, hD, _, _, rfl⟩ (fun i σ Hi _ h => SqL.of (h.1.at hp hpD)) (fun i x σ Hj Hi hi hI hy => ?_) (fun σ Hi hI => ?_)⟩
    · obtain ⟨sb, hts, x3, x4, rfl⟩ := hI
      obtain ⟨rfl, hx⟩ := hy
      rw [List.map_map, List.getElem?_map] at hx
      rw [List.length_map, List.length_map] at hi
      rw [List.getElem?_eq_getElem hi] at hx
      cases hx
      have hmem : (none :: c :: l)[i] ∈ none :: c :: l := List.getElem_mem hi
      have hc := hcs _ hmem
      have etk : (none :: c :: l).take (i + 1) = (none :: c :: l).take i ++ [(none :: c :: l)[i]] := by rw [List.take_succ, List.getElem?_eq_getElem hi]; rfl
      have tl : (((none :: c :: l).take i).filterMap id).length ≤ 92 := by
        have h1 := List.length_filterMap_le id ((none :: c :: l).take i)
        have h2 : ((none :: c :: l).take i).length ≤ (none :: c :: l).length := by rw [List.length_take]; omega
        simp only [List.length_cons] at h2
        omega
      generalize (none :: c :: l)[i] = y at hc etk
      have ey := cs_in1 y hc
      have ly := cs_len y
      refine ⟨_, rfl, (by show 2 ≤ sizeLine; decide), fun b nb => ⟨b, _, rfl, .inr (SqT.of upd_same), rfl, rfl, _, rfl, ?_⟩⟩
      have tb := sb.new nb (o := .tup [.str "", .str "."])
      have ht2 := upd_at (o := .tup [.str "", .str "."]) hts (ne_of_none hts nb)
      generalize upd Hi b (.tup [.str "", .str "."]) = H4 at tb ht2
      dsimp only [Function.comp]
      rw [ey]
      cases y with
      | none =>
        refine iteF ⟨_, rfl, _, rfl, _, rfl, Nat.le_trans ly (by decide), _, _, rfl, rfl, _, _, rfl, rfl, tb, ?_, _, _, rfl⟩
        rw [ht2, etk, List.filterMap_append]
        simp
      | some k =>
        have hk := hc k rfl
        rw [cs_some] at ly ⊢
        refine iteT ⟨_, rfl, rfl, _, rfl, ?_⟩
        rw [nm_up k hk]
        refine iteT ⟨_, rfl, k, hk, rfl, fun H5 s5 => ⟨_, rfl, iteF ?_⟩⟩
        have ht5 := s5 _ _ ht2
        refine ⟨_, rfl, .inl ⟨rfl, _, SqL.of ht5⟩, _, rfl, D, _, _, rfl, rfl, ht5, ?_, ?_⟩
        · rw [List.length_map]
          exact Nat.lt_of_le_of_lt tl (by decide)
        refine ⟨_, rfl, _, rfl, _, rfl, Nat.le_trans ly (by decide), _, _, rfl, rfl, _, _, rfl, rfl, (tb.same s5).put, ?_, _, _, rfl⟩
        rw [upd_same, etk, List.filterMap_append]
        simp [nmV]
    · obtain ⟨sb, hts, x3, x4, rfl⟩ := hI
      rw [List.length_map, List.length_map, List.take_length] at hts
      have ets : (none :: c :: l).filterMap id = (c :: l).filterMap id := rfl
      rw [ets] at hts
      obtain ⟨l0, y, ey⟩ : ∃ l0 y, c :: l = l0 ++ [y] := ⟨(c :: l).dropLast, (c :: l).getLast (by simp), (List.dropLast_concat_getLast (by simp)).symm⟩
      have elast : atI (((none :: c :: l).map cs).map V.str) (-1) = some (.str (cs y)) := by
        rw [ey, List.map_cons, List.map_append, List.map_cons, List.map_append]
        exact atI_last (V.str (cs none) :: (l0.map cs).map V.str) (V.str (cs y))
      have eL : (c :: l).getLastD none = y := by rw [ey]; simp
      have hy4 : ∀ k, y = some k → k < 4 := fun k e => h4 k (by rw [ey, e]; simp)
      have e47 : decide (V.str ⟨#[47]⟩ = V.str "/") = true := by decide +kernel
      have sS : Same H Hi := sbSame s2 n0D sb
      refine ⟨_, rfl, _, rfl, _, _, _, rfl, rfl, Nat.le_trans hz (by decide), atI_nat (j := 0) hhd, rfl, ?_⟩
      rw [e47]
      refine ⟨_, rfl, _, rfl, p, _, _, _, rfl, rfl, SqL.of (sb.at hp hpD), elast, (by show 3 ≤ sizeLine; decide), fun b nb => ⟨b, _, rfl, .inr (SqT.of upd_same), rfl, rfl, ?_⟩⟩
      rw [cs_in2 y hy4]
      have sB := same_new (o := .tup [.str "", .str ".", .str ".."]) nb
      intro x dx nx ndx hnx
      refine ⟨(D, (c :: l).filterMap id, decide (y = none)), _, x, dx, rfl, rfl, nx, ndx, hnx, ⟨SqL.of (sB _ _ hts), fun k hk => ?_, ?_, fun hf => ?_⟩, fun H5 s5 hP => ⟨rfl, q _ _ ((sS.trans sB).trans s5) (eL ▸ hP)⟩⟩
      · obtain ⟨z, hz1, hz2⟩ := List.mem_filterMap.mp hk
        exact h4 k (by rw [← (show z = some k from hz2)]; exact hz1)
      · have := List.length_filterMap_le id (c :: l)
        simp only [List.length_cons] at this
        exact Nat.le_trans this (by omega)
      · have hyn : y ≠ none := of_decide_eq_false hf
        intro h0
        have : y ∈ c :: l := by rw [ey]; simp
        cases y with
        | none => exact hyn rfl
        | some k =>
          have hm : k ∈ (c :: l).filterMap id := List.mem_filterMap.mpr ⟨some k, this, rfl⟩
          rw [show (c :: l).filterMap id = [] from h0] at hm
          cases hm
/-! path_text -/
theorem str_len (x y : Str) : (x ++ y).length = x.length + y.length := by
  have h := SX.S_cat x.cps.toList y.cps.toList
  rw [SX.S_tl, SX.S_tl] at h
  rw [h, SX.S_len, List.length_append, ← SX.S_len, SX.S_tl, ← SX.S_len y.cps.toList, SX.S_tl]
theorem sum_le3 : ∀ l : List Nat, ((l.map nm).map (·.length)).sum ≤ 3 * l.length
  | [] => by simp
  | k :: l => by
    have h := sum_le3 l
    have h2 := nm_le k
    have h3 : (nm k).length ≤ 3 := by
      have := cs_len (some k)
      rw [cs_some] at this
      exact this
    simp only [List.map_cons, List.sum_cons, List.length_cons]
    omega
def spPathText (K : Frag) : Sp := fun vs H Q _ => ∃ (x : Addr) (l : List Nat), vs = [.ref x] ∧ PPath K H x l (decide (l = [])) ∧ l.length ≤ 100 ∧ ∀ H', Same H H' → Q (.str (up l)) H'
theorem sc_path_text : FnScope ["path", "begin"] ["path"] (defScope s_path_text) := ⟨rfl, rfl, rfl, by decide +kernel, rfl, by decide +kernel, by decide +kernel⟩
theorem ok_path_text (T : Txt K mg) : Cal P w K mg base 1 "path_text" (spPathText K) [] := by
  refine cal T.f_path_text T.g_path_text sc_path_text (fun _ _ _ _ _ _ us hl => match us, hl with | [_], _ => rfl) (fun vs H Q E h => ?_) (fun cdv A outer s H vs Q E hr h => ?_)
  · obtain ⟨x, l, rfl, _⟩ := h
    rfl
  · obtain ⟨x, l, rfl, ⟨dx, tp, h1, h2⟩, hlen, q⟩ := h
    have nd := sc_path_text.nd
    refine ⟨_, pss_cons (ps_set (i := 1) nd rfl (Or.inl rfl) (pe_ifExp (pt_val (pe_fld (pv 0) rfl)) pe_str pe_str))
      (pss_cons (ps_if (pt_cmpR (op_eqNilT hr.units0) (pe_fld (pv 0) rfl) (pe_tup pa_nil) (nomark _)) (pss_one (ps_ret (pe_ifExp (pt_val (pe_fld (pv 0) rfl)) (pv 1) (C8.pe_gc (by rfl) T.v_HERE)))) pss_nil)
      (pss_one (ps_ret (pe_op op_add_str (pe_op op_add_str (pv 1) (pe_join pe_str (pe_fld (pv 0) rfl))) (pe_ifExp (PW.pt (pw_and (pt_val (pe_fld (pv 0) rfl)) (pw_and1 (pt_cmpR op_ne (pe_ix ix_tup (pe_fld (pv 0) rfl) (pe_un un_neg pe_int) (fun _ _ => rfl)) (C8.pe_gc (by rfl) T.v_UP) (nomark _))))) pe_str pe_str))))), ?_⟩
    refine ⟨_, rfl, x, _, dx, _, _, rfl, h1, T.c_Path, T.a_Path_absolute, rfl, _, rfl, iteT ?_⟩
    refine ⟨_, rfl, x, _, dx, _, _, rfl, h1, T.c_Path, T.a_Path_steps, rfl, (by show 0 ≤ sizeLine; decide), fun p np => ⟨tp, p, _, rfl, rfl, SqT.of (upd_at h2 (ne_of_none h2 np)), SqT.of upd_same, _, rfl, ?_⟩⟩
    have sp := same_new (o := .tup []) np
    generalize upd H p (.tup []) = H3 at sp
    have g1 := sp _ _ h1
    have g2 := sp _ _ h2
    cases l with
    | nil => exact iteT ⟨_, rfl, x, _, dx, _, _, rfl, g1, T.c_Path, T.a_Path_absolute, rfl, _, rfl, iteT ⟨_, rfl, q _ sp⟩⟩
    | cons k l =>
      have hs := sum_le3 (k :: l)
      have lj : (Txt.join "/" ((k :: l).map nm)).length ≤ 410 := by
        have h1 := ptx_len (none :: orN (k :: l))
        have e : (ptx (none :: orN (k :: l))).length = 1 + (Txt.join "/" ((k :: l).map nm)).length := by
          have := congrArg Str.length (up_join (k :: l))
          unfold up at this
          rw [this, str_len]
          rfl
        rw [e] at h1
        have h3 := orN_len (k :: l)
        simp only [List.length_cons] at h1 h3 hlen
        omega
      refine iteF ⟨_, rfl, ⟨_, rfl⟩, _, rfl, x, _, dx, _, _, rfl, g1, T.c_Path, T.a_Path_steps, rfl, _, tp, (k :: l).map nm, rfl, rfl, .inr ?_, ?_, _, _, rfl, rfl, ?_, ?_⟩
      · rw [List.map_map]
        exact SqT.of g2
      · rw [List.length_map]
        have : ((Str.ofString "/")).length = 1 := rfl
        rw [this]
        have h3 : (k :: l).length ≤ 100 := hlen
        omega
      · have : ((Str.ofString "/")).length = 1 := rfl
        rw [this]
        exact Nat.le_trans (by omega : _ ≤ 411) (by decide)
      · have ed : decide (k :: l = []) = false := by simp
        rw [ed] at g1
        have e0 : ("/" : Str) ++ Txt.join "/" ((k :: l).map nm) ++ "" = up (k :: l) := by
          rw [up_join]
          have h0 := SX.S_cat (("/" : Str) ++ Txt.join "/" ((k :: l).map nm)).cps.toList []
          rw [SX.S_tl, List.append_nil, SX.S_tl] at h0
          exact h0
        refine ⟨_, rfl, x, _, dx, _, _, rfl, g1, T.c_Path, T.a_Path_folder, rfl, _, rfl, iteF ⟨_, _, rfl, rfl, ?_, ?_⟩⟩
        · rw [str_len]
          have : ((Str.ofString "/")).length = 1 := rfl
          have : ((Str.ofString "")).length = 0 := rfl
          exact Nat.le_trans (by omega : _ ≤ 411) (by decide)
        · rw [e0]
          exact q _ sp
end
end NW
set_option Elab.async false
set_option linter.all false
set_option maxRecDepth 100000
set_option maxHeartbeats 1000000
/-! W17: Look, states, walk. -/
namespace NW
open PySem PySem.Spec PyProof.Rows L2
section
variable {X : Cx}
theorem op_neNilT (hu : X.A.units < cLine) : OpR X (compareOp .NotEq) (fun x y H Q => ∃ a b xs, x = .ref a ∧ y = .ref b ∧ SqT X.K H a xs ∧ SqT X.K H b [] ∧ Q (.bl (!xs.isEmpty)) H) := by
  intro pins s σ H x y v u Q I rx ry h
  obtain ⟨a, b, xs, rfl, rfl, h1, h2, q⟩ := h
  cases rx
  cases ry
  obtain ⟨its, r, pl, hz⟩ := I.tuple h1
  obtain ⟨its2, r2, pl2, hz2⟩ := I.tuple h2
  cases vals_nil r2
  have hl := r.length
  refine SeqAt.RcNeAt.tuples (e := fun _ => true) pl pl2 hu (fun j h1 h2 => absurd h2 (Nat.not_lt_zero _)) X.prog X.w _ _ ⟨.bl (!xs.isEmpty), H, I, ?_, q⟩
  show Value.bool _ = Value.bool _
  congr 1
  cases xs with
  | nil => cases vals_nil r; rfl
  | cons z zs =>
    have e : its.toArray.size = zs.length + 1 := by rw [List.size_toArray, ← hl]; rfl
    rw [e]
    simp
end
section
variable {P : Program} {w : World} {K : Frag} {mg : Str → Option Value} {base : Heap}
/-! Look -/
def fLook : List (Str × V) := [("follow", .bl false), ("last", .bl false), ("owners", .non)]
def PLook (K : Frag) (H : Hp) (x : Addr) : Prop := InsF (He.ga K "Look") fLook H x
theorem InsF.same {C : Addr} {fs : List (Str × V)} {H H' : Hp} {x : Addr} (s : Same H H') (h : InsF C fs H x) : InsF C fs H' x := let ⟨dx, e⟩ := h; ⟨dx, s _ _ e⟩
theorem sc_Look : FnScope ["self", "follow", "last", "owners", "owner"] ["self", "follow", "last", "owners"] (defScope s_Look_init) := ⟨rfl, rfl, rfl, by decide +kernel, rfl, by decide +kernel, by decide +kernel⟩
theorem mk_Look (T : Txt K mg) : Mak P w K mg base 1 "Look" (He.ga K "Look") (spMkA (He.ga K "Look") (fun _ : Unit => [.bl false, .bl false, .non]) (fun _ _ => True) (fun _ => PLook K)) [] := by
  refine mak T.f_Look_init T.k_Look T.g_Look sc_Look (fun _ _ _ _ _ _ us hl => match us, hl with | [_, _, _, _], _ => rfl) (fun vs H Q E h => ?_) (fun cdv A outer s H vs Q E hr h => ?_)
  · obtain ⟨a, _, _, _, rfl, _⟩ := h
    rfl
  · obtain ⟨a, H1, x, dx, rfl, rfl, nx, ndx, ne, _, q⟩ := h
    have nd := sc_Look.nd
    refine ⟨_, pss_cons (ps_fld (pv 0) (pv 1) rfl) (pss_cons (ps_fld (pv 0) (pv 2) rfl) (pss_cons (ps_fld (pv 0) (pe_ifExp (pt_cmpR op_isN (pv 3) pe_non (nomark _)) pe_non pe_never) rfl)
      (pss_one (ps_for PassesOwn.never rfl (pi_tup (pe_ifExp (pt_cmpR op_notN (pe_fld (pv 0) rfl) pe_non (nomark _)) pe_never (pe_tup pa_nil))) (pg_name (i := 4) nd rfl (Or.inl rfl)) (pss_one (ps_if pt_never pss_never pss_nil)))))), ?_⟩
    refine ⟨_, rfl, _, rfl, x, _, dx, _, rfl, upd_same, T.c_Look, T.a_Look_follow, by decide, _, rfl, _, rfl, x, _, dx, _, rfl, upd_same, T.c_Look, T.a_Look_last, len1, ?_⟩
    refine ⟨_, rfl, rfl, _, rfl, iteT ⟨_, rfl, x, _, dx, _, rfl, upd_same, T.c_Look, T.a_Look_owners, len2, ?_⟩⟩
    have hx := (upd_same (H := upd (upd (upd (upd H1 dx (.own x)) x (.ins (He.ga K "Look") dx [])) x (.ins (He.ga K "Look") dx (putF "follow" (.bl false) []))) x (.ins (He.ga K "Look") dx (putF "last" (.bl false) (putF "follow" (.bl false) [])))) (a := x) (o := .ins (He.ga K "Look") dx (putF "owners" .non (putF "last" (.bl false) (putF "follow" (.bl false) []))))).trans (congrArg (fun z => some (HO.ins _ _ z)) (putF3 (by decide +kernel)))
    have s1 : Same H1 _ := sput (o := .ins (He.ga K "Look") dx (putF "owners" .non (putF "last" (.bl false) (putF "follow" (.bl false) [])))) (sput (o := .ins (He.ga K "Look") dx (putF "last" (.bl false) (putF "follow" (.bl false) []))) (sput (o := .ins (He.ga K "Look") dx (putF "follow" (.bl false) [])) (same_mk (C := He.ga K "Look") (fs := []) nx ndx) nx) nx) nx
    generalize upd (upd (upd (upd (upd H1 dx (.own x)) x (.ins (He.ga K "Look") dx [])) x (.ins (He.ga K "Look") dx (putF "follow" (.bl false) []))) x (.ins (He.ga K "Look") dx (putF "last" (.bl false) (putF "follow" (.bl false) [])))) x (.ins (He.ga K "Look") dx (putF "owners" .non (putF "last" (.bl false) (putF "follow" (.bl false) [])))) = H2 at s1 hx
    refine ⟨_, rfl, x, _, dx, _, _, rfl, hx, T.c_Look, T.a_Look_owners, rfl, rfl, _, rfl, iteF ⟨(by show 0 ≤ sizeLine; decide), fun p np => ⟨p, rfl, ⟨[], SqT.of upd_same⟩, ?_⟩⟩⟩
    have sp := same_new (o := .tup []) np
    have hp : upd H2 p (.tup []) p = some (.tup []) := upd_same
    generalize upd H2 p (.tup []) = H3 at sp hp
    refine for_it (walk_tup (xs := [])) (fun i σ Hi => Same H3 Hi) (Same.refl _) (fun i σ Hi _ h => SqT.of (h _ _ hp)) (fun i x σ Hj Hi hi hI hy => absurd hi (Nat.not_lt_zero _)) (fun σ Hi hI => ?_)
    exact q _ ((s1.trans sp).trans hI) ⟨dx, hI _ _ (sp _ _ hx)⟩
/-! accepts_owner -/
def spAccepts (K : Frag) : Sp := fun vs H Q _ => ∃ (x : Addr) (o : V), vs = [.ref x, o] ∧ PLook K H x ∧ Q (.bl true) H
theorem sc_accepts : FnScope ["self", "owner"] ["self", "owner"] (defScope s_Look_accepts_owner) := ⟨rfl, rfl, rfl, by decide +kernel, rfl, by decide +kernel, by decide +kernel⟩
theorem ok_accepts (T : Txt K mg) : Met P w K mg base 1 (He.ga K "Look") "accepts_owner" (spAccepts K) [] := by
  refine met T.f_Look_accepts_owner T.c_Look T.e_Look_accepts_owner sc_accepts (fun _ _ _ _ _ _ us hl => match us, hl with | [_, _], _ => rfl) (fun vs H Q E h => ?_) (fun cdv A outer s H vs Q E hr h => ?_)
  · obtain ⟨a, o, rfl, _⟩ := h
    rfl
  · obtain ⟨a, o, rfl, ⟨dx, e⟩, q⟩ := h
    refine ⟨_, pss_one (ps_ret (pe_or (pe_cmpR op_isN (pe_fld (pv 0) rfl) pe_non (nomark _)) pe_never)), ?_⟩
    exact ⟨_, rfl, a, _, dx, _, _, rfl, e, T.c_Look, T.a_Look_owners, rfl, rfl, _, rfl, iteT q⟩
/-! states -/
/-- at folder f, these steps are left -/
def PState (K : Frag) (H : Hp) (x : Addr) (f : Nat) (l : List Nat) (fo : Bool) : Prop := ∃ tp, InsF (He.ga K "State") (fState (.int f, .ref tp, .int 0, .bl fo)) H x ∧ H tp = some (.tup (nmV l))
theorem PState.same {H H' : Hp} {x : Addr} {f : Nat} {l : List Nat} {fo : Bool} (s : Same H H') (h : PState K H x f l fo) : PState K H' x f l fo := let ⟨tp, h1, h2⟩ := h; ⟨tp, h1.same s, s _ _ h2⟩
def spFirstState (K : Frag) : Sp := fun vs H Q _ => ∃ (a x : Addr) (t : Tr) (pl : Nat) (l : List Nat) (fo : Bool), vs = [.ref a, .int pl, .ref x] ∧ PTree K H a t ∧ isP t pl = true ∧ PPath K H x l fo ∧ ∀ r H', Same H H' → PState K H' r 0 l fo → Q (.ref r) H'
theorem sc_first_state : FnScope ["tree", "place", "path"] ["tree", "place", "path"] (defScope s_first_state) := ⟨rfl, rfl, rfl, by decide +kernel, rfl, by decide +kernel, by decide +kernel⟩
theorem ok_first_state (T : Txt K mg) : Cal P w K mg base 4 "first_state" (spFirstState K) [] := by
  refine cal T.f_first_state T.g_first_state sc_first_state (fun _ _ _ _ _ _ us hl => match us, hl with | [_, _, _], _ => rfl) (fun vs H Q E h => ?_) (fun cdv A outer s H vs Q E hr h => ?_)
  · obtain ⟨a, x, t, pl, l, fo, rfl, _⟩ := h
    rfl
  · obtain ⟨a, x, t, pl, l, fo, rfl, hT, hP, hx, q⟩ := h
    refine ⟨_, pss_cons (ps_expr (C8.pe_c (ok_check_place T) hr (by decide) rfl (pa_cons (pv 0) (pa_cons (pv 1) pa_nil))))
      (pss_one (ps_ret (C8.pe_mk (mk_State T) hr (by decide) rfl (pa_cons (pe_ifExp (pt_val (pe_fld (pv 2) rfl)) pe_int (pv 1)) (pa_cons (pe_fld (pv 2) rfl) (pa_cons pe_int (pa_cons (pe_fld (pv 2) rfl) pa_nil))))))), ?_⟩
    refine ⟨_, rfl, _, rfl, a, t, pl, rfl, hT, hP, fun H1 s1 => ?_⟩
    obtain ⟨dx, tp, h1, h2⟩ := hx.same s1
    refine ⟨_, rfl, x, _, dx, _, _, rfl, h1, T.c_Path, T.a_Path_absolute, rfl, _, rfl, iteT ⟨_, rfl, x, _, dx, _, _, rfl, h1, T.c_Path, T.a_Path_steps, rfl, _, rfl, x, _, dx, _, _, rfl, h1, T.c_Path, T.a_Path_folder, rfl, ?_⟩⟩
    intro y dy ny ndy ney
    exact ⟨(.int 0, .ref tp, .int 0, .bl fo), H1, y, dy, rfl, rfl, ny, ndy, ney, True.intro, fun H5 s5 hS => ⟨rfl, q _ _ (s1.trans s5) ⟨tp, hS, s5 _ _ h2⟩⟩⟩
/-! seen_node -/
def spSeenNode (K : Frag) : Sp := fun vs H Q _ => ∃ (a x : Addr) (t : Tr) (f k : Nat) (l : List Nat) (fo : Bool), vs = [.ref a, .ref x] ∧ PTree K H a t ∧ WF t ∧ isF t f = true ∧ k < 4 ∧ PState K H x f (k :: l) fo ∧ ∀ H', Same H H' → Q (optV (lookE k (ents t f))) H'
theorem sc_seen_node : FnScope ["tree", "state"] ["tree", "state"] (defScope s_seen_node) := ⟨rfl, rfl, rfl, by decide +kernel, rfl, by decide +kernel, by decide +kernel⟩
theorem ok_seen_node (T : Txt K mg) : Cal P w K mg base 5 "seen_node" (spSeenNode K) [] := by
  refine cal T.f_seen_node T.g_seen_node sc_seen_node (fun _ _ _ _ _ _ us hl => match us, hl with | [_, _], _ => rfl) (fun vs H Q E h => ?_) (fun cdv A outer s H vs Q E hr h => ?_)
  · obtain ⟨a, x, t, f, k, l, fo, rfl, _⟩ := h
    rfl
  · obtain ⟨a, x, t, f, k, l, fo, rfl, hT, wf, hF, hk, ⟨tp, ⟨dx, e⟩, h2⟩, q⟩ := h
    refine ⟨_, pss_one (ps_ret (pe_ifExp (pt_cmpR op_eq (pe_ix ix_tup (pe_fld (pv 1) rfl) pe_int (fun _ _ => rfl)) (C8.pe_gc (by rfl) T.v_UP) (nomark _)) pe_never
      (C8.pe_c (ok_node_at T) hr (by decide) rfl (pa_cons (pv 0) (pa_cons (pe_fld (pv 1) rfl) (pa_cons (pe_ix ix_tup (pe_fld (pv 1) rfl) pe_int (fun _ _ => rfl)) pa_nil)))))), ?_⟩
    refine ⟨_, rfl, x, _, dx, _, _, rfl, e, T.c_State, T.a_State_steps, rfl, tp, _, _, _, rfl, rfl, SqT.of h2, atI_nat (j := 0) rfl, rfl, _, rfl, ?_⟩
    rw [nm_up k hk]
    refine iteF ⟨_, rfl, _, rfl, x, _, dx, _, _, rfl, e, T.c_State, T.a_State_place, rfl, _, rfl, x, _, dx, _, _, rfl, e, T.c_State, T.a_State_steps, rfl, tp, _, _, _, rfl, rfl, SqT.of h2, atI_nat (j := 0) rfl, ?_⟩
    exact ⟨a, t, f, k, rfl, hT, wf, by unfold isP; rw [hF]; rfl, hk, q⟩
/-! behind_node -/
def Behind (K : Frag) (H : Hp) (v : V) (nd : Nd) (c : Nat) (l : List Nat) : Prop := match nd with
  | .fol _ _ => ∃ r, v = .ref r ∧ PState K H r c l false
  | _ => ∃ r, v = .ref r ∧ InsF (He.ga K "Came") (fCame (.int c)) H r
def spBehind (K : Frag) : Sp := fun vs H Q _ => ∃ (x p lk : Addr) (f k c : Nat) (l : List Nat) (nd : Nd), vs = [.ref x, .int c, .ref p, .ref lk] ∧ PState K H x f (k :: l) false ∧ PNode K H p nd ∧ PLook K H lk ∧ nd.isG = false ∧ (nd.isF = false → l = []) ∧
  ∀ v H', Same H H' → Behind K H' v nd c l → Q v H'
theorem sc_behind_node : FnScope ["state", "node", "thing", "look", "steps", "is_more"] ["state", "node", "thing", "look"] (defScope s_behind_node) := ⟨rfl, rfl, rfl, by decide +kernel, rfl, by decide +kernel, by decide +kernel⟩
theorem ok_behind_node (T : Txt K mg) : Cal P w K mg base 3 "behind_node" (spBehind K) [] := by
  refine cal T.f_behind_node T.g_behind_node sc_behind_node (fun _ _ _ _ _ _ us hl => match us, hl with | [_, _, _, _], _ => rfl) (fun vs H Q E h => ?_) (fun cdv A outer s H vs Q E hr h => ?_)
  · obtain ⟨x, p, lk, f, k, c, l, nd, rfl, _⟩ := h
    rfl
  · obtain ⟨x, p, lk, f, k, c, l, ndd, rfl, ⟨tp, ⟨dx, e⟩, h2⟩, hP, ⟨dl, hl⟩, hG, hF, q⟩ := h
    have nd := sc_behind_node.nd
    refine ⟨_, pss_cons (ps_set (i := 4) nd rfl (Or.inl rfl) (pe_slice sl_tupA (pe_fld (pv 0) rfl) (po_some pe_int) po_none))
      (pss_cons (ps_set (i := 5) nd rfl (Or.inl rfl) (pe_or (pe_cmpR (op_neNilT hr.units0) (pv 4) (pe_tup pa_nil) (nomark _)) (pe_one (pe_fld (pv 0) rfl))))
      (pss_cons (ps_if (pt_not (pt_val (C8.pe_mt (ok_accepts T) hr (by decide) (pv 3) (pa_cons (pe_fld (pv 2) rfl) pa_nil)))) pss_never pss_nil)
      (pss_cons (ps_if (pt_val (pe_callB call_isi (by rfl) T.n_isinstance (by decide +kernel) (pa_cons (pv 2) (pa_cons (pcls T.g_File) pa_nil))))
        (pss_one (ps_ret (pe_ifExp (pt_val (pv 5)) pe_never (C8.pe_mk (mk_Came T) hr (by decide) rfl (pa_cons (pv 1) pa_nil))))) pss_nil)
      (pss_cons (ps_if (pt_val (pe_callB call_isi (by rfl) T.n_isinstance (by decide +kernel) (pa_cons (pv 2) (pa_cons (pcls T.g_Link) pa_nil)))) pss_never pss_nil)
      (pss_one (ps_ret (C8.pe_mk (mk_State T) hr (by decide) rfl (pa_cons (pv 1) (pa_cons (pv 4) (pa_cons (pe_fld (pv 0) rfl) (pa_cons (pe_fld (pv 0) rfl) pa_nil))))))))))), ?_⟩
    have hcut : cutV (nmV (k :: l)) (some (1 : Int)) none = nmV l := (cut_from (nmV (k :: l)) 1).trans rfl
    have hw : ¬ (HT.sIx (nmV (k :: l)).length 0 (some 1) = 0 ∧ HT.sIx (nmV (k :: l)).length (nmV (k :: l)).length none = (nmV (k :: l)).length) := fun z => by
      have z1 := z.1
      rw [show (1 : Int) = ((1 : Nat) : Int) from rfl, HT.sIx_nat] at z1
      simp only [List.length_map, List.length_cons] at z1
      omega
    refine ⟨_, rfl, x, _, dx, _, _, rfl, e, T.c_State, T.a_State_steps, rfl, 1, rfl, tp, _, rfl, SqT.of h2, fun z => absurd z hw, fun _ b nb => ?_⟩
    rw [hcut]
    have s1 := same_new (o := .tup (nmV l)) nb
    have hb : upd H b (.tup (nmV l)) b = some (.tup (nmV l)) := upd_same
    generalize upd H b (.tup (nmV l)) = H1 at s1 hb
    refine ⟨_, rfl, (by show 0 ≤ sizeLine; decide), fun z nz => ⟨b, z, _, rfl, rfl, SqT.of (upd_at hb (ne_of_none hb nz)), SqT.of upd_same, _, rfl, ?_⟩⟩
    have s2 := snew (o := .tup []) s1 nz
    have hb2 := upd_at (o := .tup []) hb (ne_of_none hb nz)
    generalize upd H1 z (.tup []) = H2 at s2 hb2
    have e2 := s2 _ _ e
    have hP2 := hP.fx (sfx s2)
    have hl2 := s2 _ _ hl
    -- is_more
    have im : ∀ (R : V → Hp → Prop), R (.bl (!(nmV l).isEmpty)) H2 → (if (!(nmV l).isEmpty) = true then R (.bl true) H2 else (tFld K (tVar 0) "wanted") [some (.ref x), some (.int c), some (.ref p), some (.ref lk), some (.ref b), none] H2 R) := fun R hR => by
      cases l with
      | nil => exact iteF ⟨_, rfl, x, _, dx, _, _, rfl, e2, T.c_State, T.a_State_wanted, rfl, hR⟩
      | cons _ _ => exact iteT hR
    refine im _ ?_
    have own : ∃ C dn fs o, H2 p = some (.ins C dn fs) ∧ Cls K C ∧ NoAttr K C "owner" ∧ fs.lookup ("owner" : Str) = some o := by
      cases ndd with
      | fol o es => obtain ⟨dn, _, _, g, _⟩ := hP2; exact ⟨_, dn, _, _, g, T.c_Folder, T.a_Folder_owner, rfl⟩
      | fil o => obtain ⟨dn, g⟩ := hP2; exact ⟨_, dn, _, _, g, T.c_File, T.a_File_owner, rfl⟩
      | gon o a => cases hG
    obtain ⟨C, dn, fs, o, g1, g2, g3, g4⟩ := own
    refine ⟨_, rfl, lk, dl, _, rfl, hl2, rfl, _, rfl, p, _, dn, _, _, rfl, g1, g2, g3, g4, lk, o, rfl, ⟨dl, hl2⟩, _, rfl, iteF ?_⟩
    refine ⟨_, rfl, _, _, _, _, _, rfl, .own _, hP2.ty T, kit_File T ndd, _, rfl, ?_⟩
    cases ndd with
    | gon o a => cases hG
    | fil o =>
      cases hF rfl
      refine iteT ⟨_, rfl, _, rfl, iteF ⟨_, rfl, ?_⟩⟩
      intro y dy ny ndy ney
      exact ⟨.int c, H2, y, dy, rfl, rfl, ny, ndy, ney, True.intro, fun H5 s5 hS => ⟨rfl, q _ _ (s2.trans s5) ⟨y, rfl, hS⟩⟩⟩
    | fol o es =>
      refine iteF ⟨_, rfl, _, _, _, _, _, rfl, .own _, hP2.ty T, kit_Link T _, _, rfl, iteF ?_⟩
      refine ⟨_, rfl, _, rfl, _, rfl, x, _, dx, _, _, rfl, e2, T.c_State, T.a_State_links, rfl, _, rfl, x, _, dx, _, _, rfl, e2, T.c_State, T.a_State_wanted, rfl, ?_⟩
      intro y dy ny ndy ney
      exact ⟨(.int c, .ref b, .int 0, .bl false), H2, y, dy, rfl, rfl, ny, ndy, ney, True.intro, fun H5 s5 hS => ⟨rfl, q _ _ (s2.trans s5) ⟨y, rfl, b, hS, s5 _ _ hb2⟩⟩⟩
/-! look_once -/
def spLookOnce (K : Frag) : Sp := fun vs H Q _ => ∃ (a x lk : Addr) (t : Tr) (f k c : Nat) (l : List Nat) (nd : Nd), vs = [.ref a, .ref x, .ref lk] ∧ PTree K H a t ∧ WF t ∧ isF t f = true ∧ k < 4 ∧ lookE k (ents t f) = some c ∧ t[c]? = some nd ∧ PState K H x f (k :: l) false ∧ PLook K H lk ∧ nd.isG = false ∧ (nd.isF = false → l = []) ∧
  ∀ v H', Same H H' → Behind K H' v nd c l → Q v H'
theorem sc_look_once : FnScope ["tree", "state", "look", "node"] ["tree", "state", "look"] (defScope s_look_once) := ⟨rfl, rfl, rfl, by decide +kernel, rfl, by decide +kernel, by decide +kernel⟩
theorem ok_look_once (T : Txt K mg) : Cal P w K mg base 6 "look_once" (spLookOnce K) [] := by
  refine cal T.f_look_once T.g_look_once sc_look_once (fun _ _ _ _ _ _ us hl => match us, hl with | [_, _, _], _ => rfl) (fun vs H Q E h => ?_) (fun cdv A outer s H vs Q E hr h => ?_)
  · obtain ⟨a, x, lk, t, f, k, c, l, nd, rfl, _⟩ := h
    rfl
  · obtain ⟨a, x, lk, t, f, k, c, l, ndd, rfl, hT, wf, hF, hk, hlk, hc, hx, hl, hG, hN, q⟩ := h
    have nd := sc_look_once.nd
    refine ⟨_, pss_cons (ps_set (i := 3) nd rfl (Or.inl rfl) (C8.pe_c (ok_seen_node T) hr (by decide) rfl (pa_cons (pv 0) (pa_cons (pv 1) pa_nil))))
      (pss_one (ps_ret (pe_ifExp (pt_cmpR op_isN (pv 3) pe_non (nomark _)) pe_never (C8.pe_c (ok_behind_node T) hr (by decide) rfl (pa_cons (pv 1) (pa_cons (pv 3) (pa_cons (pe_ix ix_tup (pe_fld (pv 0) rfl) (pv 3) (fun _ _ => rfl)) (pa_cons (pv 2) pa_nil)))))))), ?_⟩
    refine ⟨_, rfl, _, rfl, a, x, t, f, k, l, false, rfl, hT, wf, hF, hk, hx, fun H1 s1 => ?_⟩
    rw [hlk]
    obtain ⟨dx, tp, ps, h1, h2, h3⟩ := hT.gx (sgx s1)
    obtain ⟨p, hp1, hp2⟩ := node_at h3 hc
    refine ⟨_, rfl, rfl, _, rfl, iteF ⟨_, rfl, _, rfl, _, rfl, a, _, dx, _, _, rfl, h1, T.c_Tree, T.a_Tree_nodes, rfl, _, rfl, tp, _, _, _, rfl, rfl, SqT.of h2, hp1, _, rfl, ?_⟩⟩
    exact ⟨x, p, lk, f, k, c, l, ndd, rfl, hx.same s1, hp2, hl.same s1, hG, hN, fun v H' s' hB => q v H' (s1.trans s') hB⟩
/-! ended -/
def spEnded (K : Frag) : Sp := fun vs H Q _ => ∃ x : Addr, vs = [.ref x] ∧ ((∃ (f : Nat) (l : List Nat) (fo : Bool), PState K H x f l fo ∧ (l ≠ [] → ∀ H', Same H H' → Q .non H') ∧ (l = [] → ∀ r H', Same H H' → InsF (He.ga K "Came") (fCame (.int f)) H' r → Q (.ref r) H')) ∨
  (∃ n : Nat, InsF (He.ga K "Came") (fCame (.int n)) H x ∧ Q (.ref x) H))
theorem sc_ended : FnScope ["state"] ["state"] (defScope s_ended) := ⟨rfl, rfl, rfl, by decide +kernel, rfl, by decide +kernel, by decide +kernel⟩
theorem ok_ended (T : Txt K mg) : Cal P w K mg base 3 "ended" (spEnded K) [] := by
  refine cal T.f_ended T.g_ended sc_ended (fun _ _ _ _ _ _ us hl => match us, hl with | [_], _ => rfl) (fun vs H Q E h => ?_) (fun cdv A outer s H vs Q E hr h => ?_)
  · obtain ⟨x, rfl, _⟩ := h
    rfl
  · obtain ⟨x, rfl, h⟩ := h
    refine ⟨_, pss_cons (ps_if (pt_not (pt_val (pe_callB call_isi (by rfl) T.n_isinstance (by decide +kernel) (pa_cons (pv 0) (pa_cons (pcls T.g_State) pa_nil))))) (pss_one (ps_ret (pv 0))) pss_nil)
      (pss_one (ps_ret (pe_ifExp (pt_cmpR (op_eqNilT hr.units0) (pe_fld (pv 0) rfl) (pe_tup pa_nil) (nomark _)) (C8.pe_mk (mk_Came T) hr (by decide) rfl (pa_cons (pe_fld (pv 0) rfl) pa_nil)) pe_non))), ?_⟩
    rcases h with ⟨f, l, fo, ⟨tp, ⟨dx, e⟩, h2⟩, q1, q2⟩ | ⟨n, ⟨dx, e⟩, q⟩
    · refine ⟨_, rfl, _, _, _, _, _, rfl, .own _, ty_ins T T.i_State T.c_State e, T.t_State_State, _, rfl, iteF ?_⟩
      refine ⟨_, rfl, x, _, dx, _, _, rfl, e, T.c_State, T.a_State_steps, rfl, (by show 0 ≤ sizeLine; decide), fun p np => ⟨tp, p, _, rfl, rfl, SqT.of (upd_at h2 (ne_of_none h2 np)), SqT.of upd_same, _, rfl, ?_⟩⟩
      have sp := same_new (o := .tup []) np
      generalize upd H p (.tup []) = H3 at sp
      cases l with
      | nil =>
        refine iteT ⟨_, rfl, x, _, dx, _, _, rfl, sp _ _ e, T.c_State, T.a_State_place, rfl, ?_⟩
        intro y dy ny ndy ney
        exact ⟨.int f, H3, y, dy, rfl, rfl, ny, ndy, ney, True.intro, fun H5 s5 hS => ⟨rfl, q2 rfl _ _ (sp.trans s5) hS⟩⟩
      | cons k l => exact iteF (q1 (by simp) _ sp)
    · exact ⟨_, rfl, _, _, _, _, _, rfl, .own _, ty_ins T T.i_Came T.c_Came e, T.t_Came_State, _, rfl, iteT ⟨_, rfl, q⟩⟩
/-! walk -/
/-- by these names from a folder to a node -/
inductive GoT (t : Tr) : Nat → List Nat → Nat → Prop where
  | nil {f : Nat} : isF t f = true → GoT t f [] f
  | fol {f k c n : Nat} {l : List Nat} : isF t f = true → k < 4 → lookE k (ents t f) = some c → isF t c = true → GoT t c l n → GoT t f (k :: l) n
  | fil {f k c : Nat} {o : Int} : isF t f = true → k < 4 → lookE k (ents t f) = some c → t[c]? = some (.fil o) → GoT t f [k] c
def spWalk (K : Frag) : Sp := fun vs H Q _ => ∃ (a x lk : Addr) (t : Tr) (pl n : Nat) (l : List Nat), vs = [.ref a, .int pl, .ref x, .ref lk] ∧ PTree K H a t ∧ WF t ∧ isP t pl = true ∧ PPath K H x l (decide (l = [])) ∧ PLook K H lk ∧ GoT t 0 l n ∧
  ∀ r H', Same H H' → InsF (He.ga K "Came") (fCame (.int n)) H' r → Q (.ref r) H'
theorem sc_walk : FnScope ["tree", "place", "path", "look", "state"] ["tree", "place", "path", "look"] (defScope s_walk) := ⟨rfl, rfl, rfl, by decide +kernel, rfl, by decide +kernel, by decide +kernel⟩
theorem ok_walk (T : Txt K mg) : Cal P w K mg base 7 "walk" (spWalk K) [] := by
  refine cal T.f_walk T.g_walk sc_walk (fun _ _ _ _ _ _ us hl => match us, hl with | [_, _, _, _], _ => rfl) (fun vs H Q E h => ?_) (fun cdv A outer s H vs Q E hr h => ?_)
  · obtain ⟨a, x, lk, t, pl, n, l, rfl, _⟩ := h
    rfl
  · obtain ⟨a, x, lk, t, pl, n, l, rfl, hT, wf, hpl, hx, hl, hg, q⟩ := h
    have nd := sc_walk.nd
    refine ⟨_, pss_cons (ps_set (i := 4) nd rfl (Or.inl rfl) (C8.pe_c (ok_first_state T) hr (by decide) rfl (pa_cons (pv 0) (pa_cons (pv 1) (pa_cons (pv 2) pa_nil)))))
      (pss_cons (ps_while PassesOwn.never (pt_cmpR op_isN (C8.pe_c (ok_ended T) hr (by decide) rfl (pa_cons (pv 4) pa_nil)) pe_non (nomark _))
        (pss_one (ps_set (i := 4) nd rfl (Or.inl rfl) (C8.pe_c (ok_look_once T) hr (by decide) rfl (pa_cons (pv 0) (pa_cons (pv 4) (pa_cons (pv 3) pa_nil)))))))
      (pss_one (ps_ret (C8.pe_c (ok_ended T) hr (by decide) rfl (pa_cons (pv 4) pa_nil))))), ?_⟩
    refine ⟨_, rfl, _, rfl, _, rfl, a, x, t, pl, l, _, rfl, hT, hpl, hx, fun r1 H1 s1 hS => ?_⟩
    let W : Nat → L2.St → Hp → Prop := fun μ σ Hc => ∃ y, σ = [some (.ref a), some (.int (pl : Nat)), some (.ref x), some (.ref lk), some (.ref y)] ∧ Same H Hc ∧ ((μ = 0 ∧ InsF (He.ga K "Came") (fCame (.int n)) Hc y) ∨ ∃ f l fo, μ = l.length + 1 ∧ PState K Hc y f l fo ∧ GoT t f l n ∧ (l ≠ [] → fo = false))
    refine ⟨W, ⟨l.length + 1, r1, rfl, s1, .inr ⟨0, l, _, rfl, hS, hg, fun h => decide_eq_false h⟩⟩, ?_⟩
    rintro μ σ Hc ⟨y, rfl, sc, h⟩
    rcases h with ⟨rfl, hC⟩ | ⟨f, l, fo, rfl, hS, hg, hfo⟩
    · refine ⟨_, rfl, y, rfl, .inr ⟨n, hC, rfl, _, rfl, iteF ?_⟩⟩
      exact ⟨_, rfl, y, rfl, .inr ⟨n, hC, q _ _ sc hC⟩⟩
    · refine ⟨_, rfl, y, rfl, .inl ⟨f, l, fo, hS, fun hne H2 s2 => ⟨rfl, _, rfl, iteT ?_⟩, fun h0 r H2 s2 hC => ⟨rfl, _, rfl, iteF ?_⟩⟩⟩
      · have sc2 := sc.trans s2
        refine ⟨fun σ' H' => ∃ m', m' < l.length + 1 ∧ W m' σ' H', fun _ _ h => h, ?_⟩
        cases hfo hne
        cases hg with
        | nil => exact absurd rfl hne
        | @fol _ k c _ l' hF hk hlk hFc hg' =>
          obtain ⟨oc, hc⟩ := isF_fol hFc
          have hcF := (isF_at hc).symm.trans hFc
          generalize Nd.fol oc (ents t c) = nd at hc hcF
          cases nd with
          | fol o es =>
            refine ⟨_, rfl, _, rfl, _, rfl, a, y, lk, t, f, k, c, l', _, rfl, hT.gx (sgx sc2), wf, hF, hk, hlk, hc, hS.same s2, hl.same sc2, rfl, (fun z => nomatch z), fun v H3 s3 hB => ?_⟩
            obtain ⟨r, rfl, hr⟩ := hB
            exact ⟨l'.length + 1, by simp, r, rfl, sc2.trans s3, .inr ⟨c, l', false, rfl, hr, hg', fun _ => rfl⟩⟩
          | fil o => cases hcF
          | gon o a => cases hcF
        | @fil _ k c o hF hk hlk hc =>
          refine ⟨_, rfl, _, rfl, _, rfl, a, y, lk, t, f, k, _, [], _, rfl, hT.gx (sgx sc2), wf, hF, hk, hlk, hc, hS.same s2, hl.same sc2, rfl, fun _ => rfl, fun v H3 s3 hB => ?_⟩
          obtain ⟨r, rfl, hr⟩ := hB
          exact ⟨0, by simp, r, rfl, sc2.trans s3, .inl ⟨rfl, hr⟩⟩
      · subst h0
        cases hg with
        | nil hF =>
          refine ⟨_, rfl, y, rfl, .inl ⟨_, [], fo, hS.same s2, fun hne => absurd rfl hne, fun _ r3 H3 s3 hC3 => q _ _ ((sc.trans s2).trans s3) hC3⟩⟩
end
end NW
set_option Elab.async false
set_option linter.all false
set_option maxRecDepth 100000
set_option maxHeartbeats 4000000
/-! W18: sorted of a dict whose keys are tuples of ints, of any lengths. -/
namespace NW.ST
open PySem PySem.Calls PyProof.Rows
open Srt (Tot Sortable)
section
variable {prog : Program} {w : World} {A : Around} {E : Value → Shared → Prop} {s : Shared}
theorem lex_tot {b fin : Bool} : ∀ {xs ys : List Value} {ns ms : List Int}, IntsAre xs ns → IntsAre ys ms → ∃ c : Bool, ∀ i, PySem.W.KatLex prog w A b fin (fun r s' => s' = s ∧ r = c) (xs.zip ys) i s
  | [], _, _, _, .nil, _ => ⟨fin, fun i => PySem.W.kat_nil ⟨rfl, rfl⟩⟩
  | _ :: _, [], _, _, .cons _ _ _, .nil => ⟨fin, fun i => PySem.W.kat_nil ⟨rfl, rfl⟩⟩
  | _, _, _, _, .cons p t hx, .cons q u hy => by
    obtain ⟨c, hc⟩ := lex_tot (b := b) (fin := fin) hx hy
    by_cases e : p = q
    · subst e
      refine ⟨c, fun i => ?_⟩
      refine PySem.W.kat_cons (wpAny_eqBool_int ?_)
      rw [beq_self_eq_true]
      exact PySem.W.kat_yes (hc (i + 1))
    · refine ⟨decide (p < q), fun i => ?_⟩
      refine PySem.W.kat_cons (wpAny_eqBool_int ?_)
      rw [show (p == q) = false from beq_eq_false_iff_ne.mpr e]
      exact PySem.W.kat_no (TS.oneLt_ints _ ⟨rfl, rfl⟩)
theorem tot_tuples {vs : List Value} (hp : ∀ v ∈ vs, ∃ ns, TS.TupInts s.heap v ns) : Tot prog w A s (tuples' true) (fun p => p.1 ∈ vs) := by
  intro p q hm hm'
  obtain ⟨ns, a, xs, e, ⟨o, ho, hc, n, hd⟩, i⟩ := hp _ hm
  obtain ⟨ms, a', xs', e', ⟨o', ho', hc', n', hd'⟩, i'⟩ := hp _ hm'
  obtain ⟨c, h⟩ := lex_tot (prog := prog) (w := w) (A := A) (s := s) (b := true) (fin := decide (xs.size < xs'.size)) i i'
  rw [e, e']
  exact ⟨c, PySem.W.kat_lt ho hd ho' hd' (h 0)⟩
theorem oneLt_tup (c : Bool) {a b : Addr} {xs ys : Array Value} {ns ms : List Int} {Q : Bool → Shared → Prop} (hu : A.units < cLine) (h1 : s.heap.IsTuple a xs) (h2 : s.heap.IsTuple b ys) (i1 : IntsAre xs.toList ns) (i2 : IntsAre ys.toList ms) (h : Q (HT.lexLt ns ms) s) :
    wpAny (model prog w) A (oneLt' c (.ref a) (.ref b)) Q E s := by
  cases c with
  | false => exact PySem.W.kat_one _ _ (HT.lt_tupInts h1 h2 i1 i2 hu (Q := PySem.W.BoolBack Q) h)
  | true =>
    obtain ⟨⟨cls, dd, data, sl⟩, ho, hc, n, hd⟩ := id h1
    obtain ⟨⟨cls2, dd2, data2, sl2⟩, ho2, hc2, n2, hd2⟩ := id h2
    simp only at hc hd hc2 hd2
    subst hc hd hc2 hd2
    rw [oneLt'_eq]
    simp only [if_true]
    refine wpAny_bind (wpAny_cRoomFor hu ?_)
    refine wpAny_bind (wpAny_callSpecialIfBound?_slot (T := "tuple") ⟨_, ho, rfl⟩ PySem.F.slot_tuple_lt (call_meets PySem.F.slot_tuple_lt ⟨_, ho, rfl⟩ PySem.F.entry_tuple_lt (PySem.F.args_tuple_lt_2 _ _) (HT.tuple_lt_ints a b xs ys n n2 dd dd2 sl sl2 ns ms i1 i2) ⟨ho, ho2, ?_⟩))
    exact wpAny_truthy_bool h
theorem tot_one {κ : SortKind} {vs : List Value} (c : Bool) (hκ : ∀ x y, keyLt' κ x y = oneLt' c x y) (hu : A.units < cLine) (hp : ∀ v ∈ vs, ∃ ns, TS.TupInts s.heap v ns) : Tot prog w A s κ (fun p => p.1 ∈ vs) := by
  intro p q hm hm'
  obtain ⟨ns, a, xs, e, t, i⟩ := hp _ hm
  obtain ⟨ms, a', xs', e', t', i'⟩ := hp _ hm'
  rw [e, e', hκ]
  exact ⟨HT.lexLt ns ms, oneLt_tup c hu t t' i i' ⟨rfl, rfl⟩⟩
theorem firsts_any : ∀ vs : List Value, (∀ v ∈ vs, ∃ ns, TS.TupInts s.heap v ns) → ∃ gs : List (Option Value), ((gs.all fun x => x.isSome) = true → ∀ v ∈ vs, ∃ ns, TS.TupInts s.heap v ns ∧ ns ≠ []) ∧ ∀ (M : Model) (A : Around) (E : Value → Shared → Prop) (Q : List (Option Value) → Shared → Prop), Q gs s → wpAny M A (vs.mapM firstOfTuple') Q E s
  | [], _ => ⟨[], fun _ _ h => absurd h (by simp), fun M A E Q h => by rw [List.mapM_nil]; exact wpAny_pure h⟩
  | v :: vs, h => by
    obtain ⟨gs, ig, ih⟩ := firsts_any vs fun u hu => h u (List.mem_cons_of_mem _ hu)
    obtain ⟨ns, a, xs, rfl, ⟨o, ho, hc, n, hd⟩, i⟩ := h v (List.mem_cons_self ..)
    refine ⟨xs[0]? :: gs, fun hg u hu => ?_, fun M A E Q hQ => ?_⟩
    · rw [List.all_cons, Bool.and_eq_true] at hg
      rcases List.mem_cons.mp hu with rfl | hu
      · refine ⟨ns, ⟨a, xs, rfl, ⟨o, ho, hc, n, hd⟩, i⟩, fun z => ?_⟩
        subst z
        have h1 := hg.1
        rw [← Array.getElem?_toList] at h1
        cases hxs : xs.toList with
        | nil => rw [hxs] at h1; cases h1
        | cons y ys => rw [hxs] at i; cases i
      · exact ig hg.2 u hu
    rw [List.mapM_cons]
    refine wpAny_bind ?_
    rw [PySem.W.kas_first_eq]
    refine wpAny_bind (PySem.W.Looks.here (show PySem.W.Looks M s.heap (typeOf (.ref a)) o.cls from (PySem.W.Looks.ld ho).andThen .now) ?_)
    rw [hc, if_neg (by first | decide | simp)]
    refine wpAny_bind (listItems_at ho hd (wpAny_pure ?_))
    exact wpAny_bind (ih M A E (fun bs s' => wpAny M A (pure (xs[0]? :: bs)) Q E s') (wpAny_pure hQ))
theorem firsts_all {h : Heap} : ∀ {vs : List Value}, (∀ v ∈ vs, ∃ ns, TS.TupInts h v ns ∧ ns ≠ []) → ∃ fs : List Value, PySem.W.KatTups h vs fs ∧ fs.length = vs.length ∧ ∀ f ∈ fs, ∃ x t, f = Value.int x t
  | [], _ => ⟨[], PySem.W.KatTups.nil, rfl, fun _ hm => by simp at hm⟩
  | v :: vs, hp => by
    obtain ⟨fs, h1, h2, h3⟩ := firsts_all (vs := vs) fun v' hm => hp v' (List.mem_cons_of_mem _ hm)
    obtain ⟨ns, ⟨a, xs, e, ⟨o, ho, hc, n, hd⟩, i⟩, hne⟩ := hp v (List.mem_cons_self ..)
    subst e
    obtain ⟨x, t, hx⟩ : ∃ x t, xs[0]? = some (Value.int x t) := by
      rw [← Array.getElem?_toList]
      cases hxs : xs.toList with
      | nil =>
        rw [hxs] at i
        cases i
        exact absurd rfl hne
      | cons y ys =>
        rw [hxs] at i
        cases i with
        | cons p t r => exact ⟨p, t, rfl⟩
    refine ⟨.int x t :: fs, PySem.W.KatTups.cons ho hc hd hx h1, by rw [List.length_cons, List.length_cons, h2], fun f hm => ?_⟩
    rcases List.mem_cons.mp hm with rfl | hm
    · exact ⟨x, t, rfl⟩
    · exact h3 f hm
theorem tups_sortable {a : Addr} {vs : List Value} (hu : A.units < cLine) (h0 : 0 < vs.length) (hp : ∀ v ∈ vs, ∃ ns, TS.TupInts s.heap v ns) (ha : ∀ o, s.heap.get? a = some o → o.cls ≠ .type "tuple") : Sortable prog w A s a vs := by
  intro h' keep
  have hp' : ∀ v ∈ vs, ∃ ns, TS.TupInts h' v ns := fun v hm => by
    obtain ⟨ns, p⟩ := hp v hm
    exact ⟨ns, p.keeps fun b o e c => keep b o (fun z => by subst z; exact ha o e c) e⟩
  by_cases hall : ∀ v ∈ vs, ∃ ns, TS.TupInts h' v ns ∧ ns ≠ []
  · obtain ⟨fs, h1, h2, h3⟩ := firsts_all hall
    refine ⟨tuples' true, fun Q E hq => ?_, tot_tuples (s := { s with heap := h' }) hp'⟩
    refine PySem.W.kat_kind (T := .type "int") h1 (by omega) (fun f hm => ?_) (by rfl) ?_
    · obtain ⟨x, t, rfl⟩ := h3 f hm
      exact PySem.W.Looks.now
    · have e : (Value.type "int" != Value.type "tuple") = true := by first | decide +kernel | rfl | decide
      rw [e]
      exact hq
  · obtain ⟨gs, ig, ih⟩ := firsts_any (s := { s with heap := h' }) vs hp'
    have hno : (gs.all fun x => x.isSome) = false := by
      cases hb : gs.all fun x => x.isSome with
      | false => rfl
      | true => exact absurd (ig hb) hall
    have pre : ∀ (Q : SortKind → Shared → Prop) (E : Value → Shared → Prop), wpAny (model prog w) A (if ((gs.toArray[0]?).bind id).isSome = true then pure general' else do
        return if (← oneTypeOnly' vs.toArray).isSome then oneType' else general') Q E { s with heap := h' } → wpAny (model prog w) A (keyKind' vs.toArray) Q E { s with heap := h' } := fun Q E hq => by
      rw [kat_kind_eq, List.mapM_toArray, map_eq_pure_bind]
      refine wpAny_bind (wpAny_bind (ih _ _ _ _ (wpAny_pure ?_)))
      rw [if_neg (by simpa using hno)]
      exact hq
    by_cases hf : ((gs.toArray[0]?).bind id).isSome = true
    · refine ⟨general', fun Q E hq => pre Q E ?_, tot_one false (fun _ _ => rfl) hu (s := { s with heap := h' }) hp'⟩
      rw [if_pos hf]
      exact wpAny_pure hq
    · refine ⟨oneType', fun Q E hq => pre Q E ?_, tot_one true (fun _ _ => rfl) hu (s := { s with heap := h' }) hp'⟩
      rw [if_neg hf, oneTypeOnly'_eq, List.mapM_toArray, map_eq_pure_bind]
      refine wpAny_bind (wpAny_bind (wpAny_bind (PySem.W.kas_mapM (r := .type "tuple") _ (fun v hv Q' hq' => ?_) (wpAny_pure ?_))))
      · obtain ⟨ns, a2, xs, rfl, ⟨o, ho, hc, n, hd⟩, i⟩ := hp' v hv
        exact PySem.W.Looks.here (show PySem.W.Looks _ h' (typeOf (.ref a2)) (.type "tuple") from hc ▸ (PySem.W.Looks.ld ho).andThen .now) hq'
      · have hall2 : ((List.map (fun _ => Value.type "tuple") vs).toArray.all fun x => x == Value.type "tuple") = true := by
          simp only [List.all_toArray, List.all_map, List.all_eq_true]
          intro _ _
          rfl
        obtain ⟨v1, vr, rfl⟩ : ∃ v1 vr, vs = v1 :: vr := by
          cases vs with
          | nil => exact absurd h0 (by simp)
          | cons v1 vr => exact ⟨v1, vr, rfl⟩
        have h1 : (List.map (fun _ => Value.type "tuple") (v1 :: vr)).toArray[0]? = some (Value.type "tuple") := by simp
        rw [h1]
        simp only [hall2, if_true]
        exact wpAny_pure (wpAny_pure hq)
end
end NW.ST

namespace NW.ST
open PySem PySem.Spec PyProof.Rows L2
theorem perm_map_inv {α β : Type} {f : α → β} : ∀ {out : List β} {l : List α}, out.Perm (l.map f) → ∃ l' : List α, l'.Perm l ∧ out = l'.map f
  | [], l, h => by
    have : l = [] := by
      cases l with
      | nil => rfl
      | cons a l => exact absurd h.length_eq (by simp)
    subst this
    exact ⟨[], List.Perm.refl _, rfl⟩
  | x :: out, l, h => by
    obtain ⟨a, ha, rfl⟩ := List.mem_map.mp (h.mem_iff.mp List.mem_cons_self)
    obtain ⟨u, v, rfl⟩ := List.append_of_mem ha
    have h2 : out.Perm ((u ++ v).map f) := by
      refine List.Perm.cons_inv (a := f a) (h.trans ?_)
      rw [List.map_append, List.map_cons, List.map_append]
      exact List.perm_middle
    obtain ⟨l', p, e⟩ := perm_map_inv h2
    exact ⟨a :: l', (p.cons a).trans List.perm_middle.symm, by rw [e]; rfl⟩
section
variable {X : Cx}
theorem call_sortedDT (hcalm : X.calm = true) {k : Nat} (hr : Room (k + 2) X.A) : CallR X (.builtin "sorted") (fun xs H Q => ∃ (d : Addr) (kvs : List (List Key × V)), xs = [.ref d] ∧ Rd H d (.dT kvs) ∧ (∀ e ∈ kvs, ∃ ns : List Int, e.1 = ns.map Sum.inl) ∧
    ∀ (p : Addr) (bs : List Addr) (kvs' : List (List Key × V)), H p = none → kvs'.Perm kvs → IsKeys H kvs' bs → Q (.ref p) (upd H p (.lst (bs.map V.ref)))) := by
  intro pins s σ H xs us Q I r q
  obtain ⟨d, kvs, rfl, hd, hints, q⟩ := q
  obtain ⟨u, rfl, rx⟩ := r.one
  cases rx
  obtain ⟨z, hs, ks, pr, o, es, ep, ho, hx, hdt, he, hn⟩ := (show ObjOk X.prog X.w H s.heap d (.dT kvs) from hd.ok I.hok)
  have l1 : es.size = ks.length := size_of_entries he
  have l2 : kvs.length = ks.length := Paired.length pr
  have hu : X.A.in1.in1.units < cLine := hr.in1.in1.units0
  refine Calls.call_function_entry PyProof.Rows.kind_sorted PyProof.Rows.plain_sorted PyProof.Rows.entry_sorted (PyProof.Rows.args_sorted1 _) ?_
  unfold Builtin.«sorted»
  refine wpAny_bind (m := checkCount "sorted" 1 1 _) (wpAny_pure ?_)
  refine wpAny_bind (PySem.W.kdu_collect (A := X.A.in1) (kdl_raw hs hx hdt) (I.ok.hd hcalm) ho (by omega) fun h' tk acc hk it => ?_)
  have ea : acc.toList = (ks.map fun x => x.2.1).map Value.ref := by
    have hl : acc.toList.length = ks.length := by rw [Array.length_toList, it.1]; exact l1
    apply List.ext_getElem?
    intro j
    rw [List.map_map, List.getElem?_map]
    cases hj : acc.toList[j]? with
    | none =>
      have h1 := List.getElem?_eq_none_iff.mp hj
      rw [List.getElem?_eq_none (by omega)]
      all_goals rfl
    | some v =>
      obtain ⟨en, hen, hv⟩ := it.2 j v (by rw [← Array.getElem?_toList]; exact hj)
      have qe := entry_at he j
      rw [hen] at qe
      cases hb : ks[j]? with
      | none =>
        rw [hb] at qe
        exact nomatch (show some en = none from qe)
      | some b =>
        rw [hb] at qe
        have e2 : en = entryOfKey (tupleKind (mixKind X.prog X.w)) b := Option.some.inj qe
        rw [hv, e2]
        all_goals rfl
  have I1 : Inv X pins σ H { s with heap := h', toks := tk } := I.kept hk
  have hal : acc.toList.length = ks.length := by rw [ea, List.length_map, List.length_map]
  refine wpAny_bind (wpAny_newList ?_ (by rw [hal]; omega))
  have hoL : (h'.push (seqObj "list" acc.toList.toArray 0)).get? h'.objs.size = some (seqObj "list" acc.toList.toArray 0) := Heap.get?_push_size _ rfl
  show wpAny _ _ _ _ _ { s with heap := h'.push (seqObj "list" acc.toList.toArray 0), toks := tk }
  have hkeys : ∀ v ∈ acc.toList, ∃ ns, TS.TupInts h' v ns := fun v hv => by
    rw [ea, List.map_map] at hv
    obtain ⟨x, hx1, rfl⟩ := List.mem_map.mp hv
    obtain ⟨j, hj⟩ := List.getElem?_of_mem hx1
    obtain ⟨e, he1, hp1, hp2, hp3⟩ := Pget pr hj
    obtain ⟨ns, hns⟩ := hints e (List.mem_of_getElem? he1)
    have ht : H x.2.1 = some (.tup (ns.map V.int)) := by
      rw [hp2, hns, List.map_map]
      rfl
    obtain ⟨_, its, rv, hto⟩ := (show ObjOk X.prog X.w H h' x.2.1 (.tup (ns.map V.int)) from I1.hok _ _ ht)
    exact ⟨ns, x.2.1, its.toArray, rfl, hto, intsAre_of rv⟩
  refine wpAny_bind (wpAny_holding (wpAny_call_entry PyProof.Rows.slot_list_sort ⟨_, hoL, rfl⟩ PyProof.Rows.entry_list_sort
    (Srt.list_sort_any (s := { s with heap := h'.push (seqObj "list" acc.toList.toArray 0), toks := tk }) hoL (by rw [hal]; omega) (fun h2 => tups_sortable hu (by omega) (fun v hv => ?_) fun o e => ?_) fun out hp => ⟨_, rfl, ?_⟩)
    (PyProof.Rows.args_list_sort _)))
  · obtain ⟨ns, hns⟩ := hkeys v hv
    exact ⟨ns, hns.keeps fun b o e _ => Heap.get?_push_of_some _ e⟩
  · have e' : some o = some (seqObj "list" acc.toList.toArray 0) := e.symm.trans hoL
    cases e'
    intro c
    exact absurd (Value.type.inj c) (by decide)
  · have hp2 : out.Perm ((kvs.zip (ks.map fun x => x.2.1)).map fun z => Value.ref z.2) := by
      have e : (kvs.zip (ks.map fun x => x.2.1)).map (fun z => Value.ref z.2) = acc.toList := by
        rw [ea]
        have h1 : (kvs.zip (ks.map fun x => x.2.1)).map (fun z => z.2) = ks.map fun x => x.2.1 := List.map_snd_zip (by rw [List.length_map]; omega)
        rw [← h1, List.map_map, h1]
        rfl
      rw [e]
      exact hp
    obtain ⟨Z, pz, rfl⟩ := perm_map_inv hp2
    have hZ : ∀ z ∈ Z, H z.2 = some (.tup (z.1.1.map kV)) := fun z hz => by
      obtain ⟨j, hj⟩ := List.getElem?_of_mem (pz.mem_iff.mp hz)
      rw [List.getElem?_zip_eq_some] at hj
      obtain ⟨h1, h2⟩ := hj
      rw [List.getElem?_map] at h2
      cases hx2 : ks[j]? with
      | none => rw [hx2] at h2; cases h2
      | some x =>
        rw [hx2] at h2
        obtain ⟨e, he1, hp1, hp2, hp3⟩ := Pget pr hx2
        rw [h1] at he1
        cases he1
        rw [← Option.some.inj h2]
        exact hp2
    have hkv : (Z.map (·.1)).Perm kvs := by
      have := pz.map (·.1)
      rw [List.map_fst_zip (by rw [List.length_map]; omega)] at this
      exact this
    have hIK : IsKeys H (Z.map (·.1)) (Z.map (·.2)) := by
      unfold IsKeys
      clear pz hp2 hp hkv
      induction Z with
      | nil => exact .nil
      | cons z Z ih => exact .cons (hZ z List.mem_cons_self) (ih fun y hy => hZ y (List.mem_cons_of_mem _ hy))
    have hlen : ((Z.map (·.2)).map V.ref).length ≤ sizeLine := by
      have := hkv.length_eq
      simp only [List.length_map] at this ⊢
      omega
    obtain ⟨e', he'⟩ := PyProof.Rows.sortedHeap_at (vs := acc.toList) (out := (Z.map fun z => Value.ref z.2).toArray) hoL
    refine wpAny_pure ⟨_, rfl, .ref h'.objs.size, upd H h'.objs.size (.lst ((Z.map (·.2)).map V.ref)), I1.laid (t' := tk) (fun b u e => ?_) (Nat.le_refl _)
      (show ObjOk X.prog X.w _ _ _ (.lst ((Z.map (·.2)).map V.ref)) from ⟨hlen, Z.map fun z => Value.ref z.2, e', ?_, he'⟩), rfl, q _ _ _ (I1.hok.fresh (Nat.le_refl _)) hkv hIK⟩
    · have hb : b < h'.objs.size := Heap.lt_size e
      rw [PyProof.Rows.sortedHeap_old (Nat.ne_of_lt hb) (by rw [size_push']; exact Nat.lt_succ_of_lt hb)]
      exact Heap.get?_push_of_some _ e
    · have := vals_refs (Z.map (·.2))
      rw [List.map_map (l := Z) (g := Value.ref)] at this
      exact this
end
end NW.ST
set_option Elab.async false
set_option linter.all false
set_option maxRecDepth 100000
set_option maxHeartbeats 4000000
/-! W19: t * k for k = 1 too. -/
namespace NW.ST
open PySem PySem.Spec PyProof.Rows L2
open PySem.SeqAt AutoSeq1
theorem tuple_mul1 (l : Addr) (items : Array Value) (n : Nat) (dd : Option Addr) (sl : Array (Option Value)) (u : Tok) :
    Meets (Builtin.«tuple.__mul__» ⟨[.ref l, .int 1 u], []⟩) (fun _ R s => s.heap.get? l = some { cls := .type "tuple", dict := dd, data := .seq items n, slots := sl } ∧
      R (.ok (.ret (Value.ref l))) s) :=
  .of_wp fun prog w A R s h => by
    obtain ⟨hp, g, d, tk, os⟩ := s
    obtain ⟨hl, h⟩ := h
    have f1 := AutoSeq1.idx_int
    wp_walk using wpAny_loadPart' hl
    exact ⟨_, rfl, h⟩
section
variable {X : Cx}
theorem op_rep1 : OpR X (binaryOp .Mult) (fun x y H Q => ∃ l xs, x = .ref l ∧ y = .int 1 ∧ SqT X.K H l xs ∧ Q (.ref l) H) := by
  intro pins s σ H x y v u Q I rx ry h
  obtain ⟨l, xs, rfl, rfl, hT, q⟩ := h
  cases rx
  obtain ⟨t, rfl⟩ := ry
  obtain ⟨its, r, ⟨⟨cls, dd, data, sl⟩, ho, hc, n, hd⟩, hs⟩ := I.tuple hT
  simp only at hc hd
  subst hc hd
  refine wpAny_binaryOp_repeat_ref (T := "tuple") (U := "int") (by decide) ⟨_, ho, rfl⟩ (fun s' => typeIs_int s' 1 t) noFill_tuple_mul F.fills_int_mul F.slot_int_rmul repeat_tuple F.slot_int_index.lookup
    (call_meets F.slot_int_rmul (typeIs_int s 1 t) F.entry_int_rmul (F.args_int_rmul_2 _ _) (int_rmul_tuple 1 t l its.toArray n dd sl)
      ⟨ho, rfl, ⟨_, ho, rfl⟩, call_meets F.slot_tuple_mul ⟨_, ho, rfl⟩ F.entry_tuple_mul (F.args_tuple_mul_2 _ _) (tuple_mul1 l its.toArray n dd sl t) ⟨ho, ?_⟩⟩)
  exact ⟨.ref l, H, I, rfl, q⟩
theorem op_or {op : Value → Value → Sem Value} {r1 r2 : R2} (h1 : OpR X op r1) (h2 : OpR X op r2) : OpR X op (fun x y H Q => r1 x y H Q ∨ r2 x y H Q) := by
  intro pins s σ H x y v u Q I rx ry h
  rcases h with h | h
  · exact h1 pins s σ H x y v u Q I rx ry h
  · exact h2 pins s σ H x y v u Q I rx ry h
/-- (i,) * k, k at least 1 -/
def rRepA (K : PySem.W.Frag) : R2 := fun x y H Q => ∃ (l : Addr) (k : Nat) (v : V), x = .ref l ∧ y = .int k ∧ H l = some (.tup [v]) ∧ 1 ≤ k ∧ k ≤ 1000 ∧ ∀ p H', (∀ a o, H a = some o → H' a = some o) → H' p = some (.tup (List.replicate k v)) → Q (.ref p) H'
theorem op_repA : OpR X (binaryOp .Mult) (rRepA X.K) := by
  intro pins s σ H x y v u Q I rx ry h
  obtain ⟨l, k, z, rfl, rfl, hT, h1, h2, q⟩ := h
  by_cases hk : k = 1
  · subst hk
    exact op_rep1 pins s σ H _ _ v u Q I rx ry ⟨l, [z], rfl, rfl, SqT.of hT, q l H (fun _ _ e => e) hT⟩
  · refine op_repT pins s σ H _ _ v u Q I rx ry ⟨l, k, [z], rfl, rfl, SqT.of hT, by simp, by omega, by omega, by simp, fun p np => q p _ (fun a o e => by rw [upd_ne (ne_of_none e np)]; exact e) ?_⟩
    rw [upd_same]
    have : (List.replicate (Int.toNat ((k : Nat) : Int)) [z]).flatten = List.replicate k z := by
      rw [Int.toNat_natCast]
      induction k with
      | zero => rfl
      | succ k ih => simp [List.replicate_succ]
    rw [this]
end
end NW.ST
set_option Elab.async false
set_option linter.all false
set_option maxRecDepth 100000
set_option maxHeartbeats 4000000
/-! W20: d.values(), x in d.values(). -/
namespace NW.ST
open PySem PySem.Spec PyProof.Rows L2
theorem entry_cit : entryFor table "proto.contains_iter" = some Builtin.«proto.contains_iter» := entryFor_of_tree (by kernel_rfl)
theorem plain_cit : plainId "proto.contains_iter" = true := by decide +kernel
theorem no_contains : typeLookup (.type "dict_values") "__contains__" = pure none := by rw [typeLookup_type, builtinLookup_eq_fast]; kernel_rfl
section
variable {prog : Program} {w : World} {A : Around} {E : Value → Shared → Prop} {R : Result → Shared → Prop}
theorem cit_loop {I : Addr} {fp wr : List Addr} {n : Nat} {P : Nat → Value → Prop} {St : Nat → Heap → Prop} (W : Walks prog w A.in1 I fp wr n P St) (f : Nat → Int) (hP : ∀ i v, i < n → P i v → ∃ t, v = .int (f i) t) (x : Int) (u : Tok) (h0 : Heap) (k : Nat) :
    ∀ (i : Nat) (s : Shared), n - i = k → i ≤ n → St i s.heap → (∀ b o, b ∉ wr → h0.get? b = some o → s.heap.get? b = some o) →
      (∀ (h' : Heap) (tk : Nat), (∀ b o, b ∉ wr → h0.get? b = some o → h'.get? b = some o) → R (.ok (.ret (.bool ((List.range (n - i)).any fun j => f (i + j) == x)))) { s with heap := h', toks := tk }) →
      wpAny (model prog w) A.in1 (Builtin.«proto.contains_iter» ⟨[.ref I, .int x u], []⟩) (GQ.FinOf prog w A R) (fun e s' => R (.error e) s') s := by
  induction k with
  | zero =>
    intro i s hk hi st hb q
    unfold Builtin.«proto.contains_iter»
    have e : i = n := by omega
    subst e
    refine wpAny_bind (W.done s _ _ st fun h' tk hk' => ?_)
    refine wpAny_bind (wpAny_rule ?_)
    have q' := q h' tk (fun b o hn e => hk' b o hn (hb b o hn e))
    rw [Nat.sub_self] at q'
    exact wpAny_pure q'
  | succ k ih =>
    intro i s hk hi st hb q
    unfold Builtin.«proto.contains_iter»
    have hlt : i < n := by omega
    refine wpAny_bind (W.item i s _ _ hlt st fun v h' tk hp st' hk' => ?_)
    obtain ⟨t, rfl⟩ := hP i v hlt hp
    have hb' : ∀ b o, b ∉ wr → h0.get? b = some o → h'.get? b = some o := fun b o hn e => hk' b o hn (hb b o hn e)
    have er : n - i = (n - (i + 1)) + 1 := by omega
    dsimp only
    refine wpAny_bind (wpAny_eqBool_int ?_)
    by_cases c : f i = x
    · have e1 : (f i == x) = true := by rw [c]; exact beq_self_eq_true x
      rw [e1]
      refine wpAny_ite_true rfl ?_
      refine wpAny_bind (wpAny_rule ?_)
      have q' := q h' tk hb'
      rw [er, List.range_succ_eq_map, List.any_cons, Nat.add_zero, e1, Bool.true_or] at q'
      exact wpAny_pure q'
    · have e1 : (f i == x) = false := beq_eq_false_iff_ne.mpr c
      rw [e1]
      refine wpAny_ite_false rfl ?_
      have rc2 := ih (i + 1) { s with heap := h', toks := tk } (by omega) (by omega) st' hb' (fun h2 tk2 hb2 => by
        have q' := q h2 tk2 hb2
        rw [er, List.range_succ_eq_map, List.any_cons, Nat.add_zero, e1, Bool.false_or, List.any_map] at q'
        have e2 : (fun j => f (i + 1 + j) == x) = ((fun j => f (i + j) == x) ∘ Nat.succ) := by
          funext j
          simp only [Function.comp]
          rw [show i + 1 + j = i + Nat.succ j by omega]
        rw [e2]
        exact q')
      refine wpAny_pure ⟨plainId_quiet plain_cit _, codeAny_builtin entry_cit ?_⟩
      rw [Around.under_plainId plain_cit _]
      exact rc2
end
/-- the view d.values() at p -/
def valsO (p d : Addr) : HO := .ext fun h => h.IsValuesView p d
theorem valsO_ok {P : Program} {w : World} {H : Hp} {h : Heap} {p d : Addr} (e : h.get? p = some { cls := .type "dict_values", data := .fields #[.ref d] }) : ObjOk P w H h p (valsO p d) :=
  ⟨⟨_, e, rfl, rfl⟩, ⟨_, e⟩, fun h1 h2 x k => let ⟨o, ho, r⟩ := x; ⟨o, k o ho, r⟩⟩
section
variable {X : Cx}
theorem mt_values : MtR X "dict.values" (fun x xs H Q => ∃ (a : Addr) (kvs : List (Key × V)), x = .ref a ∧ xs = [] ∧ H a = some (.dK kvs) ∧ ∀ p, H p = none → Q (.ref p) (upd H p (valsO p a))) := by
  intro pins s σ H x xs v us Q I rx rxs h
  obtain ⟨a, kvs, rfl, rfl, ha, q⟩ := h
  cases rx
  cases rxs
  obtain ⟨_, hsys, vs, rel, dof⟩ := dk_of I.hok ha
  obtain ⟨ep, dat⟩ := dof.dictAt
  have dat' := dat
  obtain ⟨ob, es, ho, ex, hdat, hko, hpr, hnd⟩ := dat'
  have hf : H s.heap.objs.size = none := I.hok.fresh (Nat.le_refl _)
  refine call_meetsIn F.slot_dict_values ⟨ob, ho, ex.1⟩ F.entry_dict_values (F.args_dict_values_1 _) (meets_dict_values (mixKind X.prog X.w) a hsys) ⟨⟨vs, dof⟩, ?_⟩
  exact ⟨.ref s.heap.objs.size, upd H s.heap.objs.size (valsO s.heap.objs.size a), I.laid (t' := s.toks) (fun b u e => Heap.get?_push_of_some _ e) (Nat.le_refl _) (valsO_ok (Heap.get?_push_size _ rfl)), rfl, q _ hf⟩
theorem op_inVals (hc : X.calm = true) : OpR X (compareOp .In) (fun x y H Q => ∃ (i : Int) (p a : Addr) (kvs : List (Key × V)) (ns : List Int), x = .int i ∧ y = .ref p ∧ H p = some (valsO p a) ∧ H a = some (.dK kvs) ∧ kvs.map (·.2) = ns.map V.int ∧ Q (.bl (decide (i ∈ ns))) H) := by
  intro pins s σ H x y v u Q I rx ry h
  obtain ⟨i, p, a, kvs, ns, rfl, rfl, hp, ha, hns, q⟩ := h
  obtain ⟨t, rfl⟩ := rx
  cases ry
  have view : s.heap.IsValuesView p a := (show ObjOk X.prog X.w H s.heap p (valsO p a) from I.hok p _ hp).1
  have hT := view.typeIs
  obtain ⟨_, hsys, vs, rel, dof⟩ := dk_of I.hok ha
  obtain ⟨ep, dat⟩ := dof.dictAt
  have dat' := dat
  obtain ⟨ob, es, ho, ex, hdat, hko, hpr, hnd⟩ := dat'
  show wpAny (model X.prog X.w) X.A (contains (.ref p) (.int i t) >>= fun b => pure (Value.bool b)) _ _ s
  refine wpAny_bind ?_
  unfold contains
  refine wpAny_holding ?_
  simp only [stdlibNamesSay?]
  refine wpAny_bind (wpAny_specialOf hT no_contains ?_)
  rw [show ((none : Option Value) == some Value.none) = false from rfl]
  simp only [Bool.false_eq_true, if_false]
  refine wpAny_bind (m := callSpecialUnlessNone? _ _ _ _) ?_
  unfold callSpecialUnlessNone?
  refine wpAny_bind (wpAny_specialOf hT no_contains ?_)
  refine wpAny_pure ?_
  dsimp only
  refine wpAny_bind (wpAny_rule ?_)
  have hl : kvs.length = vs.length := KV.length rel
  have hln : vs.length = ns.length := by
    have e1 := congrArg List.length hns
    rw [List.length_map, List.length_map] at e1
    omega
  have hlt : a < s.heap.objs.size := Heap.lt_size ho
  refine wpAny_bind (wpAny_tryCatch (wpAny_pyIter_values view dat ?_))
  have hval : ∀ (i : Nat) (v : Value), i < vs.length → (∃ k, vs[i]? = some (k, v)) → ∃ t, v = Value.int (ns.getD i 0) t := fun i v _ ⟨k, hk⟩ => by
    obtain ⟨x, h1, h2⟩ := KV.at' rel hk
    have e1 : (kvs.map (·.2))[i]? = some x := by rw [List.getElem?_map, h1] <;> rfl
    rw [hns, List.getElem?_map] at e1
    obtain ⟨j, hj, e2⟩ := Option.map_eq_some_iff.mp e1
    subst e2
    obtain ⟨t, e3⟩ := h2
    refine ⟨t, ?_⟩
    rw [e3, List.getD_eq_getElem?_getD, hj] <;> rfl
  refine wpAny_bind (wpAny_runValue (codeAny_builtin entry_cit ?_))
  rw [Around.under_plainId plain_cit _]
  have ed : ((List.range (vs.length - 0)).any fun j => ns.getD (0 + j) 0 == i) = decide (i ∈ ns) := by
    rw [Nat.sub_zero, hln]
    rw [Bool.eq_iff_iff, List.any_eq_true, decide_eq_true_iff]
    refine ⟨fun ⟨j, hj, e⟩ => ?_, fun hm => ?_⟩
    · rw [List.mem_range] at hj
      rw [Nat.zero_add, List.getD_eq_getElem?_getD, List.getElem?_eq_getElem hj] at e
      have e2 : ns[j] = i := by simpa using e
      rw [← e2]
      exact List.getElem_mem hj
    · obtain ⟨j, hj, e⟩ := List.mem_iff_getElem.mp hm
      refine ⟨j, List.mem_range.mpr hj, ?_⟩
      rw [Nat.zero_add, List.getD_eq_getElem?_getD, List.getElem?_eq_getElem hj, ← e]
      simp
  have key := cit_loop (A := X.A) (R := fun r s' => match r with
      | .ok (.ret v) => wpAny (model X.prog X.w) X.A (match v with
          | .bool b => pure b
          | _ => unsupported "internal:contains") (fun b s' => wpAny (model X.prog X.w) X.A (pure (Value.bool b)) (EP X pins σ Q) X.xe s') X.xe s'
      | .ok _ => False
      | .error e => X.xe e s') (s := { s with heap := s.heap.push { cls := .type "dict_valueiterator", data := .fields #[.ref a, .int 0 0, .int vs.length 0, .int ep 0] } }) (Walks.dictValues (knd := mixKind X.prog X.w) (A := X.A.in1) (I.ok.hd hc) s.heap.objs.size a (Nat.ne_of_lt hlt) vs ep) (fun i => ns.getD i 0) hval i t s.heap vs.length 0 (by omega) (Nat.zero_le _)
    ⟨⟨_, Heap.get?_push_size _ rfl, rfl, rfl⟩, dat.keep fun b u e => Heap.get?_push_of_some _ e⟩ (fun b o _ e => Heap.get?_push_of_some _ e) (fun h' tk hk => by
    rw [ed]
    refine wpAny_pure (wpAny_pure ?_)
    refine ⟨.bl (decide (i ∈ ns)), H, I.kept (t' := tk) fun b u e => hk b u (fun hm => ?_) e, rfl, q⟩
    have e1 : b = s.heap.objs.size := List.mem_singleton.mp hm
    exact absurd (e1 ▸ Heap.lt_size e) (Nat.lt_irrefl _))
  refine wpAny_mono key (fun fin s' h => ?_) fun _ _ h => h
  cases fin <;> exact h
end
end NW.ST
set_option Elab.async false
set_option linter.all false
set_option maxRecDepth 100000
set_option maxHeartbeats 4000000
/-! W21: d != {}. -/
namespace NW.ST
open PySem PySem.Spec PyProof.Rows L2
section
variable {X : Cx}
theorem op_neNilD (hu : X.A.units < cLine) : OpR X (compareOp .NotEq) (fun x y H Q => ∃ a b kvs, x = .ref a ∧ y = .ref b ∧ H a = some (.dK kvs) ∧ H b = some (.dK []) ∧ Q (.bl (!kvs.isEmpty)) H) := by
  intro pins s σ H x y v u Q I rx ry h
  obtain ⟨a, b, ks, rfl, rfl, ea, eb, q⟩ := h
  cases ks with
  | nil => exact op_ne_dictA hu pins s σ H _ _ v u Q I rx ry ⟨a, b, [], [], rfl, rfl, ea, eb, rfl, fun p hp => absurd hp (by simp), q⟩
  | cons p ks =>
    obtain rfl : v = Value.ref a := rx
    obtain rfl : u = Value.ref b := ry
    obtain ⟨_, ya, va, ra, da⟩ := (show ObjOk X.prog X.w H s.heap a (.dK (p :: ks)) from I.hok a _ ea)
    obtain ⟨_, yb, vb, rb, db⟩ := (show ObjOk X.prog X.w H s.heap b (.dK []) from I.hok b _ eb)
    have hl : va.length = vb.length + (ks.length + 1) := by rw [← ra.length, ← rb.length]; simp
    exact PySem.W.keq_ne (knd := mixKind X.prog X.w) (r := true) ya yb da db hu (fun h => absurd h (by omega)) (fin_bl I q (by simp [hl]))
end
end NW.ST
set_option Elab.async false
set_option linter.all false
set_option maxRecDepth 100000
set_option maxHeartbeats 1000000
/-! KM1: a deed leaves a whole tree whole; no program in sight. -/
namespace NW
theorem ents_set {t : Tr} {i : Nat} {nd : Nd} (hi : i < t.length) (g : Nat) : ents (t.set i nd) g = if g = i then nd.ents else ents t g := by
  unfold ents
  rw [set_get hi]
  by_cases c : g = i
  · rw [if_pos c, if_pos c]
  · rw [if_neg c, if_neg c]
theorem isF_set {t : Tr} {i : Nat} {nd : Nd} (hi : i < t.length) (g : Nat) : isF (t.set i nd) g = if g = i then nd.isF else isF t g := by
  unfold isF
  rw [set_get hi]
  by_cases c : g = i
  · rw [if_pos c, if_pos c]
  · rw [if_neg c, if_neg c]
theorem isG_set {t : Tr} {i : Nat} {nd : Nd} (hi : i < t.length) (g : Nat) : isG (t.set i nd) g = if g = i then nd.isG else isG t g := by
  unfold isG
  rw [set_get hi]
  by_cases c : g = i
  · rw [if_pos c, if_pos c]
  · rw [if_neg c, if_neg c]
theorem get_app {t : Tr} {nd : Nd} (i : Nat) : (t ++ [nd])[i]? = if i = t.length then some nd else t[i]? := by
  by_cases c : i = t.length
  · subst c
    rw [if_pos rfl, List.getElem?_append_right (Nat.le_refl _), Nat.sub_self]
    rfl
  · rw [if_neg c]
    by_cases h : i < t.length
    · rw [List.getElem?_append_left h]
    · rw [List.getElem?_eq_none (by rw [List.length_append, List.length_singleton]; omega), List.getElem?_eq_none (by omega)]
theorem ents_app {t : Tr} {nd : Nd} (g : Nat) : ents (t ++ [nd]) g = if g = t.length then nd.ents else ents t g := by
  unfold ents
  rw [get_app]
  by_cases c : g = t.length
  · rw [if_pos c, if_pos c]
  · rw [if_neg c, if_neg c]
theorem isF_app {t : Tr} {nd : Nd} (g : Nat) : isF (t ++ [nd]) g = if g = t.length then nd.isF else isF t g := by
  unfold isF
  rw [get_app]
  by_cases c : g = t.length
  · rw [if_pos c, if_pos c]
  · rw [if_neg c, if_neg c]
theorem isG_app {t : Tr} {nd : Nd} (g : Nat) : isG (t ++ [nd]) g = if g = t.length then nd.isG else isG t g := by
  unfold isG
  rw [get_app]
  by_cases c : g = t.length
  · rw [if_pos c, if_pos c]
  · rw [if_neg c, if_neg c]
/-! an entry more, an entry less -/
section
variable {t : Tr} {f k n : Nat}
theorem add_eq (hf : isF t f = true) : ∃ o, t[f]? = some (.fol o (ents t f)) ∧ addEnt t f k n = t.set f (.fol o (insE k n (ents t f))) := by
  obtain ⟨o, h⟩ := isF_fol hf
  exact ⟨o, h, addEnt_at h⟩
theorem add_len (hf : isF t f = true) : (addEnt t f k n).length = t.length := by
  obtain ⟨o, h, e⟩ := add_eq (k := k) (n := n) hf
  rw [e, List.length_set]
theorem add_ents (hf : isF t f = true) (g : Nat) : ents (addEnt t f k n) g = if g = f then insE k n (ents t f) else ents t g := by
  obtain ⟨o, h, e⟩ := add_eq (k := k) (n := n) hf
  rw [e, ents_set (isF_lt hf)]
  rfl
theorem add_isF (hf : isF t f = true) (g : Nat) : isF (addEnt t f k n) g = isF t g := by
  obtain ⟨o, h, e⟩ := add_eq (k := k) (n := n) hf
  rw [e, isF_set (isF_lt hf)]
  by_cases c : g = f
  · rw [if_pos c, c, hf]; rfl
  · rw [if_neg c]
theorem isG_of_isF {t : Tr} {f : Nat} (hf : isF t f = true) : isG t f = false := by
  obtain ⟨o, h⟩ := isF_fol hf
  rw [isG_at h]
  rfl
theorem add_isG (hf : isF t f = true) (g : Nat) : isG (addEnt t f k n) g = isG t g := by
  obtain ⟨o, h, e⟩ := add_eq (k := k) (n := n) hf
  rw [e, isG_set (isF_lt hf)]
  by_cases c : g = f
  · rw [if_pos c, c, isG_of_isF hf]; rfl
  · rw [if_neg c]
theorem add_mem (hf : isF t f = true) (g j m : Nat) : (j, m) ∈ ents (addEnt t f k n) g ↔ (j, m) ∈ ents t g ∨ (g = f ∧ j = k ∧ m = n) := by
  rw [add_ents hf]
  by_cases c : g = f
  · subst c
    rw [if_pos rfl, (insE_perm k n _).mem_iff, List.mem_cons]
    constructor
    · rintro (h | h)
      · cases h; exact .inr ⟨rfl, rfl, rfl⟩
      · exact .inl h
    · rintro (h | ⟨_, rfl, rfl⟩)
      · exact .inr h
      · exact .inl rfl
  · rw [if_neg c]
    exact ⟨.inl, fun h => h.elim id fun z => absurd z.1 c⟩
theorem add_own (hf : isF t f = true) (ho : ∀ (i : Nat) (nd : Nd), t[i]? = some nd → 0 ≤ nd.own) : ∀ (i : Nat) (nd : Nd), (addEnt t f k n)[i]? = some nd → 0 ≤ nd.own := by
  obtain ⟨o, h, e⟩ := add_eq (k := k) (n := n) hf
  intro i nd hi
  rw [e, set_get (isF_lt hf)] at hi
  by_cases c : i = f
  · rw [if_pos c] at hi
    cases hi
    have z := ho f _ h
    exact z
  · rw [if_neg c] at hi
    exact ho i nd hi
theorem add_gon (hf : isF t f = true) (i : Nat) (o : Int) (a : Nat) : (addEnt t f k n)[i]? = some (.gon o a) ↔ t[i]? = some (.gon o a) := by
  obtain ⟨o2, h, e⟩ := add_eq (k := k) (n := n) hf
  rw [e, set_get (isF_lt hf)]
  by_cases c : i = f
  · subst c
    rw [if_pos rfl, h]
    exact ⟨fun z => (nomatch Option.some.inj z), fun z => (nomatch Option.some.inj z)⟩
  · rw [if_neg c]
theorem del_eq (hf : isF t f = true) : ∃ o, t[f]? = some (.fol o (ents t f)) ∧ delEnt t f k = t.set f (.fol o (delE k (ents t f))) := by
  obtain ⟨o, h⟩ := isF_fol hf
  exact ⟨o, h, delEnt_at h⟩
theorem del_len (hf : isF t f = true) : (delEnt t f k).length = t.length := by
  obtain ⟨o, h, e⟩ := del_eq (k := k) hf
  rw [e, List.length_set]
theorem del_ents (hf : isF t f = true) (g : Nat) : ents (delEnt t f k) g = if g = f then delE k (ents t f) else ents t g := by
  obtain ⟨o, h, e⟩ := del_eq (k := k) hf
  rw [e, ents_set (isF_lt hf)]
  rfl
theorem del_isF (hf : isF t f = true) (g : Nat) : isF (delEnt t f k) g = isF t g := by
  obtain ⟨o, h, e⟩ := del_eq (k := k) hf
  rw [e, isF_set (isF_lt hf)]
  by_cases c : g = f
  · rw [if_pos c, c, hf]; rfl
  · rw [if_neg c]
theorem del_isG (hf : isF t f = true) (g : Nat) : isG (delEnt t f k) g = isG t g := by
  obtain ⟨o, h, e⟩ := del_eq (k := k) hf
  rw [e, isG_set (isF_lt hf)]
  by_cases c : g = f
  · rw [if_pos c, c, isG_of_isF hf]; rfl
  · rw [if_neg c]
theorem del_mem (hf : isF t f = true) (g j m : Nat) : (j, m) ∈ ents (delEnt t f k) g ↔ (j, m) ∈ ents t g ∧ ¬ (g = f ∧ j = k) := by
  rw [del_ents hf]
  by_cases c : g = f
  · subst c
    rw [if_pos rfl]
    unfold delE
    rw [List.mem_filter]
    simp
  · rw [if_neg c]
    exact ⟨fun h => ⟨h, fun z => c z.1⟩, fun h => h.1⟩
theorem del_own (hf : isF t f = true) (ho : ∀ (i : Nat) (nd : Nd), t[i]? = some nd → 0 ≤ nd.own) : ∀ (i : Nat) (nd : Nd), (delEnt t f k)[i]? = some nd → 0 ≤ nd.own := by
  obtain ⟨o, h, e⟩ := del_eq (k := k) hf
  intro i nd hi
  rw [e, set_get (isF_lt hf)] at hi
  by_cases c : i = f
  · rw [if_pos c] at hi
    cases hi
    have z := ho f _ h
    exact z
  · rw [if_neg c] at hi
    exact ho i nd hi
theorem del_gon (hf : isF t f = true) (i : Nat) (o : Int) (a : Nat) : (delEnt t f k)[i]? = some (.gon o a) ↔ t[i]? = some (.gon o a) := by
  obtain ⟨o2, h, e⟩ := del_eq (k := k) hf
  rw [e, set_get (isF_lt hf)]
  by_cases c : i = f
  · subst c
    rw [if_pos rfl, h]
    exact ⟨fun z => (nomatch Option.some.inj z), fun z => (nomatch Option.some.inj z)⟩
  · rw [if_neg c]
end
/-- whole but for what stands below n, to which no entry leads -/
structure WFo (t : Tr) (n : Nat) : Prop where
  root : isF t 0 = true
  own : ∀ (i : Nat) (nd : Nd), t[i]? = some nd → 0 ≤ nd.own
  srt : ∀ i : Nat, Srt (ents t i)
  ent : ∀ i k m : Nat, (k, m) ∈ ents t i → k < 4 ∧ 0 < m ∧ m < t.length ∧ isG t m = false
  gon : ∀ (i : Nat) (o : Int) (a : Nat), t[i]? = some (.gon o a) → a < t.length ∧ a ≠ i ∧ isP t a = true
  one : ∀ f k g j m : Nat, isF t m = true → (k, m) ∈ ents t f → (j, m) ∈ ents t g → f = g ∧ k = j
  no : isF t n = true → ∀ g j : Nat, (j, n) ∉ ents t g
  dep : ∀ m : Nat, isF t m = true → (∃ d, Dep t m d) ∨ Bel t n m
theorem Dep.mono {t u : Tr} (he : ∀ g j m, (j, m) ∈ ents t g → isF t m = true → (j, m) ∈ ents u g) (hF : ∀ m, isF t m = true → isF u m = true) {x d : Nat} (h : Dep t x d) : Dep u x d := by
  induction h with
  | root => exact .root
  | step _ hm hx ih => exact .step ih (he _ _ _ hm hx) (hF _ hx)
theorem Bel.mono {t u : Tr} (he : ∀ g j m, (j, m) ∈ ents t g → isF t m = true → (j, m) ∈ ents u g) (hF : ∀ m, isF t m = true → isF u m = true) {n x : Nat} (h : Bel t n x) : Bel u n x := by
  induction h with
  | refl => exact .refl
  | step _ hm hx ih => exact .step ih (he _ _ _ hm hx) (hF _ hx)
theorem Bel.dep {t : Tr} {n x : Nat} (h : Bel t n x) {d : Nat} (hd : Dep t n d) : ∃ e, Dep t x e := by
  induction h with
  | refl => exact ⟨d, hd⟩
  | step _ hm hx ih => obtain ⟨e, he⟩ := ih; exact ⟨e + 1, .step he hm hx⟩
theorem isP_of {t u : Tr} (hF : ∀ m, isF u m = isF t m) (hG : ∀ m, isG u m = isG t m) (m : Nat) : isP u m = isP t m := by unfold isP; rw [hF, hG]
theorem wf_add {u : Tr} {n f k : Nat} (w : WFo u n) (hf : isF u f = true) (hk : k < 4) (hno : ∀ e ∈ ents u f, e.1 ≠ k) (h0 : 0 < n) (hn : n < u.length) (hg : isG u n = false) (hd : ∃ d, Dep u f d) : WF (addEnt u f k n) := by
  have hF := add_isF (k := k) (n := n) hf
  have hG := add_isG (k := k) (n := n) hf
  have hP := isP_of hF hG
  have hm := add_mem (k := k) (n := n) hf
  have hl := add_len (k := k) (n := n) hf
  have mD : ∀ {x d : Nat}, Dep u x d → Dep (addEnt u f k n) x d := fun h => h.mono (fun g j m h _ => (hm g j m).mpr (.inl h)) (fun m h => by rw [hF]; exact h)
  refine ⟨by rw [hF]; exact w.root, add_own hf w.own, fun i => ?_, fun i j m h => ?_, fun i o a h => ?_, fun a b c d m hx h1 h2 => ?_, fun m hx => ?_⟩
  · rw [add_ents hf]
    by_cases c : i = f
    · rw [if_pos c]; exact insE_srt (w.srt f) hno
    · rw [if_neg c]; exact w.srt i
  · rw [hl, hG]
    rcases (hm i j m).mp h with h | ⟨_, rfl, rfl⟩
    · exact w.ent i j m h
    · exact ⟨hk, h0, hn, hg⟩
  · rw [hl, hP]
    exact w.gon i o a ((add_gon hf i o a).mp h)
  · rw [hF] at hx
    rcases (hm a b m).mp h1 with q1 | ⟨p1, p2, p3⟩
    · rcases (hm c d m).mp h2 with q2 | ⟨r1, r2, r3⟩
      · exact w.one a b c d m hx q1 q2
      · exact absurd (r3 ▸ q1) (w.no (r3 ▸ hx) _ _)
    · rcases (hm c d m).mp h2 with q2 | ⟨r1, r2, _⟩
      · exact absurd (p3 ▸ q2) (w.no (p3 ▸ hx) _ _)
      · exact ⟨p1.trans r1.symm, p2.trans r2.symm⟩
  · rw [hF] at hx
    obtain ⟨df, hdf⟩ := hd
    rcases w.dep m hx with ⟨d, h⟩ | h
    · exact ⟨d, mD h⟩
    · have hb : Bel (addEnt u f k n) n m := h.mono (fun g j m h _ => (hm g j m).mpr (.inl h)) (fun m h => by rw [hF]; exact h)
      by_cases c : isF u n = true
      · exact hb.dep (.step (mD hdf) ((hm f k n).mpr (.inr ⟨rfl, rfl, rfl⟩)) (by rw [hF]; exact c))
      · exfalso
        have : ∀ {x : Nat}, Bel u n x → x = n := fun {x} hb => by
          induction hb with
          | refl => rfl
          | step _ he hx ih =>
            subst ih
            exact absurd (isF_of_ent he) c
        rw [this h] at hx
        exact c hx
theorem mem_key {es : List (Nat × Nat)} (hs : Srt es) {k n m : Nat} (h1 : (k, n) ∈ es) (h2 : (k, m) ∈ es) : n = m := by
  have e1 := lookE_mem hs h1
  have e2 := lookE_mem hs h2
  rw [e1] at e2
  exact Option.some.inj e2
theorem wf_del {t : Tr} {f k n : Nat} (w : WF t) (hf : isF t f = true) (hk : lookE k (ents t f) = some n) : WFo (delEnt t f k) n := by
  have hF := del_isF (k := k) hf
  have hG := del_isG (k := k) hf
  have hP := isP_of hF hG
  have hm := del_mem (k := k) hf
  have hl := del_len (k := k) hf
  have hkn := mem_of_lookE hk
  have rmd : ∀ {m : Nat}, (k, m) ∈ ents t f → m = n := fun h => mem_key (w.srt f) h hkn
  refine ⟨by rw [hF]; exact w.root, del_own hf w.own, fun i => ?_, fun i j m h => ?_, fun i o a h => ?_, fun a b c d m hx h1 h2 => ?_, fun hx g j h => ?_, fun m hx => ?_⟩
  · rw [del_ents hf]
    by_cases c : i = f
    · rw [if_pos c]; exact delE_srt (w.srt f)
    · rw [if_neg c]; exact w.srt i
  · rw [hl, hG]
    exact w.ent i j m ((hm i j m).mp h).1
  · rw [hl, hP]
    exact w.gon i o a ((del_gon hf i o a).mp h)
  · rw [hF] at hx
    exact w.one a b c d m hx ((hm a b m).mp h1).1 ((hm c d m).mp h2).1
  · rw [hF] at hx
    obtain ⟨h1, h2⟩ := (hm g j n).mp h
    obtain ⟨e1, e2⟩ := w.one g j f k n hx h1 hkn
    exact h2 ⟨e1, e2⟩
  · rw [hF] at hx
    by_cases c : Bel t n m
    · right
      have : ∀ {x : Nat}, Bel t n x → Bel (delEnt t f k) n x := fun {x} hb => by
        induction hb with
        | refl => exact .refl
        | @step f' k' x _ he hx ih =>
          by_cases z : f' = f ∧ k' = k
          · obtain ⟨rfl, rfl⟩ := z
            rw [rmd he]
            exact .refl
          · exact .step ih ((hm f' k' x).mpr ⟨he, z⟩) (by rw [hF]; exact hx)
      exact this c
    · left
      obtain ⟨d, hd⟩ := w.dep m hx
      have : ∀ {x d : Nat}, Dep t x d → ¬ Bel t n x → Dep (delEnt t f k) x d := fun {x d} hd => by
        induction hd with
        | root => exact fun _ => .root
        | @step f' k' x d _ he hx ih =>
          intro nb
          refine .step (ih fun hb => nb (.step hb he hx)) ((hm f' k' x).mpr ⟨he, fun z => ?_⟩) (by rw [hF]; exact hx)
          obtain ⟨rfl, rfl⟩ := z
          rw [rmd he] at nb
          exact nb .refl
      exact ⟨d, this hd c⟩
theorem bel_leaf {t : Tr} {n x : Nat} (h : ents t n = []) (hb : Bel t n x) : x = n := by
  induction hb with
  | refl => rfl
  | step _ he hx ih =>
    subst ih
    rw [h] at he
    cases he
theorem WFo.wf {t : Tr} {n : Nat} (w : WFo t n) (h : isF t n = false) : WF t := ⟨w.root, w.own, w.srt, w.ent, w.gon, w.one, fun m hx => (w.dep m hx).elim id fun hb => by
  have : m = n := bel_leaf (by
    cases he : ents t n with
    | nil => rfl
    | cons e r =>
      have := isF_of_ent (t := t) (f := n) (e := e) (by rw [he]; simp)
      rw [this] at h
      cases h) hb
  rw [this, h] at hx
  cases hx⟩
theorem WF.o {t : Tr} (w : WF t) {n : Nat} (h : isF t n = false) : WFo t n := ⟨w.root, w.own, w.srt, w.ent, w.gon, w.one, fun z => by (rw [h] at z; cases z), fun m hx => .inl (w.dep m hx)⟩
theorem wf_app {t : Tr} {nd : Nd} (w : WF t) (ho : 0 ≤ nd.own) (he : nd.ents = []) (hg : nd.isG = false) : WFo (t ++ [nd]) t.length := by
  have hl : (t ++ [nd]).length = t.length + 1 := by simp
  have h0 : 0 ≠ t.length := fun z => by have := isF_lt w.root; omega
  have hF : ∀ {m : Nat}, m < t.length → isF (t ++ [nd]) m = isF t m := fun {m} h => by rw [isF_app, if_neg (by omega)]
  have hG : ∀ {m : Nat}, m < t.length → isG (t ++ [nd]) m = isG t m := fun {m} h => by rw [isG_app, if_neg (by omega)]
  have hm : ∀ {g j m : Nat}, (j, m) ∈ ents (t ++ [nd]) g ↔ (j, m) ∈ ents t g := fun {g j m} => by
    rw [ents_app]
    by_cases c : g = t.length
    · rw [if_pos c, he, c]
      have : ents t t.length = [] := by unfold ents; rw [List.getElem?_eq_none (Nat.le_refl _)]
      rw [this]
    · rw [if_neg c]
  refine ⟨by rw [hF (isF_lt w.root)]; exact w.root, fun i n2 h => ?_, fun i => ?_, fun i j m h => ?_, fun i o a h => ?_, fun a b c d m hx h1 h2 => ?_, fun hx g j h => ?_, fun m hx => ?_⟩
  · rw [get_app] at h
    by_cases c : i = t.length
    · rw [if_pos c] at h; cases h; exact ho
    · rw [if_neg c] at h; exact w.own i n2 h
  · rw [ents_app]
    by_cases c : i = t.length
    · rw [if_pos c, he]; exact .nil
    · rw [if_neg c]; exact w.srt i
  · obtain ⟨a, b, c, d⟩ := w.ent i j m (hm.mp h)
    exact ⟨a, b, by omega, by rw [hG c]; exact d⟩
  · rw [get_app] at h
    by_cases c : i = t.length
    · rw [if_pos c] at h; cases h; cases hg
    · rw [if_neg c] at h
      obtain ⟨x, y, z⟩ := w.gon i o a h
      refine ⟨by omega, y, ?_⟩
      unfold isP
      rw [hF x, hG x]
      exact z
  · have hml := (w.ent a b m (hm.mp h1)).2.2.1
    rw [hF hml] at hx
    exact w.one a b c d m hx (hm.mp h1) (hm.mp h2)
  · have := (w.ent g j _ (hm.mp h)).2.2.1
    omega
  · by_cases c : m = t.length
    · subst c; exact .inr .refl
    · left
      rw [isF_app, if_neg c] at hx
      obtain ⟨d, hd⟩ := w.dep m hx
      exact ⟨d, hd.mono (fun g j m h _ => hm.mpr h) fun m h => by rw [hF (isF_lt h)]; exact h⟩
theorem wf_gon {t : Tr} {n f : Nat} {o : Int} (w : WFo t n) (hf : isF t f = true) (hnf : f ≠ n) (h0 : n ≠ 0) (hn : n < t.length) (he : ents t n = []) (ho : 0 ≤ o) (hF0 : isF t n = true) : WF (t.set n (.gon o f)) := by
  have hF := isF_set (nd := .gon o f) hn
  have hG := isG_set (nd := .gon o f) hn
  have hl : (t.set n (.gon o f)).length = t.length := List.length_set
  have hE : ∀ g, ents (t.set n (.gon o f)) g = ents t g := fun g => by
    rw [ents_set hn]
    by_cases c : g = n
    · rw [if_pos c, c, he]; rfl
    · rw [if_neg c]
  have hP : ∀ m, isP t m = true → isP (t.set n (.gon o f)) m = true := fun m h => by
    unfold isP at h ⊢
    rw [hF, hG]
    by_cases c : m = n
    · rw [if_pos c, if_pos c]; rfl
    · rw [if_neg c, if_neg c]; exact h
  refine ⟨by rw [hF, if_neg (by omega)]; exact w.root, fun i nd h => ?_, fun i => by rw [hE]; exact w.srt i, fun i j m h => ?_, fun i o2 a h => ?_, fun a b c d m hx h1 h2 => ?_, fun m hx => ?_⟩
  · rw [set_get hn] at h
    by_cases c : i = n
    · rw [if_pos c] at h; cases h; exact ho
    · rw [if_neg c] at h; exact w.own i nd h
  · rw [hE] at h
    obtain ⟨a, b, c, d⟩ := w.ent i j m h
    refine ⟨a, b, by omega, ?_⟩
    rw [hG, if_neg (show ¬ m = n from fun z => w.no hF0 i j (z ▸ h))]
    exact d
  · rw [set_get hn] at h
    by_cases c : i = n
    · rw [if_pos c] at h
      cases h
      refine ⟨by rw [hl]; exact isF_lt hf, by omega, hP _ (by unfold isP; rw [hf]; rfl)⟩
    · rw [if_neg c] at h
      obtain ⟨x, y, z⟩ := w.gon i o2 a h
      exact ⟨by omega, y, hP _ z⟩
  · rw [hE] at h1 h2
    rw [hF] at hx
    by_cases c : m = n
    · rw [if_pos c] at hx; cases hx
    · rw [if_neg c] at hx
      exact w.one a b _ d m hx h1 h2
  · rw [hF] at hx
    by_cases c : m = n
    · rw [if_pos c] at hx; cases hx
    · rw [if_neg c] at hx
      rcases w.dep m hx with ⟨d, hd⟩ | hb
      · refine ⟨d, ?_⟩
        clear hx c
        induction hd with
        | root => exact .root
        | @step f' k' x d _ hm hx ih =>
          refine .step ih (by rw [hE]; exact hm) ?_
          rw [hF, if_neg (show ¬ x = n from fun z => w.no hF0 f' k' (z ▸ hm))]
          exact hx
      · exact absurd (bel_leaf he hb) c
theorem Step.wf {t t' : Tr} {d : Dd} (w : WF t) (h : Step t d t') : WF t' := by
  have dof : ∀ {f}, isF t f = true → ∃ d, Dep t f d := fun {f} hf => w.dep f hf
  cases h with
  | @mkF f k o hf hk ho hno =>
    have hlt := isF_lt hf
    have wo := wf_app (nd := .fol o []) w ho rfl rfl
    have hf2 : isF (t ++ [.fol o []]) f = true := by rw [isF_app, if_neg (by omega)]; exact hf
    obtain ⟨d, hd⟩ := dof hf
    refine wf_add wo hf2 hk ?_ (by omega) (by simp) (by rw [isG_app, if_pos rfl]; rfl) ⟨d, hd.mono (fun g j m h _ => by rw [ents_app, if_neg (fun z => by have := isF_lt (isF_of_ent h); omega)]; exact h) fun m h => by rw [isF_app, if_neg (fun z => by have := isF_lt h; omega)]; exact h⟩
    rw [ents_app, if_neg (by omega)]
    exact lookE_none.mp hno
  | @mkL f k o hf hk ho hno =>
    have hlt := isF_lt hf
    have wo := wf_app (nd := .fil o) w ho rfl rfl
    have hf2 : isF (t ++ [.fil o]) f = true := by rw [isF_app, if_neg (by omega)]; exact hf
    obtain ⟨d, hd⟩ := dof hf
    refine wf_add wo hf2 hk ?_ (by omega) (by simp) (by rw [isG_app, if_pos rfl]; rfl) ⟨d, hd.mono (fun g j m h _ => by rw [ents_app, if_neg (fun z => by have := isF_lt (isF_of_ent h); omega)]; exact h) fun m h => by rw [isF_app, if_neg (fun z => by have := isF_lt h; omega)]; exact h⟩
    rw [ents_app, if_neg (by omega)]
    exact lookE_none.mp hno
  | @put f k n o hf hk hn hno =>
    have hnF : isF t n = false := isF_at hn
    refine wf_add (w.o hnF) hf hk (lookE_none.mp hno) (Nat.pos_of_ne_zero fun z => ?_) (List.getElem?_eq_some_iff.mp hn).1 (isG_at hn) (dof hf)
    rw [z, w.root] at hnF
    cases hnF
  | @takeF f k n o hf hk hlk hn =>
    have hkn := mem_of_lookE hlk
    have hnF : isF t n = true := isF_at hn
    have hE : ents t n = [] := ents_at hn
    have hnf : f ≠ n := fun z => by rw [z, hE] at hkn; cases hkn
    have hfl := del_isF (k := k) hf
    refine wf_gon (wf_del w hf hlk) (by rw [hfl]; exact hf) hnf (by have := (w.ent f k n hkn).2.1; omega) (by rw [del_len hf]; exact (w.ent f k n hkn).2.2.1) ?_ (w.own n _ hn) (by rw [hfl]; exact hnF)
    rw [del_ents hf, if_neg (fun z => hnf z.symm)]
    exact hE
  | @takeL f k n o hf hk hlk hn => exact (wf_del w hf hlk).wf (by rw [del_isF hf]; exact isF_at hn)
  | @move f k g j n hf hk hg hj hlk hno hb =>
    have hkn := mem_of_lookE hlk
    have wo := wf_del w hf hlk
    have hgF : isF (delEnt t f k) g = true := by rw [del_isF hf]; exact hg
    obtain ⟨_, e0, e1, e2⟩ := w.ent f k n hkn
    refine wf_add wo hgF hj (fun e he => ?_) e0 (by rw [del_len hf]; exact e1) (by rw [del_isG hf]; exact e2) ?_
    · exact lookE_none.mp hno e ((del_mem hf g e.1 e.2).mp he).1
    · rcases wo.dep g hgF with h | h
      · exact h
      · exfalso
        by_cases c : isF t n = true
        · refine hb c (h.mono (fun g j m h _ => ((del_mem hf g j m).mp h).1) fun m h => by rw [del_isF hf] at h; exact h)
        · have hz : g = n := bel_leaf (by
            rw [del_ents hf]
            have : ents t n = [] := by
              cases he : ents t n with
              | nil => rfl
              | cons e r => exact absurd (isF_of_ent (t := t) (f := n) (e := e) (by rw [he]; simp)) c
            by_cases z : n = f
            · rw [z] at c; exact absurd hf c
            · rw [if_neg z]; exact this) h
          rw [hz] at hg
          exact c hg
end NW
set_option Elab.async false
set_option linter.all false
set_option maxRecDepth 100000
set_option maxHeartbeats 1000000
/-! KM2: rows, what stands below, listings; no program in sight. -/
namespace NW
/-! a deed's effect on size and kinds -/
theorem Step.len {t t' : Tr} {d : Dd} (h : Step t d t') : t.length ≤ t'.length ∧ t'.length ≤ t.length + 1 := by
  cases h with
  | @mkF f k o hf hk ho hno =>
    have hf2 : isF (t ++ [.fol o []]) f = true := by rw [isF_app, if_neg (by have := isF_lt hf; omega)]; exact hf
    rw [add_len hf2]
    simp
  | @mkL f k o hf hk ho hno =>
    have hf2 : isF (t ++ [.fil o]) f = true := by rw [isF_app, if_neg (by have := isF_lt hf; omega)]; exact hf
    rw [add_len hf2]
    simp
  | @put f k n o hf hk hn hno =>
    rw [add_len hf]
    omega
  | @takeF f k n o hf hk hlk hn =>
    rw [List.length_set, del_len hf]
    omega
  | @takeL f k n o hf hk hlk hn =>
    rw [del_len hf]
    omega
  | @move f k g j n hf hk hg hj hlk hno hb =>
    rw [add_len (by rw [del_isF hf]; exact hg), del_len hf]
    omega
theorem Step.kind {t t' : Tr} {d : Dd} (h : Step t d t') {x : Nat} (hx : x < t.length) : isP t' x = isP t x := by
  unfold isP
  cases h with
  | @mkF f k o hf hk ho hno =>
    have hf2 : isF (t ++ [.fol o []]) f = true := by rw [isF_app, if_neg (by have := isF_lt hf; omega)]; exact hf
    rw [add_isF hf2, add_isG hf2, isF_app, isG_app, if_neg (by omega), if_neg (by omega)]
  | @mkL f k o hf hk ho hno =>
    have hf2 : isF (t ++ [.fil o]) f = true := by rw [isF_app, if_neg (by have := isF_lt hf; omega)]; exact hf
    rw [add_isF hf2, add_isG hf2, isF_app, isG_app, if_neg (by omega), if_neg (by omega)]
  | @put f k n o hf hk hn hno => rw [add_isF hf, add_isG hf]
  | @takeF f k n o hf hk hlk hn =>
    have hn2 : n < (delEnt t f k).length := by rw [del_len hf]; exact (List.getElem?_eq_some_iff.mp hn).1
    rw [isF_set hn2, isG_set hn2]
    by_cases c : x = n
    · subst c
      rw [if_pos rfl, if_pos rfl, isF_at hn]
      rfl
    · rw [if_neg c, if_neg c, del_isF hf, del_isG hf]
  | @takeL f k n o hf hk hlk hn => rw [del_isF hf, del_isG hf]
  | @move f k g j n hf hk hg hj hlk hno hb =>
    have hg2 : isF (delEnt t f k) g = true := by rw [del_isF hf]; exact hg
    rw [add_isF hg2, add_isG hg2, del_isF hf, del_isG hf]
/-! rows -/
abbrev at_ (ts : List Tr) (i : Nat) : Tr := ts.getD i []
theorem Row.mono {ts : List Tr} {ds : List Dd} (h : Row ts ds) : ∀ {i j : Nat}, i ≤ j → j < ts.length →
    (at_ ts i).length ≤ (at_ ts j).length ∧ (at_ ts j).length ≤ (at_ ts i).length + (j - i) ∧ ∀ x, x < (at_ ts i).length → isP (at_ ts j) x = isP (at_ ts i) x := by
  induction h with
  | one t w =>
    intro i j hij hj
    have : j = 0 := by simp at hj; omega
    subst this
    have : i = 0 := by omega
    subst this
    exact ⟨Nat.le_refl _, by omega, fun _ _ => rfl⟩
  | @cons t t' d ts ds w s r ih =>
    intro i j hij hj
    cases j with
    | zero =>
      have : i = 0 := by omega
      subst this
      exact ⟨Nat.le_refl _, by omega, fun _ _ => rfl⟩
    | succ j =>
      have hj2 : j < (t' :: ts).length := by simpa using hj
      cases i with
      | zero =>
        obtain ⟨a, b, c⟩ := ih (i := 0) (j := j) (Nat.zero_le _) hj2
        obtain ⟨l1, l2⟩ := s.len
        have e0 : at_ (t' :: ts) 0 = t' := rfl
        have e1 : at_ (t :: t' :: ts) (j + 1) = at_ (t' :: ts) j := rfl
        have e2 : at_ (t :: t' :: ts) 0 = t := rfl
        rw [e0] at a b c
        rw [e1, e2]
        refine ⟨by omega, by omega, fun x hx => ?_⟩
        rw [c x (by omega), s.kind hx]
      | succ i =>
        obtain ⟨a, b, c⟩ := ih (i := i) (j := j) (by omega) hj2
        exact ⟨a, by show _ ≤ _ + (j + 1 - (i + 1)); have : j + 1 - (i + 1) = j - i := by omega
                     rw [this]; exact b, c⟩
theorem at_mem {ts : List Tr} {i : Nat} (h : i < ts.length) : at_ ts i ∈ ts := by
  unfold at_
  rw [List.getD_eq_getElem?_getD, List.getElem?_eq_getElem h]
  exact List.getElem_mem h
theorem at_get {ts : List Tr} {i : Nat} (h : i < ts.length) : ts[i]? = some (at_ ts i) := by
  unfold at_
  rw [List.getD_eq_getElem?_getD, List.getElem?_eq_getElem h]
  rfl
theorem last_at {ts : List Tr} (h : ts ≠ []) : lastT ts = at_ ts (ts.length - 1) := by
  unfold lastT at_
  rw [List.getD_eq_getElem?_getD, ← List.getLast?_eq_getElem?, List.getLastD_eq_getLast?]
theorem Row.ne {ts : List Tr} {ds : List Dd} (h : Row ts ds) : ts ≠ [] := by cases h <;> simp
theorem Row.plL {ts : List Tr} {ds : List Dd} (h : Row ts ds) {i x : Nat} (hi : i < ts.length) (hx : x < (at_ ts i).length) : plL ts x = isP (at_ ts i) x := by
  unfold NW.plL
  rw [last_at h.ne]
  exact (h.mono (by omega) (by omega)).2.2 x hx
theorem Row.kid {ts : List Tr} {ds : List Dd} (h : Row ts ds) {i f c : Nat} (hi : i < ts.length) (hc : c ∈ kids (at_ ts i) f) : c < (at_ ts i).length ∧ 0 < c ∧ NW.plL ts c = isF (at_ ts i) c := by
  obtain ⟨⟨k, c'⟩, hm, rfl⟩ := List.mem_map.mp hc
  obtain ⟨_, h0, hl, hg⟩ := (h.wf _ (at_mem hi)).ent f k c' hm
  refine ⟨hl, h0, ?_⟩
  rw [h.plL hi hl]
  unfold isP
  show (isF _ c' || isG _ c') = _
  rw [hg, Bool.or_false]
/-! depth -/
theorem Dep.uniq {t : Tr} (w : WF t) {x d : Nat} (h : Dep t x d) : ∀ {e : Nat}, Dep t x e → d = e := by
  induction h with
  | root =>
    intro e he
    cases he with
    | root => rfl
    | step _ hm _ => have := (w.ent _ _ _ hm).2.1; omega
  | @step f k x d hf hm hx ih =>
    intro e he
    cases he with
    | root => have := (w.ent _ _ _ hm).2.1; omega
    | @step f2 k2 _ e2 hf2 hm2 hx2 =>
      obtain ⟨rfl, _⟩ := w.one _ _ _ _ _ hx hm hm2
      rw [ih hf2]
theorem Dep.lt {t : Tr} (w : WF t) {x d : Nat} (h : Dep t x d) : d < t.length := by
  have key : ∀ {x d : Nat}, Dep t x d → ∃ l : List Nat, l.length = d + 1 ∧ l.Nodup ∧ ∀ y ∈ l, y < t.length ∧ ∃ e, e ≤ d ∧ Dep t y e := fun {x d} h => by
    induction h with
    | root => exact ⟨[0], rfl, by simp, fun y hy => by simp at hy; subst hy; exact ⟨isF_lt w.root, 0, Nat.le_refl _, .root⟩⟩
    | @step f k x d hf hm hx ih =>
      obtain ⟨l, h1, h2, h3⟩ := ih
      refine ⟨x :: l, by simp [h1], List.nodup_cons.mpr ⟨fun hx2 => ?_, h2⟩, fun y hy => ?_⟩
      · obtain ⟨_, e, he, hd⟩ := h3 x hx2
        have := (Dep.step hf hm hx).uniq w hd
        omega
      · rcases List.mem_cons.mp hy with rfl | hy
        · exact ⟨isF_lt hx, d + 1, Nat.le_refl _, .step hf hm hx⟩
        · obtain ⟨a, e, he, hd⟩ := h3 y hy
          exact ⟨a, e, by omega, hd⟩
  obtain ⟨l, h1, h2, h3⟩ := key h
  have := nodup_len h2 fun y hy => (h3 y hy).1
  omega
theorem kids_none {t : Tr} {f : Nat} (h : isF t f = false) : kids t f = [] := by
  unfold kids
  cases he : ents t f with
  | nil => rfl
  | cons e r =>
    have := isF_of_ent (t := t) (f := f) (e := e) (by rw [he]; simp)
    rw [this] at h
    cases h
theorem blw_none {t : Tr} {f : Nat} (h : isF t f = false) : ∀ s, blw t s f = []
  | 0 => rfl
  | s + 1 => by
    unfold blw
    rw [kids_none h]
    rfl
theorem fm_congr {α β : Type} {f g : α → List β} : ∀ {l : List α}, (∀ c ∈ l, f c = g c) → l.flatMap f = l.flatMap g
  | [], _ => rfl
  | c :: l, h => by
    rw [List.flatMap_cons, List.flatMap_cons, h c List.mem_cons_self, fm_congr fun x hx => h x (List.mem_cons_of_mem _ hx)]
theorem blw_stop {t : Tr} (w : WF t) : ∀ (m f d : Nat), Dep t f d → t.length - d ≤ m → ∀ s, m ≤ s → blw t s f = blw t m f
  | 0, f, d, h, hm, s, hs => by have := h.lt w; omega
  | m + 1, f, d, h, hm, s, hs => by
    obtain ⟨s', rfl⟩ : ∃ s', s = s' + 1 := ⟨s - 1, by omega⟩
    show (kids t f).flatMap (fun c => c :: blw t s' c) = (kids t f).flatMap fun c => c :: blw t m c
    refine fm_congr fun c hc => ?_
    by_cases hF : isF t c = true
    · obtain ⟨⟨k, c'⟩, hme, rfl⟩ := List.mem_map.mp hc
      rw [blw_stop w m c' (d + 1) (.step h hme hF) (by omega) s' (by omega)]
    · rw [blw_none (by simpa using hF), blw_none (by simpa using hF)]
theorem below_eq {t : Tr} (w : WF t) (f : Nat) : below t f = (kids t f).flatMap fun c => c :: below t c := by
  unfold below
  by_cases hF : isF t f = true
  · obtain ⟨d, hd⟩ := w.dep f hF
    rw [← blw_stop w t.length f d hd (by omega) (t.length + 1) (by omega)]
    rfl
  · rw [blw_none (by simpa using hF), kids_none (by simpa using hF)]
    rfl
/-! listings -/
theorem run_VL {ts : List Tr} {cs τs V : List Nat} (h : VL ts cs τs V) : ∀ (N R more : List Nat), run ts (settle (plL ts) N (cs ++ R)) (τs ++ more) = run ts (settle (plL ts) (N ++ V) R) more := by
  induction h with
  | nil => intro N R more; simp
  | @file c cs τs V hp _ ih =>
    intro N R more
    have e : settle (plL ts) N (c :: cs ++ R) = settle (plL ts) (N ++ [c]) (cs ++ R) := by
      rw [List.cons_append]
      show (if plL ts c = true then _ else _) = _
      rw [if_neg (by rw [hp]; simp)]
    rw [e, ih, List.append_assoc]
    rfl
  | @place c τ cs τs V τs' V' hp _ _ ih1 ih2 =>
    intro N R more
    have e : settle (plL ts) N (c :: cs ++ R) = (N ++ [c], c :: (cs ++ R)) := by
      rw [List.cons_append]
      show (if plL ts c = true then _ else _) = _
      rw [if_pos hp]
    rw [e]
    show run ts (lookAt ts τ (N ++ [c]) (c :: (cs ++ R))) ((τs ++ τs') ++ more) = _
    have e2 : lookAt ts τ (N ++ [c]) (c :: (cs ++ R)) = settle (plL ts) (N ++ [c]) (kids (ts.getD τ []) c ++ (cs ++ R)) := rfl
    rw [e2, List.append_assoc, ih1, ih2]
    simp
theorem run_top {ts : List Tr} {p τ : Nat} {τs V : List Nat} (h : VL ts (kids (at_ ts τ) p) τs V) : run ts ([], [p]) (τ :: τs) = some (V, []) := by
  show run ts (settle (plL ts) [] (kids (ts.getD τ []) p ++ [])) τs = _
  have := run_VL h [] [] []
  rw [List.append_nil] at this ⊢
  rw [List.append_nil] at this
  rw [this, List.nil_append]
  rfl
/-- how many folders -/
def cntF (t : Tr) (l : List Nat) : Nat := l.countP (isF t)
theorem VL_const {ts : List Tr} {ds : List Dd} (hR : Row ts ds) {τ : Nat} (hτ : τ < ts.length) : ∀ (m f : Nat), (isF (at_ ts τ) f = true → ∃ d, Dep (at_ ts τ) f d ∧ (at_ ts τ).length - d ≤ m) → VL ts (kids (at_ ts τ) f) (List.replicate (cntF (at_ ts τ) (blw (at_ ts τ) m f)) τ) (blw (at_ ts τ) m f)
  | 0, f, h => by
    by_cases hF : isF (at_ ts τ) f = true
    · obtain ⟨d, hd, hm⟩ := h hF
      have := hd.lt (hR.wf _ (at_mem hτ))
      omega
    · rw [kids_none (by simpa using hF)]
      exact .nil
  | m + 1, f, h => by
    have sub : ∀ cs : List Nat, (∀ c ∈ cs, c ∈ kids (at_ ts τ) f) → VL ts cs (List.replicate (cntF (at_ ts τ) (cs.flatMap fun c => c :: blw (at_ ts τ) m c)) τ) (cs.flatMap fun c => c :: blw (at_ ts τ) m c) := by
      intro cs
      induction cs with
      | nil => intro _; exact .nil
      | cons c cs ih =>
        intro hc
        have ih' := ih fun x hx => hc x (List.mem_cons_of_mem _ hx)
        have hck := hc c List.mem_cons_self
        obtain ⟨hlt, h0, hpl⟩ := hR.kid hτ hck
        rw [List.flatMap_cons]
        by_cases hF : isF (at_ ts τ) c = true
        · have hfF : isF (at_ ts τ) f = true := by
            obtain ⟨e, he, _⟩ := List.mem_map.mp hck
            exact isF_of_ent he
          obtain ⟨d, hd, hm⟩ := h hfF
          have hdc : Dep (at_ ts τ) c (d + 1) := by
            obtain ⟨⟨k, c'⟩, he, rfl⟩ := List.mem_map.mp hck
            exact .step hd he hF
          have h1 := VL_const hR hτ m c fun _ => ⟨d + 1, hdc, by omega⟩
          have := VL.place (c := c) (τ := τ) (by rw [hpl]; exact hF) h1 ih'
          rw [List.cons_append]
          have e : List.replicate (cntF (at_ ts τ) (c :: (blw (at_ ts τ) m c ++ cs.flatMap fun c => c :: blw (at_ ts τ) m c))) τ = τ :: (List.replicate (cntF (at_ ts τ) (blw (at_ ts τ) m c)) τ ++ List.replicate (cntF (at_ ts τ) (cs.flatMap fun c => c :: blw (at_ ts τ) m c)) τ) := by
            unfold cntF
            rw [List.countP_cons_of_pos hF, List.countP_append, List.replicate_append_replicate]
            rfl
          rw [e]
          exact this
        · have hF' : isF (at_ ts τ) c = false := by simpa using hF
          rw [blw_none hF' m]
          have := VL.file (c := c) (by rw [hpl]; exact hF') ih'
          have e : cntF (at_ ts τ) ([c] ++ cs.flatMap fun c => c :: blw (at_ ts τ) m c) = cntF (at_ ts τ) (cs.flatMap fun c => c :: blw (at_ ts τ) m c) := by
            unfold cntF
            rw [List.singleton_append, List.countP_cons_of_neg hF]
          rw [e]
          exact this
    exact sub _ fun c hc => hc
theorem run_const {ts : List Tr} {ds : List Dd} (hR : Row ts ds) {τ : Nat} (hτ : τ < ts.length) (p : Nat) : run ts ([], [p]) (List.replicate (1 + cntF (at_ ts τ) (below (at_ ts τ) p)) τ) = some (below (at_ ts τ) p, []) := by
  rw [Nat.add_comm, List.replicate_succ]
  refine run_top (VL_const hR hτ _ p fun hF => ?_)
  obtain ⟨d, hd⟩ := (hR.wf _ (at_mem hτ)).dep p hF
  exact ⟨d, hd, by omega⟩
theorem drop_at_ (ts : List Tr) (k i : Nat) : at_ (ts.drop k) i = at_ ts (k + i) := by
  unfold at_
  rw [List.getD_eq_getElem?_getD, List.getD_eq_getElem?_getD, List.getElem?_drop]
theorem last_drop {ts : List Tr} {k : Nat} (h : k < ts.length) : lastT (ts.drop k) = lastT ts := by
  rw [last_at (by intro z; have := congrArg List.length z; rw [List.length_drop] at this; simp at this; omega), last_at (by intro z; rw [z] at h; simp at h), drop_at_, List.length_drop]
  congr 1
  omega
theorem VL.drop {ts : List Tr} {k : Nat} (hk : k < ts.length) {cs τs V : List Nat} (h : VL ts cs τs V) (hτ : ∀ τ ∈ τs, k ≤ τ) : VL (ts.drop k) cs (τs.map fun τ => τ - k) V := by
  have hp : plL (ts.drop k) = plL ts := by unfold plL; rw [last_drop hk]
  induction h with
  | nil => exact .nil
  | @file c cs τs V h0 _ ih => exact .file (by rw [hp]; exact h0) (ih hτ)
  | @place c τ cs τs V τs' V' h0 _ _ ih1 ih2 =>
    have i1 := ih1 fun x hx => hτ x (by simp [hx])
    have i2 := ih2 fun x hx => hτ x (by simp [hx])
    have hk2 := hτ τ (by simp)
    rw [List.map_cons, List.map_append]
    refine .place (by rw [hp]; exact h0) ?_ i2
    have e : (ts.drop k).getD (τ - k) [] = ts.getD τ [] := by
      have := drop_at_ ts k (τ - k)
      unfold at_ at this
      rw [this]
      congr 1
      omega
    rw [e]
    exact i1
theorem Row.drop {ts : List Tr} {ds : List Dd} (h : Row ts ds) : ∀ {k : Nat}, k < ts.length → Row (ts.drop k) (ds.drop k) := by
  induction h with
  | one t w =>
    intro k hk
    have : k = 0 := by simp at hk; omega
    subst this
    exact .one t w
  | cons w s r ih =>
    intro k hk
    cases k with
    | zero => exact .cons w s r
    | succ k => exact ih (k := k) (by simpa using hk)
end NW
set_option Elab.async false
set_option linter.all false
set_option maxRecDepth 100000
set_option maxHeartbeats 1000000
/-! W22: check_numbers, looked_at, listing. -/
namespace NW
open PySem PySem.Spec PyProof.Rows L2
section
variable {P : Program} {w : World} {K : Frag} {mg : Str → Option Value} {base : Heap}
/-- a list or a tuple of the heap -/
def LT (H : Hp) (a : Addr) (xs : List V) : Prop := H a = some (.lst xs) ∨ H a = some (.tup xs)
theorem LT.same {H H' : Hp} {a : Addr} {xs : List V} (s : Same H H') (h : LT H a xs) : LT H' a xs := h.elim (fun e => .inl (s _ _ e)) fun e => .inr (s _ _ e)
theorem kitLT (K : Frag) {H : Hp} {a : Addr} {xs : List V} (h : LT H a xs) : ∃ t, TyX K H (.ref a) t ∧ PySem.W.kitAny K t [.type "list", .type "tuple"] = some true := by
  rcases h with h | h
  · exact ⟨_, .base (.lst h), kitAny2 (b1 := true) (b2 := false) (kit_ty (by decide +kernel)) (kit_ty (by decide +kernel))⟩
  · exact ⟨_, .base (.tup h), kitAny2 (b1 := false) (b2 := true) (kit_ty (by decide +kernel)) (kit_ty (by decide +kernel))⟩
def spCheckNumbers : Sp := fun vs H Q _ => ∃ (a : Addr) (lo hi : Nat) (l : List Nat), vs = [.ref a, .int lo, .int hi] ∧ LT H a (natV l) ∧ l.Pairwise (· ≤ ·) ∧ (∀ x ∈ l, lo ≤ x ∧ x ≤ hi) ∧ ∀ H', Same H H' → Q .non H'
theorem sc_check_numbers : FnScope ["numbers", "least", "most", "number"] ["numbers", "least", "most"] (defScope s_check_numbers) := ⟨rfl, rfl, rfl, by decide +kernel, rfl, by decide +kernel, by decide +kernel⟩
theorem ok_check_numbers (T : Txt K mg) : Cal P w K mg base 2 "check_numbers" spCheckNumbers [] := by
  refine cal T.f_check_numbers T.g_check_numbers sc_check_numbers (fun _ _ _ _ _ _ us hl => match us, hl with | [_, _, _], _ => rfl) (fun vs H Q E h => ?_) (fun cdv A outer s H vs Q E hr h => ?_)
  · obtain ⟨a, lo, hi, l, rfl, _⟩ := h
    rfl
  · obtain ⟨a, lo, hi, l, rfl, ha, hs, hb, q⟩ := h
    have nd := sc_check_numbers.nd
    refine ⟨_, pss_cons (ps_if (pt_not (pt_val (pe_callB call_isiT (by rfl) T.n_isinstance (by decide +kernel) (pa_cons (pv 0) (pa_cons (pe_tup (pa_cons (pe_bltn (v := .ty "list") (by rfl) T.n_list (by decide +kernel) rfl) (pa_cons (pe_bltn (v := .ty "tuple") (by rfl) T.n_tuple (by decide +kernel) rfl) pa_nil))) pa_nil))))) pss_never pss_nil)
      (pss_one (ps_for PassesOwn.never rfl (pi_or (pi_list (pv 0)) (pi_tup (pv 0))) (pg_name (i := 3) nd rfl (Or.inl rfl))
        (pss_cons (ps_if (PW.pt (pw_or (pt_not (pt_val (C8.pe_c (ok_is_number T) hr (by decide) rfl (pa_cons (pv 3) pa_nil)))) (pw_or1 (pt_not (pt_chain op_le op_le (pv 1) (pv 3) (pv 2)))))) pss_never pss_nil)
          (pss_one (ps_set (i := 1) nd rfl (Or.inl rfl) (pv 3)))))), ?_⟩
    refine ⟨_, rfl, (by show 2 ≤ sizeLine; decide), fun tq np => ?_⟩
    have s1 := same_new (o := .tup [.ty "list", .ty "tuple"]) np
    obtain ⟨t, ht, hk⟩ := kitLT K (ha.same s1)
    refine ⟨_, tq, _, _, _, _, rfl, upd_same, .cons (.ty _) (.cons (.ty _) .nil), ht, hk, _, rfl, iteF ?_⟩
    have ha1 := ha.same s1
    generalize upd H tq (.tup [.ty "list", .ty "tuple"]) = H1 at s1 ha1
    have body : ∀ (i : Nat) (y : Nat) (lo' : Nat), l[i]? = some y → (∀ z ∈ l.drop i, lo' ≤ z) → lo' ≤ y ∧ y ≤ hi ∧ ∀ z ∈ l.drop (i + 1), y ≤ z := fun i y lo' hy hlo => by
      have hi' := (List.getElem?_eq_some_iff.mp hy).1
      have e : l.drop i = y :: l.drop (i + 1) := by rw [List.drop_eq_getElem_cons hi', (List.getElem?_eq_some_iff.mp hy).2]
      refine ⟨hlo y (by rw [e]; simp), (hb y (List.mem_of_getElem? hy)).2, fun z hz => ?_⟩
      have := hs.sublist (List.drop_sublist i l)
      rw [e] at this
      exact (List.pairwise_cons.mp this).1 z hz
    rcases ha1 with h | h
    · refine .inl ⟨_, rfl, a, rfl, ⟨_, SqL.of h⟩, for_it walk_list (fun i σ Hi => Same H1 Hi ∧ ∃ (lo' : Nat) (x3 : Option V), σ = [some (.ref a), some (.int lo'), some (.int hi), x3] ∧ ∀ y ∈ l.drop i, lo' ≤ y) ⟨Same.refl _, lo, none, rfl, fun y hy => (hb y (List.mem_of_mem_drop hy)).1⟩ (fun i σ Hi _ g => SqL.of (g.1 _ _ h)) (fun i x σ Hj Hi hi hI hy => ?_) (fun σ Hi hI => q _ (s1.trans hI.1))⟩
      obtain ⟨sm, lo', x3, rfl, hlo⟩ := hI
      obtain ⟨rfl, hx⟩ := hy
      obtain ⟨y, hy, rfl⟩ := natV_get hx
      obtain ⟨b1, b2, b3⟩ := body i y lo' hy hlo
      refine ⟨_, rfl, _, rfl, _, rfl, iteF ⟨_, rfl, _, rfl, _, _, rfl, rfl, true, congrArg V.bl (decide_eq_true (by omega)), iteT ⟨_, rfl, _, _, rfl, rfl, true, congrArg V.bl (decide_eq_true (by omega)), iteF ⟨_, rfl, sm, y, _, rfl, b3⟩⟩⟩⟩
    · refine .inr ⟨_, rfl, a, rfl, ⟨_, SqT.of h⟩, for_it walk_tup (fun i σ Hi => Same H1 Hi ∧ ∃ (lo' : Nat) (x3 : Option V), σ = [some (.ref a), some (.int lo'), some (.int hi), x3] ∧ ∀ y ∈ l.drop i, lo' ≤ y) ⟨Same.refl _, lo, none, rfl, fun y hy => (hb y (List.mem_of_mem_drop hy)).1⟩ (fun i σ Hi _ g => SqT.of (g.1 _ _ h)) (fun i x σ Hj Hi hi hI hy => ?_) (fun σ Hi hI => q _ (s1.trans hI.1))⟩
      obtain ⟨sm, lo', x3, rfl, hlo⟩ := hI
      obtain ⟨rfl, hx⟩ := hy
      obtain ⟨y, hy, rfl⟩ := natV_get hx
      obtain ⟨b1, b2, b3⟩ := body i y lo' hy hlo
      refine ⟨_, rfl, _, rfl, _, rfl, iteF ⟨_, rfl, _, rfl, _, _, rfl, rfl, true, congrArg V.bl (decide_eq_true (by omega)), iteT ⟨_, rfl, _, _, rfl, rfl, true, congrArg V.bl (decide_eq_true (by omega)), iteF ⟨_, rfl, sm, y, _, rfl, b3⟩⟩⟩⟩
/-! looked_at -/
theorem natV_drop1 (p : Nat) (r : List Nat) : cutV (natV (p :: r)) (some (1 : Int)) none = natV r := (cut_from (natV (p :: r)) 1).trans rfl
theorem kids_len {t : Tr} (w : WF t) (f : Nat) : (kids t f).length ≤ 4 := by
  unfold kids
  rw [List.length_map]
  exact srt_len (w.srt f) fun e he => (w.ent f e.1 e.2 he).1
theorem PRow.at' {H : Hp} {a : Addr} {ts : List Tr} {i : Nat} (h : PRow K H a ts) (hi : i < ts.length) : ∃ (rs : List Addr) (r : Addr), H a = some (.lst (rs.map V.ref)) ∧ atI (rs.map V.ref) (i : Int) = some (.ref r) ∧ PTree K H r (at_ ts i) := by
  obtain ⟨rs, h1, h2⟩ := h
  obtain ⟨r, e, hr⟩ := Pget h2 (at_get hi)
  exact ⟨rs, r, h1, atI_nat (by rw [List.getElem?_map, e]; rfl), hr⟩
theorem PRow.last {H : Hp} {a : Addr} {ts : List Tr} (h : PRow K H a ts) (hi : ts ≠ []) : ∃ (rs : List Addr) (r : Addr), H a = some (.lst (rs.map V.ref)) ∧ atI (rs.map V.ref) (-1) = some (.ref r) ∧ PTree K H r (lastT ts) := by
  obtain ⟨rs, h1, h2⟩ := h
  obtain ⟨ts0, tl, rfl⟩ : ∃ ts0 tl, ts = ts0 ++ [tl] := ⟨ts.dropLast, ts.getLast hi, (List.dropLast_concat_getLast hi).symm⟩
  obtain ⟨rs0, r, rfl, h3, h4⟩ := Psplit h2
  refine ⟨_, r, h1, by rw [List.map_append]; exact atI_last _ _, ?_⟩
  have : lastT (ts0 ++ [tl]) = tl := by unfold lastT; simp
  rw [this]
  exact h4
def spLookedAt (K : Frag) : Sp := fun vs H Q _ => ∃ (sh nN nL : Addr) (ts : List Tr) (τ p : Nat) (N r : List Nat), vs = [.ref sh, .int τ, .ref nN, .ref nL] ∧ PRow K H sh ts ∧ τ < ts.length ∧ WF (at_ ts τ) ∧ H nN = some (.lst (natV N)) ∧ H nL = some (.lst (natV (p :: r))) ∧
  N.length + r.length ≤ 10000000 ∧ p < (at_ ts τ).length ∧ (∀ c ∈ kids (at_ ts τ) p ++ r, c < (lastT ts).length) ∧
  ∀ u F W H', Same H H' → H F = none → H W = none → H' u = some (.tup [.ref F, .ref W]) → H' F = some (.lst (natV (lookAt ts τ N (p :: r)).1)) → H' W = some (.lst (natV (lookAt ts τ N (p :: r)).2)) → Q (.ref u) H'
theorem sc_looked_at : FnScope ["shapes", "time", "noted", "left", "node", "inside", "found", "waiting", "name", "child"] ["shapes", "time", "noted", "left"] (defScope s_looked_at) := ⟨rfl, rfl, rfl, by decide +kernel, rfl, by decide +kernel, by decide +kernel⟩
theorem ok_looked_at (T : Txt K mg) : Cal P w K mg base 2 "looked_at" (spLookedAt K) [] := by
  refine cal T.f_looked_at T.g_looked_at sc_looked_at (fun _ _ _ _ _ _ us hl => match us, hl with | [_, _, _, _], _ => rfl) (fun vs H Q E h => ?_) (fun cdv A outer s H vs Q E hr h => ?_)
  · obtain ⟨sh, nN, nL, ts, τ, p, N, r, rfl, _⟩ := h
    rfl
  · obtain ⟨sh, nN, nL, ts, τ, p, N, r, rfl, hsh, hτ, wf, hN, hL, hlen, hp, hc, q⟩ := h
    have nd := sc_looked_at.nd
    refine ⟨_, pss_cons (ps_set (i := 4) nd rfl (Or.inl rfl) (pe_ix ix_tup (pe_fld (pe_ix ix_list (pv 0) (pv 1) (fun _ _ => rfl)) rfl) (pe_ix ix_list (pv 3) pe_int (fun _ _ => rfl)) (fun _ _ => rfl)))
      (C8.pss_cut (ps_set (i := 5) nd rfl (Or.inl rfl) (pe_ifExp (pt_val (pe_callB call_isi (by rfl) T.n_isinstance (by decide +kernel) (pa_cons (pv 4) (pa_cons (pcls T.g_Folder) pa_nil))))
        (pe_lc (own := [("name", 8), ("child", 9)]) (g := gTup K 2 (gCons (gName 8) (gCons (gName 9) gNil))) (tt := tYes) rfl nd (pi_tup (pe_fld (pv 4) rfl)) (blkOk_by (N := ["shapes", "time", "noted", "left", "node", "inside", "found", "waiting", "name", "child"]) (sc := defScope s_looked_at) (by decide +kernel))
          (fun _ _ _ _ _ => pg_tup rfl (pgs_cons (pg_name (i := 8) nd rfl (Or.inl rfl)) (pgs_cons (pg_name (i := 9) nd rfl (Or.inl rfl)) pgs_nil))) (fun _ _ _ _ _ => pts_nil) (fun _ _ _ _ _ => pv 9)) (pe_lst pa_nil)))
      (pss_cons (ps_par (i := 6) (j := 7) rfl nd rfl rfl (by decide) rfl rfl (pa_cons (pe_callTy call_list_of (by rfl) T.n_list (by decide +kernel) (pa_cons (pv 2) pa_nil)) (pa_cons (pe_op op_cat (pv 5) (pe_slice sl_list (pv 3) (po_some pe_int) po_none)) pa_nil)) (by rfl))
      (pss_cons (ps_while PassesOwn.never (PW.pt (pw_and (pt_cmpR (op_neNil hr.units0) (pv 7) (pe_lst pa_nil) (nomark _)) (pw_and1 (pt_not (pt_val (C8.pe_c (ok_is_place T) hr (by decide) rfl (pa_cons (pe_ix ix_list (pv 0) (pe_un un_neg pe_int) (fun _ _ => rfl)) (pa_cons (pe_ix ix_list (pv 7) pe_int (fun _ _ => rfl)) pa_nil))))))))
        (pss_one (ps_expr (pe_bm PySem.F.plainAttrs_list PySem.F.slot_list_append PySem.F.type_list_append mt_append (pv 6) (pa_cons (pe_bm PySem.F.plainAttrs_list PySem.F.slot_list_pop PySem.F.type_list_pop mt_popAt (pv 7) (pa_cons pe_int pa_nil)) pa_nil)))))
      (pss_one (ps_ret (pe_tup (pa_cons (pe_op op_cat (pv 6) (pe_slice sl_list (pv 7) po_none (po_some pe_int))) (pa_cons (pv 7) pa_nil)))))))), ?_⟩
    obtain ⟨rs, r1, g1, g2, dx, tp, ps, g3, g4, g5⟩ := hsh.at' hτ
    obtain ⟨pn, gp, hpn⟩ := NW.node_at g5 (List.getElem?_eq_getElem hp)
    refine ⟨_, rfl, _, rfl, sh, _, _, _, rfl, rfl, SqL.of g1, g2, r1, _, dx, _, _, rfl, g3, T.c_Tree, T.a_Tree_nodes, rfl, _, rfl, nL, _, _, _, rfl, rfl, SqL.of hL, atI_nat (j := 0) rfl, tp, _, _, _, rfl, rfl, SqT.of g4, gp, ?_⟩
    refine ⟨fun σ' H' => ∃ D, σ' = [some (.ref sh), some (.int τ), some (.ref nN), some (.ref nL), some (.ref pn), some (.ref D), none, none, none, none] ∧ Same H H' ∧ H' D = some (.lst (natV (kids (at_ ts τ) p))), ?_, ?_⟩
    · have hF := isF_at (List.getElem?_eq_getElem hp)
      have hE := ents_at (List.getElem?_eq_getElem hp)
      generalize (at_ ts τ)[p] = ndd at hpn hF hE
      refine ⟨_, rfl, _, _, _, _, _, rfl, .own _, hpn.ty T, kit_Folder T ndd, _, rfl, ?_⟩
      cases ndd with
      | fol o es =>
        obtain ⟨dn, en, qs, f1, f2, f3⟩ := hpn
        have l4 : es.length ≤ 4 := by
          have := kids_len wf p
          unfold kids at this
          rw [List.length_map, hE] at this
          exact this
        refine iteT ⟨_, rfl, pn, _, dn, _, _, rfl, f1, T.c_Folder, T.a_Folder_entries, rfl, en, rfl, ⟨_, SqT.of f2⟩, fun D nD => lc_fm walk_tup (fun i => (es[i]?).map fun e => V.int (e.2 : Nat)) nD (fun H' s => seqT s (SqT.of f2)) (by rw [List.length_map, Plen f3]; exact Nat.le_trans l4 (by decide)) (fun i x H' H2 Qy Qn hi s hy ky kn => ?_) ?_⟩
        · obtain ⟨rfl, hx⟩ := hy
          obtain ⟨u, kn2, hkn, rfl, hu2⟩ := qs_get (Pmap f3 fun _ _ h => EPair.gx (sgx s) h) hx
          exact ⟨u, _, rfl, SqT.of hu2, rfl, _, _, rfl, _, _, rfl, rfl, rfl, _, rfl, ky _ (by rw [hkn]; rfl)⟩
        · have eo : outsTo (fun i => (es[i]?).map fun e => V.int (e.2 : Nat)) (qs.map V.ref).length = natV (kids (at_ ts τ) p) := by
            rw [List.length_map, Plen f3, outsTo_map es (fun e => some (V.int (e.2 : Nat))) _ (fun i e he => by rw [he]; rfl), List.filterMap_eq_map']
            unfold kids natV
            rw [hE, List.map_map]
            rfl
          rw [eo]
          exact ⟨D, rfl, same_new nD, upd_same⟩
      | fil o =>
        refine iteF ⟨(by show 0 ≤ sizeLine; decide), fun D nD => ⟨D, rfl, same_new nD, ?_⟩⟩
        rw [upd_same]
        unfold kids
        rw [hE]
        rfl
      | gon o b =>
        refine iteF ⟨(by show 0 ≤ sizeLine; decide), fun D nD => ⟨D, rfl, same_new nD, ?_⟩⟩
        rw [upd_same]
        unfold kids
        rw [hE]
        rfl
    · rintro σ' H1 ⟨D, rfl, s1, hD⟩
      have nL' := s1 _ _ hL
      have hk4 := kids_len wf p
      refine ⟨_, rfl, nN, _, rfl, .inl (SqL.of (s1 _ _ hN)), fun Fa nF => ?_⟩
      have s2 := snew (o := .lst (natV N)) s1 nF
      have n0F : H Fa = none := s1.free nF
      have hFa : upd H1 Fa (.lst (natV N)) Fa = some (.lst (natV N)) := upd_same
      have hD2 := upd_at (o := .lst (natV N)) hD (ne_of_none hD nF)
      generalize upd H1 Fa (.lst (natV N)) = H2 at s2 hFa hD2
      refine ⟨_, rfl, _, rfl, 1, rfl, nL, _, rfl, SqL.of (s2 _ _ hL), fun Sa nS => ?_⟩
      rw [natV_drop1]
      have s3 := snew (o := .lst (natV r)) s2 nS
      have hS : upd H2 Sa (.lst (natV r)) Sa = some (.lst (natV r)) := upd_same
      have hD3 := upd_at (o := .lst (natV r)) hD2 (ne_of_none hD2 nS)
      have hF3 := upd_at (o := .lst (natV r)) hFa (ne_of_none hFa nS)
      generalize upd H2 Sa (.lst (natV r)) = H3 at s3 hS hD3 hF3
      refine ⟨D, Sa, _, _, rfl, rfl, hD3, hS, ?_, fun Wa nW => ⟨_, _, rfl, ?_⟩⟩
      · rw [natV_len, natV_len]
        exact Nat.le_trans (by omega : _ ≤ 10000004) (by decide)
      have s4 := snew (o := .lst (natV (kids (at_ ts τ) p) ++ natV r)) s3 nW
      have n0W : H Wa = none := s3.free nW
      have hW : upd H3 Wa (.lst (natV (kids (at_ ts τ) p) ++ natV r)) Wa = some (.lst (natV (kids (at_ ts τ) p ++ r))) := by
        rw [upd_same]
        unfold natV
        rw [List.map_append]
      have hF4 := upd_at (o := .lst (natV (kids (at_ ts τ) p) ++ natV r)) hF3 (ne_of_none hF3 nW)
      have hFW : Fa ≠ Wa := ne_of_none hF3 nW
      generalize upd H3 Wa (.lst (natV (kids (at_ ts τ) p) ++ natV r)) = H4 at s4 hW hF4
      have eL : lookAt ts τ N (p :: r) = settle (plL ts) N (kids (at_ ts τ) p ++ r) := rfl
      rw [eL] at q
      have hne : ts ≠ [] := fun z => by rw [z] at hτ; cases hτ
      let W : Nat → L2.St → Hp → Prop := fun μ σ Hc => ∃ (N' W' : List Nat), μ = W'.length ∧ σ = [some (.ref sh), some (.int τ), some (.ref nN), some (.ref nL), some (.ref pn), some (.ref D), some (.ref Fa), some (.ref Wa), none, none] ∧ Same H Hc ∧ Hc Fa = some (.lst (natV N')) ∧ Hc Wa = some (.lst (natV W')) ∧
        settle (plL ts) N' W' = settle (plL ts) N (kids (at_ ts τ) p ++ r) ∧ (∀ c ∈ W', c < (lastT ts).length) ∧ N'.length + W'.length ≤ 10000004
      refine ⟨W, ⟨_, N, kids (at_ ts τ) p ++ r, rfl, rfl, s4, hF4, hW, rfl, hc, by rw [List.length_append]; omega⟩, ?_⟩
      have fin : ∀ (N' W' : List Nat) (Hc : Hp), Same H Hc → Hc Fa = some (.lst (natV N')) → Hc Wa = some (.lst (natV W')) → N'.length + W'.length ≤ 10000004 → settle (plL ts) N (kids (at_ ts τ) p ++ r) = (N' ++ W'.take 1, W') →
          (tRet (tTup (tCons (tOp rCat (tVar 6) (tSl (rSlL K) (tVar 7) tNoPart (tPart (tC (.int 1))))) (tCons (tVar 7) tNil)))) { nx := fun _ H' => Q .non H', rt := Q } [some (.ref sh), some (.int τ), some (.ref nN), some (.ref nL), some (.ref pn), some (.ref D), some (.ref Fa), some (.ref Wa), none, none] Hc := fun N' W' Hc sc hF hW hl he => by
        refine ⟨_, rfl, _, rfl, 1, rfl, Wa, _, rfl, SqL.of hW, fun S2 n2 => ?_⟩
        have e1 : cutV (natV W') none (some (1 : Int)) = natV (W'.take 1) := (cut_to (natV W') 1).trans (by unfold natV; rw [List.map_take])
        rw [e1]
        have hF5 := upd_at (o := .lst (natV (W'.take 1))) hF (ne_of_none hF n2)
        have hW5 := upd_at (o := .lst (natV (W'.take 1))) hW (ne_of_none hW n2)
        have s5 := snew (o := .lst (natV (W'.take 1))) sc n2
        have hS5 : upd Hc S2 (.lst (natV (W'.take 1))) S2 = some (.lst (natV (W'.take 1))) := upd_same
        generalize upd Hc S2 (.lst (natV (W'.take 1))) = H5 at s5 hF5 hW5 hS5
        refine ⟨Fa, S2, _, _, rfl, rfl, hF5, hS5, ?_, fun A2 nA => ?_⟩
        · rw [natV_len, natV_len]
          have : (W'.take 1).length ≤ W'.length := by rw [List.length_take]; omega
          exact Nat.le_trans (by omega : _ ≤ 10000004) (by decide)
        have s6 := snew (o := .lst (natV N' ++ natV (W'.take 1))) s5 nA
        have hW6 := upd_at (o := .lst (natV N' ++ natV (W'.take 1))) hW5 (ne_of_none hW5 nA)
        have hA : upd H5 A2 (.lst (natV N' ++ natV (W'.take 1))) A2 = some (.lst (natV (N' ++ W'.take 1))) := by
          rw [upd_same]
          unfold natV
          rw [List.map_append]
        generalize upd H5 A2 (.lst (natV N' ++ natV (W'.take 1))) = H6 at s6 hW6 hA
        refine ⟨_, rfl, (by show 2 ≤ sizeLine; decide), fun u nu => ?_⟩
        refine q u A2 Wa _ (snew s6 nu) (s5.free nA) n0W upd_same ?_ ?_
        · rw [he]
          exact upd_at hA (ne_of_none hA nu)
        · rw [he]
          exact upd_at hW6 (ne_of_none hW6 nu)
      rintro μ σ Hc ⟨N', W', rfl, rfl, sc, hF, hW, he, hb, hl⟩
      refine ⟨_, rfl, (by show 0 ≤ sizeLine; decide), fun z nz => ⟨Wa, z, _, rfl, rfl, SqL.of (upd_at hW (ne_of_none hW nz)), SqL.of upd_same, _, rfl, ?_⟩⟩
      have sz := snew (o := .lst []) sc nz
      have hF7 := upd_at (o := .lst []) hF (ne_of_none hF nz)
      have hW7 := upd_at (o := .lst []) hW (ne_of_none hW nz)
      generalize upd Hc z (.lst []) = H7 at sz hF7 hW7
      cases W' with
      | nil =>
        refine iteF ?_
        exact fin N' [] H7 sz hF7 hW7 hl (by rw [← he]; show (N', []) = _; simp)
      | cons c w =>
        refine iteT ?_
        obtain ⟨rs2, rl, l1, l2, l3⟩ := (hsh.same sz).last hne
        refine ⟨_, rfl, _, rfl, sh, _, _, _, rfl, rfl, SqL.of l1, l2, _, rfl, Wa, _, _, _, rfl, rfl, SqL.of hW7, atI_nat (j := 0) rfl, rl, lastT ts, c, rfl, l3, hb c List.mem_cons_self, fun H8 s8 => ⟨_, rfl, ?_⟩⟩
        have sz8 := sz.trans s8
        have hF8 := s8 _ _ hF7
        have hW8 := s8 _ _ hW7
        have epl : plL ts c = isP (lastT ts) c := rfl
        cases hpl : isP (lastT ts) c with
        | true =>
          refine iteF ?_
          refine fin N' (c :: w) H8 sz8 hF8 hW8 hl ?_
          rw [← he]
          show (if plL ts c = true then (N' ++ [c], c :: w) else _) = _
          rw [epl, hpl]
          rfl
        | false =>
          refine iteT ⟨fun σ' H' => ∃ m', m' < (c :: w).length ∧ W m' σ' H', fun _ _ h => h, ?_⟩
          refine ⟨_, rfl, .inl ⟨rfl, _, SqL.of hF8⟩, _, rfl, .inl ⟨rfl, _, SqL.of hW8⟩, Wa, _, 0, 0, _, rfl, rfl, hW8, by decide, by decide, ?_, rfl, ?_⟩
          · exact seqIndex_of (by omega) (by rw [natV_len, List.length_cons]; omega)
          · have hF9 := upd_at (o := .lst ((natV (c :: w)).eraseIdx 0)) hF8 hFW
            refine ⟨Fa, _, _, rfl, rfl, hF9, ?_, w.length, by simp, N' ++ [c], w, rfl, rfl, sput (sput sz8 n0W) n0F, ?_, upd_at upd_same hFW.symm, ?_, fun x hx => hb x (List.mem_cons_of_mem _ hx), ?_⟩
            · rw [natV_len]
              exact Nat.lt_of_le_of_lt (by omega : _ ≤ 10000004) (by decide)
            · rw [upd_same]
              unfold natV
              rw [List.map_append]
              rfl
            · rw [← he]
              show _ = (if plL ts c = true then _ else settle (plL ts) (N' ++ [c]) w)
              rw [epl, hpl]
              rfl
            · rw [List.length_append, List.length_singleton]
              rw [List.length_cons] at hl
              omega
end
end NW
set_option Elab.async false
set_option linter.all false
set_option maxRecDepth 100000
set_option maxHeartbeats 1000000
/-! W23: listing. -/
namespace NW
open PySem PySem.Spec PyProof.Rows L2
theorem settle_mem {pl : Nat → Bool} : ∀ {W N : List Nat} {c : Nat}, c ∈ (settle pl N W).2 → c ∈ W
  | [], _, _, h => by cases h
  | d :: W, N, c, h => by
    have e : settle pl N (d :: W) = if pl d = true then (N ++ [d], d :: W) else settle pl (N ++ [d]) W := rfl
    rw [e] at h
    by_cases hp : pl d = true
    · rw [if_pos hp] at h; exact h
    · rw [if_neg hp] at h; exact List.mem_cons_of_mem _ (settle_mem h)
theorem settle_len {pl : Nat → Bool} : ∀ {W N : List Nat}, (settle pl N W).1.length + (settle pl N W).2.length ≤ N.length + W.length + 1
  | [], N => by show N.length + 0 ≤ _; simp
  | d :: W, N => by
    have e : settle pl N (d :: W) = if pl d = true then (N ++ [d], d :: W) else settle pl (N ++ [d]) W := rfl
    rw [e]
    by_cases hp : pl d = true
    · rw [if_pos hp]
      simp
      omega
    · rw [if_neg hp]
      have := settle_len (pl := pl) (W := W) (N := N ++ [d])
      simp only [List.length_append, List.length_cons, List.length_nil] at this ⊢
      omega
theorem Row.len_last {ts : List Tr} {ds : List Dd} (h : Row ts ds) {i : Nat} (hi : i < ts.length) : (at_ ts i).length ≤ (lastT ts).length := by
  rw [last_at h.ne]
  exact (h.mono (by omega) (by omega)).1
section
variable {P : Program} {w : World} {K : Frag} {mg : Str → Option Value} {base : Heap}
def spListing (K : Frag) : Sp := fun vs H Q _ => ∃ (a b we : Addr) (t : Tr) (ts : List Tr) (ds : List Dd) (pl : Nat) (τs V : List Nat), vs = [.ref a, .ref b, .int pl, .ref we] ∧ RowOk (t :: ts) ds ∧ PTree K H a t ∧ PDeeds K H b ds ∧ isP t pl = true ∧ LT H we (natV τs) ∧ τs.Pairwise (· ≤ ·) ∧
  (∀ τ ∈ τs, τ < (t :: ts).length) ∧ τs.length ≤ 2000000 ∧ run (t :: ts) ([], [pl]) τs = some (V, []) ∧ ∀ r H', Same H H' → H r = none → H' r = some (.lst (natV V)) → Q (.ref r) H'
theorem sc_listing : FnScope ["tree", "deeds", "place", "weaving", "shapes", "noted", "left", "time"] ["tree", "deeds", "place", "weaving"] (defScope s_listing) := ⟨rfl, rfl, rfl, by decide +kernel, rfl, by decide +kernel, by decide +kernel⟩
theorem ok_listing (T : Txt K mg) : Cal P w K mg base 10 "listing" (spListing K) [] := by
  refine cal T.f_listing T.g_listing sc_listing (fun _ _ _ _ _ _ us hl => match us, hl with | [_, _, _, _], _ => rfl) (fun vs H Q E h => ?_) (fun cdv A outer s H vs Q E hr h => ?_)
  · obtain ⟨a, b, we, t, ts, ds, pl, τs, V, rfl, _⟩ := h
    rfl
  · obtain ⟨a, b, we, t, ts, ds, pl, τs, Vl, rfl, hR, hT, hD, hpl, hw, hs, hb, hlen, hrun, q⟩ := h
    have nd := sc_listing.nd
    refine ⟨_, pss_cons (ps_set (i := 4) nd rfl (Or.inl rfl) (C8.pe_c (ok_trees T) hr (by decide) rfl (pa_cons (pv 0) (pa_cons (pv 1) pa_nil))))
      (pss_cons (ps_expr (C8.pe_c (ok_check_place T) hr (by decide) rfl (pa_cons (pv 0) (pa_cons (pv 2) pa_nil))))
      (pss_cons (ps_expr (C8.pe_c (ok_check_numbers T) hr (by decide) rfl (pa_cons (pv 3) (pa_cons pe_int (pa_cons (pe_op op_sub (pe_callB call_len_seq (by rfl) T.n_len PySem.boot_len (pa_cons (pv 4) pa_nil)) pe_int) pa_nil)))))
      (pss_cons (ps_par (i := 5) (j := 6) rfl nd rfl rfl (by decide) rfl rfl (pa_cons (pe_lst pa_nil) (pa_cons (pe_lst (pa_cons (pv 2) pa_nil)) pa_nil)) (by rfl))
      (pss_cons (ps_for PassesOwn.never rfl (pi_or (pi_list (pv 3)) (pi_tup (pv 3))) (pg_name (i := 7) nd rfl (Or.inl rfl))
        (pss_cons (ps_if (pt_cmpR (op_eqNil hr.units0) (pv 6) (pe_lst pa_nil) (nomark _)) pss_never pss_nil)
          (pss_one (ps_asg (C8.pe_c (ok_looked_at T) hr (by decide) rfl (pa_cons (pv 4) (pa_cons (pv 7) (pa_cons (pv 5) (pa_cons (pv 6) pa_nil)))))
            (pg_tup rfl (pgs_cons (pg_name (i := 5) nd rfl (Or.inl rfl)) (pgs_cons (pg_name (i := 6) nd rfl (Or.inl rfl)) pgs_nil)))))))
      (pss_cons (ps_if (pt_cmpR (op_neNil hr.units0) (pv 6) (pe_lst pa_nil) (nomark _)) pss_never pss_nil)
      (pss_one (ps_ret (pv 5)))))))), ?_⟩
    refine ⟨_, rfl, _, rfl, a, b, t, ts, ds, rfl, hR, hT, hD, fun sh H1 s1 nsh hsh => ?_⟩
    refine ⟨_, rfl, _, rfl, a, t, pl, rfl, hT.gx (sgx s1), hpl, fun H2 s2 => ?_⟩
    have hsh : PRow K H1 sh (t :: ts) := hsh
    have s12 := s1.trans s2
    have hsh2 := hsh.same s2
    obtain ⟨rs, r1, r2⟩ := id hsh2
    have hl0 : (rs.map V.ref).length = (t :: ts).length := by rw [List.length_map, Plen r2]
    refine ⟨_, rfl, _, rfl, sh, _, rfl, .inl (SqL.of r1), _, _, rfl, rfl, ?_⟩
    have e1 : ((rs.map V.ref).length : Int) - 1 = ((ts.length : Nat) : Int) := by rw [hl0, List.length_cons]; omega
    refine ⟨we, 0, ts.length, τs, (by show [V.ref we, V.int 0, V.int (((rs.map V.ref).length : Int) - 1)] = _; rw [e1]; rfl), hw.same s12, hs, fun x hx => ⟨Nat.zero_le _, by have := hb x hx; rw [List.length_cons] at this; omega⟩, fun H3 s3 => ?_⟩
    have s13 := s12.trans s3
    have hsh3 := hsh2.same s3
    refine ⟨(by show 0 ≤ sizeLine; decide), fun F0 nF0 => ?_⟩
    have s4 := snew (o := .lst []) s13 nF0
    have hF0 : upd H3 F0 (.lst []) F0 = some (.lst (natV [])) := upd_same
    have hsh4 := hsh3.same (same_new (o := .lst []) nF0)
    generalize upd H3 F0 (.lst []) = H4 at s4 hF0 hsh4
    refine ⟨_, rfl, (by show 1 ≤ sizeLine; decide), fun W0 nW0 => ⟨_, _, rfl, ?_⟩⟩
    have s5 := snew (o := .lst [.int pl]) s4 nW0
    have hF5 := upd_at (o := .lst [.int pl]) hF0 (ne_of_none hF0 nW0)
    have hW5 : upd H4 W0 (.lst [.int pl]) W0 = some (.lst (natV [pl])) := upd_same
    have hsh5 := hsh4.same (same_new (o := .lst [.int pl]) nW0)
    have n0F : H F0 = none := s13.free nF0
    generalize upd H4 W0 (.lst [.int pl]) = H5 at s5 hF5 hW5 hsh5
    -- what the loop keeps
    let Iv : Nat → List Nat → List Nat → Prop := fun i N Wl => run (t :: ts) (N, Wl) (τs.drop i) = some (Vl, []) ∧ (∀ τ ∈ τs.drop i, ∀ c ∈ Wl, c < (at_ (t :: ts) τ).length) ∧ N.length + Wl.length ≤ 1 + 4 * i
    have t0 : ∀ τ, τ < (t :: ts).length → t.length ≤ (at_ (t :: ts) τ).length := fun τ hτ => (hR.1.mono (i := 0) (Nat.zero_le _) hτ).1
    have iv0 : Iv 0 [] [pl] := ⟨hrun, fun τ hτ c hc => by
      rw [List.drop_zero] at hτ
      have e : c = pl := by simpa using hc
      rw [e]
      exact Nat.lt_of_lt_of_le (isP_lt hpl) (t0 τ (hb τ hτ)), by simp⟩
    have ivs : ∀ (i : Nat) (N Wl : List Nat) (τ : Nat), τs[i]? = some τ → Iv i N Wl → ∃ p r, Wl = p :: r ∧ τ < (t :: ts).length ∧ N.length + r.length ≤ 10000000 ∧ p < (at_ (t :: ts) τ).length ∧ (∀ c ∈ kids (at_ (t :: ts) τ) p ++ r, c < (lastT (t :: ts)).length) ∧ Iv (i + 1) (lookAt (t :: ts) τ N (p :: r)).1 (lookAt (t :: ts) τ N (p :: r)).2 := by
      rintro i N Wl τ hτ ⟨h1, h2, h3⟩
      have hi := (List.getElem?_eq_some_iff.mp hτ).1
      have e : τs.drop i = τ :: τs.drop (i + 1) := by rw [List.drop_eq_getElem_cons hi, (List.getElem?_eq_some_iff.mp hτ).2]
      have hτl := hb τ (List.mem_of_getElem? hτ)
      rw [e] at h1 h2
      cases Wl with
      | nil => cases h1
      | cons p r =>
        have hp := h2 τ List.mem_cons_self p List.mem_cons_self
        have hk : ∀ c ∈ kids (at_ (t :: ts) τ) p ++ r, c < (at_ (t :: ts) τ).length := fun c hc => by
          rcases List.mem_append.mp hc with hc | hc
          · exact (hR.1.kid hτl hc).1
          · exact h2 τ List.mem_cons_self c (List.mem_cons_of_mem _ hc)
        have hll := hR.1.len_last hτl
        rw [List.length_cons] at h3
        refine ⟨p, r, rfl, hτl, by omega, hp, fun c hc => Nat.lt_of_lt_of_le (hk c hc) hll, h1, fun τ' hτ' c hc => ?_, ?_⟩
        · have hc2 := hk c (settle_mem hc)
          have hle : τ ≤ τ' := by
            have := hs.sublist (List.drop_sublist i τs)
            rw [e] at this
            exact (List.pairwise_cons.mp this).1 τ' hτ'
          exact Nat.lt_of_lt_of_le hc2 (hR.1.mono hle (hb τ' (List.mem_of_mem_drop hτ'))).1
        · have h4 := settle_len (pl := plL (t :: ts)) (W := kids (at_ (t :: ts) τ) p ++ r) (N := N)
          have h5 := kids_len (hR.1.wf _ (at_mem hτl)) p
          rw [List.length_append] at h4
          have e2 : lookAt (t :: ts) τ N (p :: r) = settle (plL (t :: ts)) N (kids (at_ (t :: ts) τ) p ++ r) := rfl
          rw [e2]
          omega
    have ive : ∀ N Wl, Iv τs.length N Wl → N = Vl ∧ Wl = [] := by
      rintro N Wl ⟨h1, _, _⟩
      rw [List.drop_length] at h1
      have h1 : some (N, Wl) = some (Vl, []) := h1
      cases h1
      exact ⟨rfl, rfl⟩
    have hw5 := hw.same s5
    rcases hw5 with h | h
    · refine .inl ⟨_, rfl, we, rfl, ⟨_, SqL.of h⟩, for_it walk_list (fun i σ Hi => Same H5 Hi ∧ ∃ (F W : Addr) (N Wl : List Nat) (x7 : Option V), σ = [some (.ref a), some (.ref b), some (.int pl), some (.ref we), some (.ref sh), some (.ref F), some (.ref W), x7] ∧ H F = none ∧ Hi F = some (.lst (natV N)) ∧ Hi W = some (.lst (natV Wl)) ∧ Iv i N Wl)
        ⟨Same.refl _, F0, W0, [], [pl], none, rfl, n0F, hF5, hW5, iv0⟩ (fun i σ Hi _ g => SqL.of (g.1 _ _ h)) (fun i x σ Hj Hi hi hI hy => ?_) (fun σ Hi hI => ?_)⟩
      · obtain ⟨sm, F, W, N, Wl, x7, rfl, nF, hF, hW, iv⟩ := hI
        obtain ⟨rfl, hx⟩ := hy
        obtain ⟨τ, hτ, rfl⟩ := natV_get hx
        obtain ⟨p, r, rfl, c1, c2, c3, c4, c5⟩ := ivs i N Wl τ hτ iv
        refine ⟨_, rfl, (by show 0 ≤ sizeLine; decide), fun z nz => ⟨W, z, _, rfl, rfl, SqL.of (upd_at hW (ne_of_none hW nz)), SqL.of upd_same, _, rfl, iteF ?_⟩⟩
        have sz := same_new (o := .lst []) nz
        have hF7 := upd_at (o := .lst []) hF (ne_of_none hF nz)
        have hW7 := upd_at (o := .lst []) hW (ne_of_none hW nz)
        generalize upd Hi z (.lst []) = H7 at sz hF7 hW7
        have s57 := sm.trans sz
        refine ⟨_, rfl, _, rfl, _, rfl, _, rfl, sh, F, W, t :: ts, τ, p, N, r, rfl, hsh5.same s57, c1, hR.1.wf _ (at_mem c1), hF7, hW7, c2, c3, c4, fun u F2 W2 H8 s8 nF2 _ hu hF2 hW2 => ?_⟩
        refine ⟨u, _, rfl, SqT.of hu, rfl, _, _, rfl, _, _, rfl, rfl, ?_⟩
        exact ⟨s57.trans s8, F2, W2, _, _, _, rfl, (s5.trans s57).free nF2, hF2, hW2, c5⟩
      · obtain ⟨sm, F, W, N, Wl, x7, rfl, nF, hF, hW, iv⟩ := hI
        rw [natV_len] at iv
        obtain ⟨rfl, rfl⟩ := ive N Wl iv
        refine ⟨_, rfl, (by show 0 ≤ sizeLine; decide), fun z nz => ⟨W, z, _, rfl, rfl, SqL.of (upd_at hW (ne_of_none hW nz)), SqL.of upd_same, _, rfl, iteF ?_⟩⟩
        have sz := same_new (o := .lst []) nz
        exact ⟨_, rfl, q F _ ((s5.trans sm).trans sz) nF (upd_at hF (ne_of_none hF nz))⟩
    · refine .inr ⟨_, rfl, we, rfl, ⟨_, SqT.of h⟩, for_it walk_tup (fun i σ Hi => Same H5 Hi ∧ ∃ (F W : Addr) (N Wl : List Nat) (x7 : Option V), σ = [some (.ref a), some (.ref b), some (.int pl), some (.ref we), some (.ref sh), some (.ref F), some (.ref W), x7] ∧ H F = none ∧ Hi F = some (.lst (natV N)) ∧ Hi W = some (.lst (natV Wl)) ∧ Iv i N Wl)
        ⟨Same.refl _, F0, W0, [], [pl], none, rfl, n0F, hF5, hW5, iv0⟩ (fun i σ Hi _ g => SqT.of (g.1 _ _ h)) (fun i x σ Hj Hi hi hI hy => ?_) (fun σ Hi hI => ?_)⟩
      · obtain ⟨sm, F, W, N, Wl, x7, rfl, nF, hF, hW, iv⟩ := hI
        obtain ⟨rfl, hx⟩ := hy
        obtain ⟨τ, hτ, rfl⟩ := natV_get hx
        obtain ⟨p, r, rfl, c1, c2, c3, c4, c5⟩ := ivs i N Wl τ hτ iv
        refine ⟨_, rfl, (by show 0 ≤ sizeLine; decide), fun z nz => ⟨W, z, _, rfl, rfl, SqL.of (upd_at hW (ne_of_none hW nz)), SqL.of upd_same, _, rfl, iteF ?_⟩⟩
        have sz := same_new (o := .lst []) nz
        have hF7 := upd_at (o := .lst []) hF (ne_of_none hF nz)
        have hW7 := upd_at (o := .lst []) hW (ne_of_none hW nz)
        generalize upd Hi z (.lst []) = H7 at sz hF7 hW7
        have s57 := sm.trans sz
        refine ⟨_, rfl, _, rfl, _, rfl, _, rfl, sh, F, W, t :: ts, τ, p, N, r, rfl, hsh5.same s57, c1, hR.1.wf _ (at_mem c1), hF7, hW7, c2, c3, c4, fun u F2 W2 H8 s8 nF2 _ hu hF2 hW2 => ?_⟩
        refine ⟨u, _, rfl, SqT.of hu, rfl, _, _, rfl, _, _, rfl, rfl, ?_⟩
        exact ⟨s57.trans s8, F2, W2, _, _, _, rfl, (s5.trans s57).free nF2, hF2, hW2, c5⟩
      · obtain ⟨sm, F, W, N, Wl, x7, rfl, nF, hF, hW, iv⟩ := hI
        rw [natV_len] at iv
        obtain ⟨rfl, rfl⟩ := ive N Wl iv
        refine ⟨_, rfl, (by show 0 ≤ sizeLine; decide), fun z nz => ⟨W, z, _, rfl, rfl, SqL.of (upd_at hW (ne_of_none hW nz)), SqL.of upd_same, _, rfl, iteF ?_⟩⟩
        have sz := same_new (o := .lst []) nz
        exact ⟨_, rfl, q F _ ((s5.trans sm).trans sz) nF (upd_at hF (ne_of_none hF nz))⟩
end
end NW
set_option Elab.async false
set_option linter.all false
set_option maxRecDepth 100000
set_option maxHeartbeats 1000000
/-! W24: Climb, climb, whole_climb. -/
namespace NW
open PySem PySem.Spec PyProof.Rows L2
theorem Way.isF {t : Tr} (w : WF t) {x : Nat} {l : List Nat} (h : Way t x l) : isF t x = true := by
  cases h with
  | root => exact w.root
  | step _ _ hx => exact hx
theorem Way.nil {t : Tr} (w : WF t) {x : Nat} (h : Way t x []) : x = 0 := by
  generalize e : ([] : List Nat) = l at h
  cases h with
  | root => rfl
  | step h1 _ _ => simp at e
theorem Way.snoc {t : Tr} {x k : Nat} {l : List Nat} (h : Way t x (l ++ [k])) : ∃ f, Way t f l ∧ (k, x) ∈ ents t f ∧ NW.isF t x = true := by
  generalize e : l ++ [k] = l2 at h
  cases h with
  | root => simp at e
  | @step f k2 _ l3 h1 h2 h3 =>
    obtain ⟨e1, e2⟩ := List.append_inj' e rfl
    cases e2
    subst e1
    exact ⟨f, h1, h2, h3⟩
theorem Way.ne {t : Tr} (w : WF t) {x : Nat} {l : List Nat} (h : Way t x l) (hl : l ≠ []) : x ≠ 0 := by
  cases h with
  | root => exact absurd rfl hl
  | step _ h2 _ => have := (w.ent _ _ _ h2).2.1; omega
theorem Way.k4 {t : Tr} (w : WF t) {x : Nat} {l : List Nat} (h : Way t x l) : ∀ k ∈ l, k < 4 := by
  induction h with
  | root => simp
  | step _ h2 _ ih =>
    intro k hk
    rcases List.mem_append.mp hk with hk | hk
    · exact ih k hk
    · simp at hk; subst hk; exact (w.ent _ _ _ h2).1
theorem Way.dep {t : Tr} {x : Nat} {l : List Nat} (h : Way t x l) : Dep t x l.length := by
  induction h with
  | root => exact .root
  | step _ h2 h3 ih => rw [List.length_append]; exact .step ih h2 h3
section
variable {P : Program} {w : World} {K : Frag} {mg : Str → Option Value} {base : Heap}
def PClimb (K : Frag) (H : Hp) (x : Addr) (pl : Nat) (l : List Nat) (g : Bool) : Prop := ∃ dx nt, H x = some (.ins (He.ga K "Climb") dx (fClimb (.int pl, .ref nt, .bl g))) ∧ H nt = some (.tup (nmV l))
theorem PClimb.same {H H' : Hp} {x : Addr} {pl : Nat} {l : List Nat} {g : Bool} (s : Same H H') (h : PClimb K H x pl l g) : PClimb K H' x pl l g := let ⟨dx, nt, h1, h2⟩ := h; ⟨dx, nt, s _ _ h1, s _ _ h2⟩
def spIsOver (K : Frag) : Sp := fun vs H Q _ => ∃ (x : Addr) (pl : Nat) (l : List Nat) (g : Bool), vs = [.ref x] ∧ PClimb K H x pl l g ∧ Q (.bl (g || decide (pl = 0))) H
theorem sc_is_over : FnScope ["self"] ["self"] (defScope s_Climb_is_over) := ⟨rfl, rfl, rfl, by decide +kernel, rfl, by decide +kernel, by decide +kernel⟩
theorem ok_is_over (T : Txt K mg) : Met P w K mg base 1 (He.ga K "Climb") "is_over" (spIsOver K) [] := by
  refine met T.f_Climb_is_over T.c_Climb T.e_Climb_is_over sc_is_over (fun _ _ _ _ _ _ us hl => match us, hl with | [_], _ => rfl) (fun vs H Q E h => ?_) (fun cdv A outer s H vs Q E hr h => ?_)
  · obtain ⟨x, pl, l, g, rfl, _⟩ := h
    rfl
  · obtain ⟨x, pl, l, g, rfl, ⟨dx, nt, e1, e2⟩, q⟩ := h
    refine ⟨_, pss_one (ps_ret (pe_or (pe_fld (pv 0) rfl) (pe_one (pe_cmpR op_eq (pe_fld (pv 0) rfl) pe_int (nomark _))))), ?_⟩
    refine ⟨_, rfl, x, _, dx, _, _, rfl, e1, T.c_Climb, T.a_Climb_is_gone, rfl, g, rfl, ?_⟩
    cases g with
    | true => exact iteT q
    | false =>
      refine iteF ⟨_, rfl, x, _, dx, _, _, rfl, e1, T.c_Climb, T.a_Climb_place, rfl, rfl, ?_⟩
      rw [Bool.false_or] at q
      by_cases c : pl = 0
      · subst c
        exact q
      · rw [decide_eq_false c] at q
        rw [decide_eq_false (fun z => c (by have := V.int.inj z; omega))]
        exact q
def spHigher (K : Frag) : Sp := fun vs H Q _ => ∃ (x a : Addr) (t : Tr) (pl : Nat) (l : List Nat), vs = [.ref x, .ref a] ∧ PClimb K H x pl l false ∧ PTree K H a t ∧ WF t ∧ t.length ≤ 1000 ∧ l.length ≤ 1000 ∧
  ((isG t pl = true ∧ ∀ r H', Same H H' → PClimb K H' r pl l true → Q (.ref r) H') ∨ (∃ f k, isF t pl = true ∧ (k, pl) ∈ ents t f ∧ ∀ r H', Same H H' → PClimb K H' r f (k :: l) false → Q (.ref r) H'))
theorem sc_higher : FnScope ["self", "shape", "folder", "name"] ["self", "shape"] (defScope s_Climb_higher) := ⟨rfl, rfl, rfl, by decide +kernel, rfl, by decide +kernel, by decide +kernel⟩
theorem ok_higher (T : Txt K mg) : Met P w K mg base 4 (He.ga K "Climb") "higher" (spHigher K) [] := by
  refine met T.f_Climb_higher T.c_Climb T.e_Climb_higher sc_higher (fun _ _ _ _ _ _ us hl => match us, hl with | [_, _], _ => rfl) (fun vs H Q E h => ?_) (fun cdv A outer s H vs Q E hr h => ?_)
  · obtain ⟨x, a, t, pl, l, rfl, _⟩ := h
    rfl
  · obtain ⟨x, a, t, pl, l, rfl, hC, hT, wf, hlen, hl, hq⟩ := h
    have nd := sc_higher.nd
    refine ⟨_, pss_cons (ps_if (pt_val (pe_callB call_isi (by rfl) T.n_isinstance (by decide +kernel) (pa_cons (pe_ix ix_tup (pe_fld (pv 1) rfl) (pe_fld (pv 0) rfl) (fun _ _ => rfl)) (pa_cons (pcls T.g_Gone) pa_nil))))
        (pss_one (ps_ret (C8.pe_mk (mk_Climb T) hr (by decide) rfl (pa_cons (pe_fld (pv 0) rfl) (pa_cons (pe_fld (pv 0) rfl) (pa_cons pe_bl pa_nil)))))) pss_nil)
      (pss_cons (ps_asg (pe_ix ix_list (C8.pe_c (ok_entries_of T) hr (by decide) rfl (pa_cons (pv 1) (pa_cons (pe_fld (pv 0) rfl) pa_nil))) pe_int (fun _ _ => rfl)) (pg_tup rfl (pgs_cons (pg_name (i := 2) nd rfl (Or.inl rfl)) (pgs_cons (pg_name (i := 3) nd rfl (Or.inl rfl)) pgs_nil))))
      (pss_one (ps_ret (C8.pe_mk (mk_Climb T) hr (by decide) rfl (pa_cons (pv 2) (pa_cons (pe_op op_catA (pe_tup (pa_cons (pv 3) pa_nil)) (pe_fld (pv 0) rfl)) (pa_cons pe_bl pa_nil))))))), ?_⟩
    obtain ⟨dc, nt, e1, e2⟩ := id hC
    obtain ⟨dx, tp, ps, h1, h2, h3⟩ := id hT
    have hlt : pl < t.length := by
      rcases hq with ⟨hG, _⟩ | ⟨f, k, hF, _⟩
      · exact isP_lt (by unfold isP; rw [hG, Bool.or_true])
      · exact isF_lt hF
    obtain ⟨p, hp1, hp2⟩ := node_at h3 (List.getElem?_eq_getElem hlt)
    have hg := isG_at (List.getElem?_eq_getElem hlt)
    refine ⟨_, rfl, a, _, dx, _, _, rfl, h1, T.c_Tree, T.a_Tree_nodes, rfl, _, rfl, x, _, dc, _, _, rfl, e1, T.c_Climb, T.a_Climb_place, rfl, tp, _, _, _, rfl, rfl, SqT.of h2, hp1, _, _, _, _, _, rfl, .own _, hp2.ty T, kit_Gone T _, _, rfl, ?_⟩
    rw [← hg]
    rcases hq with ⟨hG, q⟩ | ⟨f, k, hF, hm, q⟩
    · rw [hG]
      refine iteT ⟨_, rfl, x, _, dc, _, _, rfl, e1, T.c_Climb, T.a_Climb_place, rfl, _, rfl, x, _, dc, _, _, rfl, e1, T.c_Climb, T.a_Climb_names, rfl, ?_⟩
      intro y dy ny ndy ney
      exact ⟨(.int pl, .ref nt, .bl true), H, y, dy, rfl, rfl, ny, ndy, ney, True.intro, fun H5 s5 hS => ⟨rfl, q _ _ s5 (let ⟨dd, e⟩ := hS; ⟨dd, nt, e, s5 _ _ e2⟩)⟩⟩
    · rw [isG_of_isF hF]
      refine iteF ⟨_, rfl, _, rfl, x, _, dc, _, _, rfl, e1, T.c_Climb, T.a_Climb_place, rfl, a, t, pl, rfl, hT, wf, hlt, hlen, fun r H' us s' hr' hP => ?_⟩
      obtain ⟨rr, er⟩ := entsOf_one wf hF hm
      rw [er] at hP
      cases hP with
      | @cons u _ us _ hu hP =>
        refine ⟨r, _, _, _, rfl, rfl, SqL.of hr', atI_nat (j := 0) rfl, u, _, rfl, SqT.of hu, rfl, _, _, rfl, _, _, rfl, rfl, ?_⟩
        have g1 := s' _ _ e1
        have g2 := s' _ _ e2
        refine ⟨_, rfl, _, rfl, (by show 1 ≤ sizeLine; decide), fun b nb => ?_⟩
        have s2 := snew (o := .tup [.str (nm k)]) s' nb
        have hb : upd H' b (.tup [.str (nm k)]) b = some (.tup [.str (nm k)]) := upd_same
        have g12 := upd_at (o := .tup [.str (nm k)]) g1 (ne_of_none g1 nb)
        have g22 := upd_at (o := .tup [.str (nm k)]) g2 (ne_of_none g2 nb)
        generalize upd H' b (.tup [.str (nm k)]) = H2 at s2 hb g12 g22
        have fin : ∀ (c : Addr) (H3 : Hp), Same H2 H3 → H3 c = some (.tup (nmV (k :: l))) → tMake (He.ga K "Climb") (spMkA (He.ga K "Climb") (fun a : V × V × V => [a.1, a.2.1, a.2.2]) (fun _ _ => True) (fun a => InsF (He.ga K "Climb") (fClimb a))) [] C8.E0 (fun _ H' Q' => Q' [.int f, .ref c, .bl false] H') [] H3 Q := fun c H3 s3 hc => by
          intro y dy ny ndy ney
          exact ⟨(.int f, .ref c, .bl false), H3, y, dy, rfl, rfl, ny, ndy, ney, True.intro, fun H5 s5 hS => ⟨rfl, q _ _ ((s2.trans s3).trans s5) (let ⟨dd, e⟩ := hS; ⟨dd, c, e, s5 _ _ hc⟩)⟩⟩
        refine ⟨_, rfl, x, _, dc, _, _, rfl, g12, T.c_Climb, T.a_Climb_names, rfl, b, nt, _, _, rfl, rfl, SqT.of hb, SqT.of g22, ?_, fun h0 => absurd h0 (by simp), fun _ h0 => ?_, fun _ _ c nc => ?_⟩
        · show 1 + (nmV l).length ≤ sizeLine
          rw [List.length_map]
          exact Nat.le_trans (by omega : _ ≤ 1001) (by decide)
        · have : l = [] := by simpa using h0
          subst this
          exact fin b H2 (Same.refl _) hb
        · exact fin c _ (same_new nc) upd_same
/-! outcome -/
def OutV (K : Frag) (H : Hp) (v : V) (l : List Nat) (g : Bool) : Prop := if g = true then ∃ r, v = .ref r ∧ InsF (He.ga K "Refused") (fRefused (.str "gone")) H r else v = .str (up l)
def spOutcome (K : Frag) : Sp := fun vs H Q _ => ∃ (x : Addr) (pl : Nat) (l : List Nat) (g : Bool), vs = [.ref x] ∧ PClimb K H x pl l g ∧ l.length ≤ 1000 ∧ ∀ v H', Same H H' → OutV K H' v l g → Q v H'
theorem sc_outcome : FnScope ["self"] ["self"] (defScope s_Climb_outcome) := ⟨rfl, rfl, rfl, by decide +kernel, rfl, by decide +kernel, by decide +kernel⟩
theorem ok_outcome (T : Txt K mg) : Met P w K mg base 3 (He.ga K "Climb") "outcome" (spOutcome K) [] := by
  refine met T.f_Climb_outcome T.c_Climb T.e_Climb_outcome sc_outcome (fun _ _ _ _ _ _ us hl => match us, hl with | [_], _ => rfl) (fun vs H Q E h => ?_) (fun cdv A outer s H vs Q E hr h => ?_)
  · obtain ⟨x, pl, l, g, rfl, _⟩ := h
    rfl
  · obtain ⟨x, pl, l, g, rfl, ⟨dx, nt, e1, e2⟩, hl, q⟩ := h
    refine ⟨_, pss_one (ps_ret (pe_ifExp (pt_val (pe_fld (pv 0) rfl)) (C8.pe_mk (mk_Refused T) hr (by decide) rfl (pa_cons pe_str pa_nil)) (pe_op op_add_str pe_str (pe_join pe_str (pe_fld (pv 0) rfl))))), ?_⟩
    refine ⟨_, rfl, x, _, dx, _, _, rfl, e1, T.c_Climb, T.a_Climb_is_gone, rfl, g, rfl, ?_⟩
    cases g with
    | true =>
      refine iteT ?_
      intro y dy ny ndy ney
      exact ⟨.str "gone", H, y, dy, rfl, rfl, ny, ndy, ney, True.intro, fun H5 s5 hS => ⟨rfl, q _ _ s5 ⟨y, rfl, hS⟩⟩⟩
    | false =>
      have hs := sum_le3 l
      have l1 : ((Str.ofString "/")).length = 1 := rfl
      have lj : (Txt.join "/" (l.map nm)).length ≤ 8008 := by
        have h1 := ptx_len (none :: orN l)
        have e : (ptx (none :: orN l)).length = 1 + (Txt.join "/" (l.map nm)).length := by
          have := congrArg Str.length (up_join l)
          unfold up at this
          rw [this, str_len]
          rfl
        rw [e] at h1
        have h3 := orN_len l
        simp only [List.length_cons] at h1
        omega
      refine iteF ⟨⟨_, rfl⟩, _, rfl, x, _, dx, _, _, rfl, e1, T.c_Climb, T.a_Climb_names, rfl, _, nt, l.map nm, rfl, rfl, .inr ?_, ?_, _, _, rfl, rfl, ?_, ?_⟩
      · rw [List.map_map]
        exact SqT.of e2
      · rw [List.length_map, l1]
        omega
      · rw [l1]
        exact Nat.le_trans (by omega : _ ≤ 8009) (by decide)
      · refine q _ H (Same.refl _) ?_
        show V.str _ = V.str (up l)
        rw [up_join]
/-! whole_climb -/
def spWhole (K : Frag) : Sp := fun vs H Q _ => ∃ (a : Addr) (t : Tr) (pl : Nat) (l : List Nat), vs = [.ref a, .int pl] ∧ PTree K H a t ∧ WF t ∧ t.length ≤ 1000 ∧ Way t pl l ∧ ∀ H', Same H H' → Q (.str (up l)) H'
theorem sc_whole_climb : FnScope ["shape", "place", "here"] ["shape", "place"] (defScope s_whole_climb) := ⟨rfl, rfl, rfl, by decide +kernel, rfl, by decide +kernel, by decide +kernel⟩
theorem ok_whole_climb (T : Txt K mg) : Cal P w K mg base 5 "whole_climb" (spWhole K) [] := by
  refine cal T.f_whole_climb T.g_whole_climb sc_whole_climb (fun _ _ _ _ _ _ us hl => match us, hl with | [_, _], _ => rfl) (fun vs H Q E h => ?_) (fun cdv A outer s H vs Q E hr h => ?_)
  · obtain ⟨a, t, pl, l, rfl, _⟩ := h
    rfl
  · obtain ⟨a, t, pl, l, rfl, hT, wf, hlen, hw, q⟩ := h
    have nd := sc_whole_climb.nd
    refine ⟨_, pss_cons (ps_set (i := 2) nd rfl (Or.inl rfl) (C8.pe_mk (mk_Climb T) hr (by decide) rfl (pa_cons (pv 1) (pa_cons (pe_tup pa_nil) (pa_cons pe_bl pa_nil)))))
      (pss_cons (ps_while PassesOwn.never (pt_not (pt_val (C8.pe_mt0 (ok_is_over T) hr (by decide) (pv 2)))) (pss_one (ps_set (i := 2) nd rfl (Or.inl rfl) (C8.pe_mt (ok_higher T) hr (by decide) (pv 2) (pa_cons (pv 0) pa_nil)))))
      (pss_one (ps_ret (C8.pe_mt0 (ok_outcome T) hr (by decide) (pv 2))))), ?_⟩
    refine ⟨_, rfl, (by show 0 ≤ sizeLine; decide), fun b nb y dy ny ndy ney => ?_⟩
    have s1 := same_new (o := .tup []) nb
    have hll : l.length ≤ 1000 := by have := hw.dep.lt wf; omega
    refine ⟨(.int pl, .ref b, .bl false), _, y, dy, rfl, rfl, ny, ndy, ney, True.intro, fun H5 s5 hS => ⟨rfl, ?_⟩⟩
    let W : Nat → L2.St → Hp → Prop := fun μ σ Hc => ∃ (x : Addr) (z : Nat) (l1 l2 : List Nat), σ = [some (.ref a), some (.int (pl : Nat)), some (.ref x)] ∧ Same H Hc ∧ PClimb K Hc x z l2 false ∧ Way t z l1 ∧ l = l1 ++ l2 ∧ μ = l1.length
    refine ⟨W, ⟨_, y, pl, l, [], rfl, s1.trans s5, (let ⟨dd, e⟩ := hS; ⟨dd, b, e, s5 _ _ upd_same⟩), hw, by simp, rfl⟩, ?_⟩
    rintro μ σ Hc ⟨x, z, l1, l2, rfl, sc, hC, hz, hl12, rfl⟩
    have l2l : l2.length ≤ 1000 := by rw [hl12, List.length_append] at hll; omega
    obtain ⟨dc, nt, c1, c2⟩ := id hC
    refine ⟨_, rfl, x, dc, _, rfl, c1, rfl, x, z, l2, false, rfl, hC, _, rfl, ?_⟩
    by_cases h0 : l1 = []
    · subst h0
      have z0 := hz.nil wf
      subst z0
      refine iteF ⟨_, rfl, x, dc, _, rfl, c1, rfl, x, 0, l2, false, rfl, hC, l2l, fun v H' s' ho => ?_⟩
      have : v = .str (up l2) := ho
      subst this
      rw [List.nil_append] at hl12
      rw [← hl12]
      exact q _ (sc.trans s')
    · rw [decide_eq_false (hz.ne wf h0)]
      obtain ⟨l0, k, rfl⟩ : ∃ l0 k, l1 = l0 ++ [k] := ⟨l1.dropLast, l1.getLast h0, (List.dropLast_concat_getLast h0).symm⟩
      obtain ⟨f, hf, hm, hF⟩ := hz.snoc
      refine iteT ⟨fun σ' H' => ∃ m', m' < (l0 ++ [k]).length ∧ W m' σ' H', fun _ _ h => h, ?_⟩
      refine ⟨_, rfl, x, dc, _, rfl, c1, rfl, _, rfl, x, a, t, z, l2, rfl, hC, hT.gx (sgx sc), wf, hlen, l2l, .inr ⟨f, k, hF, hm, fun r H' s' hC' => ?_⟩⟩
      exact ⟨l0.length, by simp, r, f, l0, k :: l2, rfl, sc.trans s', hC', hf, by rw [hl12]; simp, rfl⟩
end
end NW
set_option Elab.async false
set_option linter.all false
set_option maxRecDepth 100000
set_option maxHeartbeats 1000000
/-! W25: climb. -/
namespace NW
open PySem PySem.Spec PyProof.Rows L2
section
variable {P : Program} {w : World} {K : Frag} {mg : Str → Option Value} {base : Heap}
/-- how often to look up from a place, what comes of it -/
inductive Ups (t : Tr) (pl : Nat) : Nat → List Nat → Bool → Prop where
  | way {l : List Nat} : Way t pl l → Ups t pl l.length l false
  | gone : isG t pl = true → Ups t pl 1 [] true
def spClimb (K : Frag) : Sp := fun vs H Q _ => ∃ (a b we : Addr) (t : Tr) (ts : List Tr) (ds : List Dd) (pl τ n : Nat) (l : List Nat) (g : Bool), vs = [.ref a, .ref b, .int pl, .ref we] ∧ RowOk (t :: ts) ds ∧ PTree K H a t ∧ PDeeds K H b ds ∧ isP t pl = true ∧ LT H we (natV (List.replicate n τ)) ∧ τ < (t :: ts).length ∧
  Ups (at_ (t :: ts) τ) pl n l g ∧ ∀ v H', Same H H' → OutV K H' v l g → Q v H'
theorem sc_climb : FnScope ["tree", "deeds", "place", "weaving", "shapes", "here", "time"] ["tree", "deeds", "place", "weaving"] (defScope s_climb) := ⟨rfl, rfl, rfl, by decide +kernel, rfl, by decide +kernel, by decide +kernel⟩
theorem ok_climb (T : Txt K mg) : Cal P w K mg base 10 "climb" (spClimb K) [] := by
  refine cal T.f_climb T.g_climb sc_climb (fun _ _ _ _ _ _ us hl => match us, hl with | [_, _, _, _], _ => rfl) (fun vs H Q E h => ?_) (fun cdv A outer s H vs Q E hr h => ?_)
  · obtain ⟨a, b, we, t, ts, ds, pl, τ, n, l, g, rfl, _⟩ := h
    rfl
  · obtain ⟨a, b, we, t, ts, ds, pl, τ, n, l, g, rfl, hR, hT, hD, hpl, hw, hτ, hup, q⟩ := h
    have nd := sc_climb.nd
    refine ⟨_, pss_cons (ps_set (i := 4) nd rfl (Or.inl rfl) (C8.pe_c (ok_trees T) hr (by decide) rfl (pa_cons (pv 0) (pa_cons (pv 1) pa_nil))))
      (pss_cons (ps_expr (C8.pe_c (ok_check_place T) hr (by decide) rfl (pa_cons (pv 0) (pa_cons (pv 2) pa_nil))))
      (pss_cons (ps_expr (C8.pe_c (ok_check_numbers T) hr (by decide) rfl (pa_cons (pv 3) (pa_cons pe_int (pa_cons (pe_op op_sub (pe_callB call_len_seq (by rfl) T.n_len PySem.boot_len (pa_cons (pv 4) pa_nil)) pe_int) pa_nil)))))
      (pss_cons (ps_set (i := 5) nd rfl (Or.inl rfl) (C8.pe_mk (mk_Climb T) hr (by decide) rfl (pa_cons (pv 2) (pa_cons (pe_tup pa_nil) (pa_cons pe_bl pa_nil)))))
      (pss_cons (ps_for PassesOwn.never rfl (pi_or (pi_list (pv 3)) (pi_tup (pv 3))) (pg_name (i := 6) nd rfl (Or.inl rfl))
        (pss_cons (ps_if (pt_val (C8.pe_mt0 (ok_is_over T) hr (by decide) (pv 5))) pss_never pss_nil)
          (pss_one (ps_set (i := 5) nd rfl (Or.inl rfl) (C8.pe_mt (ok_higher T) hr (by decide) (pv 5) (pa_cons (pe_ix ix_list (pv 4) (pv 6) (fun _ _ => rfl)) pa_nil))))))
      (pss_cons (ps_if (pt_not (pt_val (C8.pe_mt0 (ok_is_over T) hr (by decide) (pv 5)))) pss_never pss_nil)
      (pss_one (ps_ret (C8.pe_mt0 (ok_outcome T) hr (by decide) (pv 5))))))))), ?_⟩
    have wfτ := hR.1.wf _ (at_mem hτ)
    have lenτ := hR.2.1 _ (at_mem hτ)
    refine ⟨_, rfl, _, rfl, a, b, t, ts, ds, rfl, hR, hT, hD, fun sh H1 s1 nsh hsh => ?_⟩
    have hsh : PRow K H1 sh (t :: ts) := hsh
    refine ⟨_, rfl, _, rfl, a, t, pl, rfl, hT.gx (sgx s1), hpl, fun H2 s2 => ?_⟩
    have s12 := s1.trans s2
    have hsh2 := hsh.same s2
    obtain ⟨rs, r1, r2⟩ := id hsh2
    have hl0 : (rs.map V.ref).length = (t :: ts).length := by rw [List.length_map, Plen r2]
    refine ⟨_, rfl, _, rfl, sh, _, rfl, .inl (SqL.of r1), _, _, rfl, rfl, ?_⟩
    have e1 : ((rs.map V.ref).length : Int) - 1 = ((ts.length : Nat) : Int) := by rw [hl0, List.length_cons]; omega
    refine ⟨we, 0, ts.length, List.replicate n τ, (by show [V.ref we, V.int 0, V.int (((rs.map V.ref).length : Int) - 1)] = _; rw [e1]; rfl), hw.same s12, List.pairwise_replicate.mpr (.inr (Nat.le_refl _)), fun x hx => ⟨Nat.zero_le _, by rw [List.eq_of_mem_replicate hx]; rw [List.length_cons] at hτ; omega⟩, fun H3 s3 => ?_⟩
    have s13 := s12.trans s3
    have hsh3 := hsh2.same s3
    refine ⟨_, rfl, (by show 0 ≤ sizeLine; decide), fun bb nb y dy ny ndy ney => ?_⟩
    have s4 := snew (o := .tup []) s13 nb
    refine ⟨(.int pl, .ref bb, .bl false), _, y, dy, rfl, rfl, ny, ndy, ney, True.intro, fun H5 s5 hS => ⟨rfl, ?_⟩⟩
    have hsh5 := hsh3.same ((same_new (o := .tup []) nb).trans s5)
    have s05 := s4.trans s5
    have hC0 : PClimb K H5 y pl [] false := let ⟨dd, e⟩ := hS; ⟨dd, bb, e, s5 _ _ upd_same⟩
    -- what the loop keeps
    let Iv : Nat → Nat → List Nat → Bool → Prop := fun i z l2 g2 => (g = false ∧ g2 = false ∧ ∃ l1, Way (at_ (t :: ts) τ) z l1 ∧ l = l1 ++ l2 ∧ n = l.length ∧ i = l2.length) ∨ (g = true ∧ z = pl ∧ l = [] ∧ l2 = [] ∧ isG (at_ (t :: ts) τ) pl = true ∧ n = 1 ∧ g2 = decide (i = 1) ∧ i ≤ 1)
    have iv0 : Iv 0 pl [] false := by
      cases hup with
      | way hwy => exact .inl ⟨rfl, rfl, l, hwy, by simp, rfl, rfl⟩
      | gone hg => exact .inr ⟨rfl, rfl, rfl, rfl, hg, rfl, rfl, by omega⟩
    have hll : l.length ≤ 1000 := by
      cases hup with
      | way hwy => have := hwy.dep.lt wfτ; omega
      | gone hg => simp
    have ivl : ∀ {i z l2 g2}, Iv i z l2 g2 → l2.length ≤ 1000 := fun {i z l2 g2} h => by
      rcases h with ⟨_, _, l1, _, e, _⟩ | ⟨_, _, _, e, _⟩
      · rw [e, List.length_append] at hll; omega
      · rw [e]; simp
    have gne : isG (at_ (t :: ts) τ) pl = true → pl ≠ 0 := fun hg z => by
      rw [z, isG_of_isF wfτ.root] at hg
      cases hg
    have body : ∀ (i z : Nat) (l2 : List Nat) (g2 : Bool) (x : Addr) (Hi : Hp) (R : V → Hp → Prop), i < n → Iv i z l2 g2 → PClimb K Hi x z l2 g2 → Same H5 Hi → (∀ (x' : Addr) (H' : Hp) (z' : Nat) (l' : List Nat) (g' : Bool), Same Hi H' → PClimb K H' x' z' l' g' → Iv (i + 1) z' l' g' → R (.ref x') H') →
        g2 = false ∧ z ≠ 0 ∧ ∀ r : Addr, PTree K Hi r (at_ (t :: ts) τ) → spHigher K [.ref x, .ref r] Hi R C8.E0 := by
      intro i z l2 g2 x Hi R hi iv hC sH hR2
      have hl2 := ivl iv
      rcases iv with ⟨e0, rfl, l1, hz, el, en, ei⟩ | ⟨e0, rfl, el, rfl, hg, en, eg, ei⟩
      · have hne : l1 ≠ [] := fun h0 => by rw [el, h0, List.nil_append] at en; omega
        refine ⟨rfl, hz.ne wfτ hne, fun r hr => ?_⟩
        obtain ⟨l0, k, rfl⟩ : ∃ l0 k, l1 = l0 ++ [k] := ⟨l1.dropLast, l1.getLast hne, (List.dropLast_concat_getLast hne).symm⟩
        obtain ⟨f, hf, hm, hF⟩ := hz.snoc
        exact ⟨x, r, _, z, l2, rfl, hC, hr, wfτ, lenτ, hl2, .inr ⟨f, k, hF, hm, fun r' H' s' hC' => hR2 r' H' f (k :: l2) false s' hC' (.inl ⟨e0, rfl, l0, hf, by rw [el]; simp, en, by simp [ei]⟩)⟩⟩
      · have i0 : i = 0 := by omega
        subst i0
        have eg : g2 = false := eg
        subst eg
        refine ⟨rfl, gne hg, fun r hr => ?_⟩
        exact ⟨x, r, _, z, [], rfl, hC, hr, wfτ, lenτ, by simp, .inl ⟨hg, fun r' H' s' hC' => hR2 r' H' z [] true s' hC' (.inr ⟨e0, rfl, el, rfl, hg, en, rfl, by omega⟩)⟩⟩
    have done : ∀ (z : Nat) (l2 : List Nat) (g2 : Bool), Iv n z l2 g2 → (g2 || decide (z = 0)) = true ∧ l2 = l ∧ g2 = g := by
      rintro z l2 g2 (⟨e0, rfl, l1, hz, el, en, ei⟩ | ⟨e0, rfl, el, rfl, hg, en, eg, ei⟩)
      · have h1 : l1 = [] := by
          rw [el, List.length_append] at en
          exact List.length_eq_zero_iff.mp (by omega)
        subst h1
        refine ⟨?_, by rw [el]; simp, e0.symm⟩
        rw [hz.nil wfτ]
        rfl
      · rw [en] at eg
        have eg : g2 = true := eg
        exact ⟨by rw [eg]; rfl, el.symm, by rw [eg, e0]⟩
    have hw5 := hw.same s05
    rcases hw5 with h | h
    · refine .inl ⟨_, rfl, we, rfl, ⟨_, SqL.of h⟩, for_it walk_list (fun i σ Hi => Same H5 Hi ∧ ∃ (x : Addr) (z : Nat) (l2 : List Nat) (g2 : Bool) (x6 : Option V), σ = [some (.ref a), some (.ref b), some (.int pl), some (.ref we), some (.ref sh), some (.ref x), x6] ∧ PClimb K Hi x z l2 g2 ∧ Iv i z l2 g2)
        ⟨Same.refl _, y, pl, [], false, none, rfl, hC0, iv0⟩ (fun i σ Hi _ g => SqL.of (g.1 _ _ h)) (fun i x σ Hj Hi hi hI hy => ?_) (fun σ Hi hI => ?_)⟩
      · obtain ⟨sm, x5, z, l2, g2, x6, rfl, hC, iv⟩ := hI
        obtain ⟨rfl, hx⟩ := hy
        obtain ⟨τ', hτ', rfl⟩ := natV_get hx
        rw [natV_len, List.length_replicate] at hi
        have eτ : τ' = τ := List.eq_of_mem_replicate (List.mem_of_getElem? hτ')
        subst eτ
        obtain ⟨rs5, r5, g1, g3, g4⟩ := (hsh5.same sm).at' hτ
        obtain ⟨dc, nt, c1, c2⟩ := id hC
        have bd := body i z l2 g2 x5 Hi (fun v H' => ∃ x' : Addr, v = .ref x' ∧ Same H5 H' ∧ ∃ (z' : Nat) (l' : List Nat) (g' : Bool), PClimb K H' x' z' l' g' ∧ Iv (i + 1) z' l' g') hi iv hC sm (fun x' H' z' l' g' s' hC' iv' => ⟨x', rfl, sm.trans s', z', l', g', hC', iv'⟩)
        obtain ⟨rfl, z0, bd⟩ := bd
        refine ⟨_, rfl, x5, dc, _, rfl, c1, rfl, x5, z, l2, false, rfl, hC, _, rfl, ?_⟩
        rw [decide_eq_false z0]
        refine iteF ⟨_, rfl, x5, dc, _, rfl, c1, rfl, _, rfl, _, rfl, sh, _, _, _, rfl, rfl, SqL.of g1, g3, ?_⟩
        have hh := bd r5 g4
        obtain ⟨xx, aa, tt, zz, ll, e1, e2, e3, e4, e5, e6, e7⟩ := hh
        refine ⟨xx, aa, tt, zz, ll, e1, e2, e3, e4, e5, e6, ?_⟩
        rcases e7 with ⟨f1, f2⟩ | ⟨f, k, f1, f2, f3⟩
        · refine .inl ⟨f1, fun r H' s' hC' => ?_⟩
          obtain ⟨x', e, m1, z', l', g', m2, m3⟩ := f2 r H' s' hC'
          exact ⟨m1, x', z', l', g', _, by rw [e]; rfl, m2, m3⟩
        · refine .inr ⟨f, k, f1, f2, fun r H' s' hC' => ?_⟩
          obtain ⟨x', e, m1, z', l', g', m2, m3⟩ := f3 r H' s' hC'
          exact ⟨m1, x', z', l', g', _, by rw [e]; rfl, m2, m3⟩
      · obtain ⟨sm, x5, z, l2, g2, x6, rfl, hC, iv⟩ := hI
        rw [natV_len, List.length_replicate] at iv
        obtain ⟨d1, rfl, rfl⟩ := done z l2 g2 iv
        obtain ⟨dc, nt, c1, c2⟩ := id hC
        refine ⟨_, rfl, x5, dc, _, rfl, c1, rfl, x5, z, l2, g2, rfl, hC, _, rfl, ?_⟩
        rw [d1]
        refine iteF ⟨_, rfl, x5, dc, _, rfl, c1, rfl, x5, z, l2, g2, rfl, hC, hll, fun v H' s' ho => q v H' ((s05.trans sm).trans s') ho⟩
    · refine .inr ⟨_, rfl, we, rfl, ⟨_, SqT.of h⟩, for_it walk_tup (fun i σ Hi => Same H5 Hi ∧ ∃ (x : Addr) (z : Nat) (l2 : List Nat) (g2 : Bool) (x6 : Option V), σ = [some (.ref a), some (.ref b), some (.int pl), some (.ref we), some (.ref sh), some (.ref x), x6] ∧ PClimb K Hi x z l2 g2 ∧ Iv i z l2 g2)
        ⟨Same.refl _, y, pl, [], false, none, rfl, hC0, iv0⟩ (fun i σ Hi _ g => SqT.of (g.1 _ _ h)) (fun i x σ Hj Hi hi hI hy => ?_) (fun σ Hi hI => ?_)⟩
      · obtain ⟨sm, x5, z, l2, g2, x6, rfl, hC, iv⟩ := hI
        obtain ⟨rfl, hx⟩ := hy
        obtain ⟨τ', hτ', rfl⟩ := natV_get hx
        rw [natV_len, List.length_replicate] at hi
        have eτ : τ' = τ := List.eq_of_mem_replicate (List.mem_of_getElem? hτ')
        subst eτ
        obtain ⟨rs5, r5, g1, g3, g4⟩ := (hsh5.same sm).at' hτ
        obtain ⟨dc, nt, c1, c2⟩ := id hC
        have bd := body i z l2 g2 x5 Hi (fun v H' => ∃ x' : Addr, v = .ref x' ∧ Same H5 H' ∧ ∃ (z' : Nat) (l' : List Nat) (g' : Bool), PClimb K H' x' z' l' g' ∧ Iv (i + 1) z' l' g') hi iv hC sm (fun x' H' z' l' g' s' hC' iv' => ⟨x', rfl, sm.trans s', z', l', g', hC', iv'⟩)
        obtain ⟨rfl, z0, bd⟩ := bd
        refine ⟨_, rfl, x5, dc, _, rfl, c1, rfl, x5, z, l2, false, rfl, hC, _, rfl, ?_⟩
        rw [decide_eq_false z0]
        refine iteF ⟨_, rfl, x5, dc, _, rfl, c1, rfl, _, rfl, _, rfl, sh, _, _, _, rfl, rfl, SqL.of g1, g3, ?_⟩
        have hh := bd r5 g4
        obtain ⟨xx, aa, tt, zz, ll, e1, e2, e3, e4, e5, e6, e7⟩ := hh
        refine ⟨xx, aa, tt, zz, ll, e1, e2, e3, e4, e5, e6, ?_⟩
        rcases e7 with ⟨f1, f2⟩ | ⟨f, k, f1, f2, f3⟩
        · refine .inl ⟨f1, fun r H' s' hC' => ?_⟩
          obtain ⟨x', e, m1, z', l', g', m2, m3⟩ := f2 r H' s' hC'
          exact ⟨m1, x', z', l', g', _, by rw [e]; rfl, m2, m3⟩
        · refine .inr ⟨f, k, f1, f2, fun r H' s' hC' => ?_⟩
          obtain ⟨x', e, m1, z', l', g', m2, m3⟩ := f3 r H' s' hC'
          exact ⟨m1, x', z', l', g', _, by rw [e]; rfl, m2, m3⟩
      · obtain ⟨sm, x5, z, l2, g2, x6, rfl, hC, iv⟩ := hI
        rw [natV_len, List.length_replicate] at iv
        obtain ⟨d1, rfl, rfl⟩ := done z l2 g2 iv
        obtain ⟨dc, nt, c1, c2⟩ := id hC
        refine ⟨_, rfl, x5, dc, _, rfl, c1, rfl, x5, z, l2, g2, rfl, hC, _, rfl, ?_⟩
        rw [d1]
        refine iteF ⟨_, rfl, x5, dc, _, rfl, c1, rfl, x5, z, l2, g2, rfl, hC, hll, fun v H' s' ho => q v H' ((s05.trans sm).trans s') ho⟩
end
end NW
set_option Elab.async false
set_option linter.all false
set_option maxRecDepth 100000
set_option maxHeartbeats 2000000
/-! W26: climbs, of one tree. -/
namespace NW
open PySem PySem.Spec PyProof.Rows L2
section
variable {P : Program} {w : World} {K : Frag} {mg : Str → Option Value} {base : Heap}
def spClimbs (K : Frag) : Sp := fun vs H Q _ => ∃ (a b : Addr) (t : Tr) (pl : Nat) (l : List Nat), vs = [.ref a, .ref b, .int pl] ∧ PTree K H a t ∧ WF t ∧ t.length ≤ 1000 ∧ H b = some (.lst []) ∧ Way t pl l ∧
  ∀ r u H', Same H H' → H' r = some (.lst [.ref u]) → H' u = some (.tup [.str (up l), .int 1, .bl true]) → Q (.ref r) H'
/-- all but two are kept -/
def Kp (d l : Addr) (H H' : Hp) : Prop := ∀ b o, b ≠ d → b ≠ l → H b = some o → H' b = some o
theorem Kp.refl (d l : Addr) (H : Hp) : Kp d l H H := fun _ _ _ _ e => e
theorem Kp.same {d l : Addr} {H H1 H2 : Hp} (k : Kp d l H H1) (s : Same H1 H2) : Kp d l H H2 := fun b o n1 n2 e => s _ _ (k b o n1 n2 e)
theorem Kp.putD {d l : Addr} {H H1 : Hp} {u : HO} (k : Kp d l H H1) : Kp d l H (upd H1 d u) := fun b o n1 n2 e => by rw [upd_ne n1]; exact k b o n1 n2 e
theorem Kp.putL {d l : Addr} {H H1 : Hp} {u : HO} (k : Kp d l H H1) : Kp d l H (upd H1 l u) := fun b o n1 n2 e => by rw [upd_ne n2]; exact k b o n1 n2 e
theorem Kp.old {d l : Addr} {H0 H H1 : Hp} (k : Kp d l H H1) (s : Same H0 H) (nd : H0 d = none) (nl : H0 l = none) : Same H0 H1 := fun b o e => k b o (ne_of_none e nd) (ne_of_none e nl) (s _ _ e)
/-- a thing locked, something made, the thing given back -/
theorem same_lock {H : Hp} {d p : Addr} {u v : HO} {od : Obj} (h : H d = some u) (n : upd H d (.frz od u) p = none) : Same H (upd (upd (upd H d (.frz od u)) p v) d u) := fun b o e => by
  by_cases c : b = d
  · subst c
    rw [h] at e
    rw [upd_same, e]
  · have h1 : upd H d (.frz od u) b = some o := by rw [upd_ne c]; exact e
    rw [upd_ne c]
    exact upd_at h1 (ne_of_none h1 n)
/-- neither an instance nor a tuple -/
def Soft (H : Hp) (d : Addr) : Prop := (∀ C e fs, H d ≠ some (.ins C e fs)) ∧ ∀ xs, H d ≠ some (.tup xs)
theorem soft_lst {H : Hp} {d : Addr} {xs : List V} (h : H d = some (.lst xs)) : Soft H d := ⟨fun _ _ _ e => (by rw [h] at e; cases e), fun _ e => (by rw [h] at e; cases e)⟩
theorem soft_dK {H : Hp} {d : Addr} {xs : List (Key × V)} (h : H d = some (.dK xs)) : Soft H d := ⟨fun _ _ _ e => (by rw [h] at e; cases e), fun _ e => (by rw [h] at e; cases e)⟩
theorem soft_dT {H : Hp} {d : Addr} {xs : List (List Key × V)} (h : H d = some (.dT xs)) : Soft H d := ⟨fun _ _ _ e => (by rw [h] at e; cases e), fun _ e => (by rw [h] at e; cases e)⟩
theorem Kp.fx {d l : Addr} {H H' : Hp} (k : Kp d l H H') (sd : Soft H d) (sl : Soft H l) : Fx H H' :=
  ⟨fun b C e fs h => k b _ (fun z => sd.1 _ _ _ (z ▸ h)) (fun z => sl.1 _ _ _ (z ▸ h)) h, fun b xs h => k b _ (fun z => sd.2 _ (z ▸ h)) (fun z => sl.2 _ (z ▸ h)) h⟩
theorem PClimb.fx {H H' : Hp} {x : Addr} {pl : Nat} {l : List Nat} {g : Bool} (s : Fx H H') (h : PClimb K H x pl l g) : PClimb K H' x pl l g := let ⟨dx, nt, h1, h2⟩ := h; ⟨dx, nt, s.1 _ _ _ _ h1, s.2 _ _ h2⟩
theorem PRow.kp {d l : Addr} {H H' : Hp} {b : Addr} {ts : List Tr} (k : Kp d l H H') (sd : Soft H d) (sl : Soft H l) (n1 : b ≠ d) (n2 : b ≠ l) (h : PRow K H b ts) : PRow K H' b ts := let ⟨qs, h1, h2⟩ := h; ⟨qs, k _ _ n1 n2 h1, Pmap h2 fun _ _ => PTree.fx (k.fx sd sl)⟩
theorem sc_climbs : FnScope ["tree", "deeds", "place", "shapes", "texts", "gone", "waiting", "here", "least", "known", "found", "time", "text", "shape"] ["tree", "deeds", "place"] (defScope s_climbs) := ⟨rfl, rfl, rfl, by decide +kernel, rfl, by decide +kernel, by decide +kernel⟩
theorem ok_climbs (T : Txt K mg) : Cal P w K mg base 10 "climbs" (spClimbs K) [] := by
  refine cal T.f_climbs T.g_climbs sc_climbs (fun _ _ _ _ _ _ us hl => match us, hl with | [_, _, _], _ => rfl) (fun vs H Q E h => ?_) (fun cdv A outer s H vs Q E hr h => ?_)
  · obtain ⟨a, b, t, pl, l, rfl, _⟩ := h
    rfl
  · obtain ⟨a, b, t, pl, l, rfl, hT, wf, hlen, hb, hwy, q⟩ := h
    have nd := sc_climbs.nd
    have hu := hu_of hr
    refine ⟨_, pss_cons (ps_set (i := 3) nd rfl (Or.inr rfl) (C8.pe_c (ok_trees T) hr (by decide) rfl (pa_cons (pv 0) (pa_cons (pv 1) pa_nil))))
      (pss_cons (ps_expr (C8.pe_c (ok_check_place T) hr (by decide) rfl (pa_cons (pv 0) (pa_cons (pv 2) pa_nil))))
      (pss_cons (ps_asg (pe_tup (pa_cons pe_dnewK (pa_cons pe_int (pa_cons (pe_lst (pa_cons (pe_tup (pa_cons (C8.pe_mk (mk_Climb T) hr (by decide) rfl (pa_cons (pv 2) (pa_cons (pe_tup pa_nil) (pa_cons pe_bl pa_nil)))) (pa_cons pe_int pa_nil))) pa_nil)) pa_nil))))
          (pg_tup rfl (pgs_cons (pg_name (i := 4) nd rfl (Or.inr rfl)) (pgs_cons (pg_name (i := 5) nd rfl (Or.inl rfl)) (pgs_cons (pg_name (i := 6) nd rfl (Or.inl rfl)) pgs_nil)))))
      (pss_cons (ps_while PassesOwn.never (pt_cmpR (op_neNil hr.units0) (pv 6) (pe_lst pa_nil) (nomark _))
        (pss_cons (ps_asg (pe_bm0 PySem.F.plainAttrs_list PySem.F.slot_list_pop PySem.F.type_list_pop mt_pop (pv 6)) (pg_tup rfl (pgs_cons (pg_name (i := 7) nd rfl (Or.inr rfl)) (pgs_cons (pg_name (i := 8) nd rfl (Or.inl rfl)) pgs_nil))))
        (C8.pss_cut (ps_if (pt_not (pt_val (C8.pe_mt0 (ok_is_over T) hr (by decide) (pv 7))))
          (pss_one (ps_expr (pe_bm PySem.F.plainAttrs_list PySem.F.slot_list_extend PySem.F.type_list_extend mt_extend (pv 6)
            (pa_cons (pe_lc (own := [("time", 11)]) (g := gName 11) (tt := tYes) rfl nd (pi_range2 (by rfl) T.n_range (pa_cons (pv 8) (pa_cons (pe_callB call_len_seq (by rfl) T.n_len PySem.boot_len (pa_cons (pv 3) pa_nil)) pa_nil))) (blkOk_by (N := ["tree", "deeds", "place", "shapes", "texts", "gone", "waiting", "here", "least", "known", "found", "time", "text", "shape"]) (sc := defScope s_climbs) (by decide +kernel))
              (fun _ _ _ _ _ => pg_name (i := 11) nd rfl (Or.inl rfl)) (fun _ _ _ _ _ => pts_nil)
              (fun _ _ _ _ _ => pe_tup (pa_cons (C8.pe_mt (ok_higher T) hr (by decide) (pv 7) (pa_cons (pe_ix (ixL (K := K)) (pv 3) (pv 11) (fun _ _ => rfl)) pa_nil)) (pa_cons (pv 11) pa_nil)))) pa_nil))))
          (pss_one (ps_if (pt_val (pe_fld (pv 7) rfl)) pss_never
            (pss_one (ps_dput hu (pv 4) (C8.pe_mt0 (ok_outcome T) hr (by decide) (pv 7)) (pe_op op_add (pe_dget2 hu (pv 4) (C8.pe_mt0 (ok_outcome T) hr (by decide) (pv 7)) pe_int ⟨rfl, rfl, rfl, rfl⟩) pe_int) rfl)))))
        (pss_one (ps_if (pt_cmpR op_gt (pe_op op_add (pv 5) (pe_callB (cr_sum rfl) (by rfl) T.n_sum (by decide +kernel) (pa_cons (pe_lock (pe_lc (own := [("text", 12)]) (g := gName 12) (tt := tYes) rfl nd (pi_keys (pv 4)) (blkOk_by (N := ["tree", "deeds", "place", "shapes", "texts", "gone", "waiting", "here", "least", "known", "found", "time", "text", "shape"]) (sc := defScope s_climbs) (by decide +kernel))
            (fun _ _ _ _ _ => pg_name (i := 12) nd rfl (Or.inl rfl)) (fun _ _ _ _ _ => pts_nil) (fun _ _ _ _ _ => pe_dget hu (pv 4) (pv 12) (fun _ _ => rfl)))) pa_nil))) (C8.pe_gc (by rfl) T.v_MOST_LISTED) (nomark _)) pss_never pss_nil)))))
      (pss_cons (ps_set (i := 9) nd rfl (Or.inr rfl) (pe_lc (own := [("shape", 13)]) (g := gName 13) (tt := tYes) rfl nd (pi_list (pv 3)) (blkOk_by (N := ["tree", "deeds", "place", "shapes", "texts", "gone", "waiting", "here", "least", "known", "found", "time", "text", "shape"]) (sc := defScope s_climbs) (by decide +kernel))
            (fun _ _ _ _ _ => pg_name (i := 13) nd rfl (Or.inl rfl)) (fun _ _ _ _ _ => pts_nil) (fun _ _ _ _ _ => C8.pe_c (ok_whole_climb T) hr (by decide) rfl (pa_cons (pv 13) (pa_cons (pv 2) pa_nil)))))
      (pss_cons (ps_setLc (i := 10) (own := [("text", 12)]) (g := gName 12) (tt := tYes) rfl nd rfl rfl (sw_true rfl rfl rfl (by decide +kernel)) (pi_list (pe_callB (call_sortedD rfl) (by rfl) T.n_sorted (by decide +kernel) (pa_cons (pv 4) pa_nil))) (blkOk_by (N := ["tree", "deeds", "place", "shapes", "texts", "gone", "waiting", "here", "least", "known", "found", "time", "text", "shape"]) (sc := defScope s_climbs) (by decide +kernel))
            (fun _ _ _ _ _ => pg_name (i := 12) nd rfl (Or.inl rfl)) (fun _ _ _ _ _ => pts_nil) (fun _ _ _ _ _ => pe_tup (pa_cons (pv 12) (pa_cons (pe_dget hu (pv 4) (pv 12) (fun _ _ => rfl)) (pa_cons (pe_cmpR (r := rIn K false) op_in_seq (pv 12) (pv 9) (by rfl)) pa_nil)))))
      (pss_one (ps_ret (pe_op op_cat (pv 10) (pe_ifExp (pt_cmpR op_gt (pv 5) pe_int (nomark _)) pe_never (pe_lst pa_nil)))))))))), ?_⟩
    have hFp := hwy.isF wf
    have hPp : isP t pl = true := by unfold isP; rw [hFp]; rfl
    have hR : RowOk [t] [] := ⟨.one t wf, by simpa using hlen, by simp⟩
    have hll : l.length ≤ 1000 := by have := hwy.dep.lt wf; omega
    refine ⟨_, rfl, _, rfl, a, b, t, [], [], rfl, hR, hT, ⟨[], SqL.of hb, .nil⟩, fun sh H1 s1 nsh hsh => ?_⟩
    have hsh : PRow K H1 sh [t] := hsh
    refine ⟨_, rfl, _, rfl, a, t, pl, rfl, hT.gx (sgx s1), hPp, fun H2 s2 => ?_⟩
    have s12 := s1.trans s2
    have hsh2 := hsh.same s2
    refine fun D nD => ?_
    have s3 := snew (o := .dK []) s12 nD
    have n0D : H D = none := s12.free nD
    have hD3 : upd H2 D (.dK []) D = some (.dK []) := upd_same
    have hsh3 := hsh2.same (same_new (o := .dK []) nD)
    generalize upd H2 D (.dK []) = H3 at s3 hD3 hsh3
    refine ⟨_, rfl, (by show 0 ≤ sizeLine; decide), fun bb nb y dy ny ndy ney => ?_⟩
    have s4 := snew (o := .tup []) s3 nb
    have hD4 := upd_at (o := .tup []) hD3 (ne_of_none hD3 nb)
    have hbb : upd H3 bb (.tup []) bb = some (.tup (nmV [])) := upd_same
    have hsh4 := hsh3.same (same_new (o := .tup []) nb)
    generalize upd H3 bb (.tup []) = H4 at s4 hD4 hbb hsh4 ny ndy
    refine ⟨(.int pl, .ref bb, .bl false), H4, y, dy, rfl, rfl, ny, ndy, ney, True.intro, fun H5 s5 hS => ⟨rfl, ?_⟩⟩
    have s05 := s4.trans s5
    have hD5 := s5 _ _ hD4
    have hsh5 := hsh4.same s5
    have hC5 : PClimb K H5 y pl [] false := let ⟨dd, e⟩ := hS; ⟨dd, bb, e, s5 _ _ hbb⟩
    refine ⟨(by show 2 ≤ sizeLine; decide), fun T1 nT1 => ?_⟩
    have s6 := snew (o := .tup [.ref y, .int 0]) s05 nT1
    have hT6 : upd H5 T1 (.tup [.ref y, .int 0]) T1 = some (.tup [.ref y, .int 0]) := upd_same
    have hD6 := upd_at (o := .tup [.ref y, .int 0]) hD5 (ne_of_none hD5 nT1)
    have hsh6 := hsh5.same (same_new (o := .tup [.ref y, .int 0]) nT1)
    have hC6 := hC5.same (same_new (o := .tup [.ref y, .int 0]) nT1)
    generalize upd H5 T1 (.tup [.ref y, .int 0]) = H6 at s6 hT6 hD6 hsh6 hC6
    refine ⟨(by show 1 ≤ sizeLine; decide), fun L1 nL1 => ?_⟩
    have s7 := snew (o := .lst [.ref T1]) s6 nL1
    have n0L : H L1 = none := s6.free nL1
    have hL7 : upd H6 L1 (.lst [.ref T1]) L1 = some (.lst [.ref T1]) := upd_same
    have hT7 := upd_at (o := .lst [.ref T1]) hT6 (ne_of_none hT6 nL1)
    have hD7 := upd_at (o := .lst [.ref T1]) hD6 (ne_of_none hD6 nL1)
    have hDL : D ≠ L1 := ne_of_none hD6 nL1
    have hsh7 := hsh6.same (same_new (o := .lst [.ref T1]) nL1)
    have hC7 := hC6.same (same_new (o := .lst [.ref T1]) nL1)
    generalize upd H6 L1 (.lst [.ref T1]) = H7 at s7 hL7 hT7 hD7 hsh7 hC7
    refine ⟨(by show 3 ≤ sizeLine; decide), fun U nU => ?_⟩
    have s8 := snew (o := .tup [.ref D, .int 0, .ref L1]) s7 nU
    have hU8 : upd H7 U (.tup [.ref D, .int 0, .ref L1]) U = some (.tup [.ref D, .int 0, .ref L1]) := upd_same
    have hD8 := upd_at (o := .tup [.ref D, .int 0, .ref L1]) hD7 (ne_of_none hD7 nU)
    have hL8 := upd_at (o := .tup [.ref D, .int 0, .ref L1]) hL7 (ne_of_none hL7 nU)
    have hT8 := upd_at (o := .tup [.ref D, .int 0, .ref L1]) hT7 (ne_of_none hT7 nU)
    have hsh8 := hsh7.same (same_new (o := .tup [.ref D, .int 0, .ref L1]) nU)
    have hC8 := hC7.same (same_new (o := .tup [.ref D, .int 0, .ref L1]) nU)
    generalize upd H7 U (.tup [.ref D, .int 0, .ref L1]) = H8 at s8 hU8 hD8 hL8 hT8 hsh8 hC8
    refine ⟨U, _, rfl, SqT.of hU8, rfl, _, _, rfl, _, _, rfl, _, _, rfl, rfl, ?_⟩
    have n_shD : sh ≠ D := by obtain ⟨qs, e, _⟩ := hsh2; exact ne_of_none e nD
    have n_shL : sh ≠ L1 := by obtain ⟨qs, e, _⟩ := hsh6; exact ne_of_none e nL1
    have sfD := soft_dK hD8
    have sfL := soft_lst hL8
    let W : Nat → L2.St → Hp → Prop := fun μ σ Hc => (∃ x7 x8, σ = [some (.ref a), some (.ref b), some (.int pl), some (.ref sh), some (.ref D), some (.int 0), some (.ref L1), x7, x8, none, none, none, none, none]) ∧ Kp D L1 H8 Hc ∧
      ((∃ (T' x : Addr) (z : Nat) (l1 l2 : List Nat), μ = l1.length + 1 ∧ Hc L1 = some (.lst [.ref T']) ∧ Hc T' = some (.tup [.ref x, .int 0]) ∧ PClimb K Hc x z l2 false ∧ Way t z l1 ∧ l = l1 ++ l2 ∧ Hc D = some (.dK [])) ∨
        (μ = 0 ∧ Hc L1 = some (.lst []) ∧ Hc D = some (.dK [(Sum.inr (up l), .int 1)])))
    have Wsame : ∀ {μ σ Hc Hc'}, W μ σ Hc → Same Hc Hc' → W μ σ Hc' := fun {μ σ Hc Hc'} h s => by
      obtain ⟨h1, h2, h3⟩ := h
      refine ⟨h1, h2.same s, ?_⟩
      rcases h3 with ⟨T', x, z, l1, l2, e1, e2, e3, e4, e5, e6, e7⟩ | ⟨e1, e2, e3⟩
      · exact .inl ⟨T', x, z, l1, l2, e1, s _ _ e2, s _ _ e3, e4.same s, e5, e6, s _ _ e7⟩
      · exact .inr ⟨e1, s _ _ e2, s _ _ e3⟩
    refine ⟨W, ⟨_, ⟨_, _, rfl⟩, Kp.refl _ _ _, .inl ⟨T1, y, pl, l, [], rfl, hL8, hT8, hC8, hwy, by simp, hD8⟩⟩, ?_⟩
    rintro μ σ Hc ⟨⟨x7, x8, rfl⟩, kp, hst⟩
    have hshc := hsh8.kp kp sfD sfL n_shD n_shL
    rcases hst with ⟨T', x, z, l1, l2, rfl, hL, hT', hC, hz, hl12, hD⟩ | ⟨rfl, hL, hD⟩
    · refine ⟨_, rfl, (by show 0 ≤ sizeLine; decide), fun zz nzz => ⟨L1, zz, _, rfl, rfl, SqL.of (upd_at hL (ne_of_none hL nzz)), SqL.of upd_same, _, rfl, iteT ?_⟩⟩
      have k1 := kp.same (same_new (o := .lst []) nzz)
      have sz := same_new (o := .lst []) nzz
      have hL2 := sz _ _ hL
      have hT2 := sz _ _ hT'
      have hC2 := hC.same sz
      have hD2 := sz _ _ hD
      generalize upd Hc zz (.lst []) = Hd at k1 sz hL2 hT2 hC2 hD2
      have l2l : l2.length ≤ 1000 := by rw [hl12, List.length_append] at hll; omega
      refine ⟨fun σ' H' => ∃ m', m' < l1.length + 1 ∧ W m' σ' H', fun _ _ h => h, ?_⟩
      refine ⟨_, rfl, .inl ⟨rfl, _, SqL.of hL2⟩, L1, _, _, rfl, rfl, hL2, rfl, ?_⟩
      have nTL : T' ≠ L1 := fun q => by rw [q, hL2] at hT2; cases hT2
      have nDL : D ≠ L1 := hDL
      have hT3 := upd_at (o := .lst ([V.ref T'].dropLast)) hT2 nTL
      have hD3' := upd_at (o := .lst ([V.ref T'].dropLast)) hD2 nDL
      have hL3 : upd Hd L1 (.lst ([V.ref T'].dropLast)) L1 = some (.lst []) := upd_same
      have hC3 := hC2.fx (Sb.fx (sb_upd (r := L1) (o := .lst ([V.ref T'].dropLast))) hL2)
      have k2 := k1.putL (u := .lst ([V.ref T'].dropLast))
      generalize upd Hd L1 (.lst ([V.ref T'].dropLast)) = He at hT3 hD3' hL3 hC3 k2
      refine ⟨T', _, rfl, SqT.of hT3, rfl, _, _, rfl, _, _, rfl, rfl, ?_⟩
      have hshe := hsh8.kp k2 sfD sfL n_shD n_shL
      obtain ⟨dc, nt, c1, c2⟩ := id hC3
      refine ⟨fun σ' H' => ∃ m', m' < l1.length + 1 ∧ W m' σ' H', ?_, ?_⟩
      · refine ⟨_, rfl, x, dc, _, rfl, c1, rfl, x, z, l2, false, rfl, hC3, _, rfl, ?_⟩
        by_cases h0 : l1 = []
        · subst h0
          cases hz.nil wf
          rw [List.nil_append] at hl12
          subst hl12
          refine iteF ⟨_, rfl, x, _, dc, _, _, rfl, c1, T.c_Climb, T.a_Climb_is_gone, rfl, _, rfl, iteF ?_⟩
          refine ⟨_, rfl, D, rfl, .inl ⟨_, .inl hD3'⟩, _, rfl, x, dc, _, rfl, c1, rfl, x, 0, _, false, rfl, hC3, hll, fun v1 H9 s9 ho1 => ?_⟩
          have ho1 : v1 = .str (up l) := ho1
          subst ho1
          have hD9 := s9 _ _ hD3'
          refine ⟨none, DGet.k (k := Sum.inr (up l)) hD9, _, _, rfl, rfl, _, rfl, _, rfl, x, dc, _, rfl, s9 _ _ c1, rfl, x, 0, _, false, rfl, hC3.same s9, hll, fun v2 H10 s10 ho2 => ?_⟩
          have ho2 : v2 = .str (up l) := ho2
          subst ho2
          have hD10 := s10 _ _ hD9
          have k3 := (k2.same s9).same s10
          refine ⟨D, _, rfl, DPut.k (k := Sum.inr (up l)) hD10 (by decide), 0, by simp, ⟨_, _, rfl⟩, k3.putD, .inr ⟨rfl, upd_at (s10 _ _ (s9 _ _ hL3)) nDL.symm, upd_same⟩⟩
        · rw [decide_eq_false (hz.ne wf h0)]
          obtain ⟨l0, k, rfl⟩ : ∃ l0 k, l1 = l0 ++ [k] := ⟨l1.dropLast, l1.getLast h0, (List.dropLast_concat_getLast h0).symm⟩
          obtain ⟨f, hf, hm, hF⟩ := hz.snoc
          obtain ⟨qs, q1, q2⟩ := id hshe
          obtain ⟨r0, rfl, hr0⟩ : ∃ r0, qs = [r0] ∧ PTree K He r0 t := by
            cases q2 with
            | cons h1 h2 => cases h2; exact ⟨_, rfl, h1⟩
          refine iteT ⟨_, rfl, .inl ⟨rfl, _, SqL.of hL3⟩, _, rfl, _, rfl, sh, _, rfl, .inl (SqL.of q1), 0, 1, rfl, by decide, fun D2 nD2 => lc_it walk_range (fun i Hi => Same He Hi ∧ ((i = 0 ∧ Hi D2 = some (.lst [])) ∨ (i = 1 ∧ ∃ T2 x2, Hi D2 = some (.lst [.ref T2]) ∧ Hi T2 = some (.tup [.ref x2, .int 0]) ∧ PClimb K Hi x2 f (k :: l2) false))) ⟨same_new nD2, .inl ⟨rfl, upd_same⟩⟩ (fun _ _ _ _ => True.intro) (fun i v Hi Hx hi hI hy => ?_) (fun Hi hI => ?_)⟩
          · have hi0 : i = 0 := by
              have : i < 1 := hi
              omega
            subst hi0
            obtain ⟨sm, hI⟩ := hI
            obtain ⟨rfl, rfl⟩ := hy
            rcases hI with ⟨_, hD2⟩ | ⟨e, _⟩
            · refine ⟨rfl, _, rfl, x, dc, _, rfl, sm _ _ c1, rfl, _, rfl, _, rfl, sh, _, _, _, rfl, rfl, SqL.of (sm _ _ q1), atI_nat (j := 0) rfl, x, r0, t, z, l2, rfl, hC3.same sm, hr0.gx (sgx sm), wf, hlen, l2l, .inr ⟨f, k, hF, hm, fun r H12 s12 hC12 => ?_⟩⟩
              refine ⟨_, rfl, (by show 2 ≤ sizeLine; decide), fun T2 nT2 => ?_⟩
              have hD12 := s12 _ _ hD2
              have n2 : T2 ≠ D2 := (ne_of_none hD12 nT2).symm
              refine ⟨_, upd_at hD12 (ne_of_none hD12 nT2), by decide, sput (snew (sm.trans s12) nT2) nD2, .inr ⟨rfl, T2, r, upd_same, upd_at upd_same n2, ?_⟩⟩
              exact (hC12.same (same_new nT2)).fx (Sb.fx sb_upd (upd_at hD12 (ne_of_none hD12 nT2)))
            · exact absurd e (by omega)
          · obtain ⟨sm, hI⟩ := hI
            rcases hI with ⟨e, _⟩ | ⟨_, T2, x2, g1, g2, g3⟩
            · exact absurd e (by show (1 : Nat) ≠ 0; omega)
            · have hLi := sm _ _ hL3
              have nT2L : T2 ≠ L1 := fun q => by rw [q, hLi] at g2; cases g2
              refine ⟨L1, D2, _, _, rfl, rfl, hLi, g1, (by show 0 + 1 ≤ sizeLine; decide), ?_⟩
              refine ⟨(l0.length + 1), by simp, ⟨_, _, rfl⟩, (k2.same sm).putL, .inl ⟨T2, x2, f, l0, k :: l2, rfl, upd_same, upd_at g2 nT2L, g3.fx (Sb.fx sb_upd hLi), hf, by rw [hl12]; simp, upd_at (sm _ _ hD3') nDL⟩⟩
      · rintro σ' H11 ⟨m', hm', hW⟩
        obtain ⟨⟨y7, y8, rfl⟩, kp', hst'⟩ := id hW
        obtain ⟨kvs, ns, hDk, hkv, hns⟩ : ∃ (kvs : List (Key × V)) (ns : List Int), H11 D = some (.dK kvs) ∧ ((kvs = [] ∧ ns = []) ∨ (kvs = [(Sum.inr (up l), .int 1)] ∧ ns = [1])) ∧ ns.sum ≤ 1 := by
          rcases hst' with ⟨T'', x', z', l1', l2', e1, e2, e3, e4, e5, e6, e7⟩ | ⟨e1, e2, e3⟩
          · exact ⟨[], [], e7, .inl ⟨rfl, rfl⟩, by decide⟩
          · exact ⟨_, [1], e3, .inr ⟨rfl, rfl⟩, by decide⟩
        refine ⟨_, rfl, D, _, hDk, True.intro, fun od => ⟨_, rfl, D, od, rfl, .inl ⟨kvs, upd_same, fun D2 nD2 => lc_fm walk_keys (fun i => (kvs[i]?).map (·.2)) nD2 (fun H' s => s _ _ upd_same) (Nat.le_trans (by rcases hkv with ⟨e, _⟩ | ⟨e, _⟩ <;> rw [e] <;> simp : kvs.length ≤ 1) (by decide)) (fun i x H' H2 Qy Qn hi s hy ky kn => ?_) ?_⟩⟩⟩
        · obtain ⟨rfl, k, v, hk, rfl⟩ := hy
          have hv : valV kvs k = some v := by
            rcases hkv with ⟨e, _⟩ | ⟨e, _⟩
            · rw [e] at hk; simp at hk
            · rw [e] at hk ⊢
              have : i = 0 := by
                cases i with
                | zero => rfl
                | succ i => simp at hk
              subst this
              cases hk
              exact valV_pos rfl
          exact ⟨rfl, _, rfl, _, rfl, D, v, rfl, .inl ⟨kvs, k, .inr ⟨od, s _ _ upd_same⟩, rfl, hv.symm⟩, ky _ (by rw [hk]; rfl)⟩
        · have eo : outsTo (fun i => (kvs[i]?).map (·.2)) kvs.length = ns.map V.int := by
            rcases hkv with ⟨e1, e2⟩ | ⟨e1, e2⟩ <;> rw [e1, e2] <;> rfl
          rw [eo]
          have hlk : upd H11 D (.frz od (.dK kvs)) D = some (.frz od (.dK kvs)) := upd_same
          have nDD2 : D ≠ D2 := ne_of_none hlk nD2
          refine ⟨upd_at hlk nDD2, ?_⟩
          have sl := same_lock (v := .lst (ns.map V.int)) hDk nD2
          have hD2f : upd (upd (upd H11 D (.frz od (.dK kvs))) D2 (.lst (ns.map V.int))) D (.dK kvs) D2 = some (.lst (ns.map V.int)) := upd_at upd_same nDD2.symm
          generalize upd (upd (upd H11 D (.frz od (.dK kvs))) D2 (.lst (ns.map V.int))) D (.dK kvs) = H13 at sl hD2f
          refine ⟨D2, ns, rfl, SqL.of hD2f, _, _, rfl, rfl, _, _, rfl, rfl, _, rfl, ?_⟩
          rw [decide_eq_false (by omega : ¬ (5000 : Int) < 0 + ns.sum)]
          exact iteF ⟨m', hm', Wsame hW sl⟩
    · have hPl := hwy
      refine ⟨_, rfl, (by show 0 ≤ sizeLine; decide), fun zz nzz => ⟨L1, zz, _, rfl, rfl, SqL.of (upd_at hL (ne_of_none hL nzz)), SqL.of upd_same, _, rfl, iteF ?_⟩⟩
      have k1 := kp.same (same_new (o := .lst []) nzz)
      have sz := same_new (o := .lst []) nzz
      have hD2 := sz _ _ hD
      have hsh9 := hshc.same sz
      generalize upd Hc zz (.lst []) = Hd at k1 sz hD2 hsh9
      obtain ⟨qs, q1, q2⟩ := id hsh9
      obtain ⟨r0, rfl, hr0⟩ : ∃ r0, qs = [r0] ∧ PTree K Hd r0 t := by
        cases q2 with
        | cons h1 h2 => cases h2; exact ⟨_, rfl, h1⟩
      refine ⟨_, rfl, sh, rfl, ⟨_, SqL.of q1⟩, fun D2 nD2 => lc_it walk_list (fun i Hi => Same Hd Hi ∧ Hi D2 = some (.lst (List.replicate i (.str (up l))))) ⟨same_new nD2, upd_same⟩ (fun i Hi _ h => SqL.of (h.1 _ _ q1)) (fun i v Hx Hi hi hI hy => ?_) (fun Hi hI => ?_)⟩
      · obtain ⟨sm, hD3⟩ := hI
        obtain ⟨rfl, hx⟩ := hy
        have hi0 : i = 0 := by
          have : i < 1 := hi
          omega
        subst hi0
        cases hx
        refine ⟨rfl, _, rfl, _, rfl, r0, t, pl, l, rfl, hr0.gx (sgx sm), wf, hlen, hwy, fun H12 s12 => ⟨_, s12 _ _ hD3, (by show 0 < sizeLine; decide), sput (sm.trans s12) nD2, upd_same⟩⟩
      obtain ⟨sm, hK⟩ := hI
      have hK : Hi D2 = some (.lst [.str (up l)]) := hK
      have hDi := sm _ _ hD2
      have ki := k1.same sm
      refine ⟨_, rfl, D, _, [up l], rfl, .inl hDi, rfl, (by show 1 < 64; decide), fun ys p hperm _ np => ?_⟩
      obtain rfl : ys = [up l] := List.perm_singleton.mp hperm
      have s20 := same_new (o := .lst ([up l].map V.str)) np
      have hp20 : upd Hi p (.lst ([up l].map V.str)) p = some (.lst [.str (up l)]) := upd_same
      generalize upd Hi p (.lst ([up l].map V.str)) = H20 at s20 hp20
      refine ⟨p, rfl, ⟨_, SqL.of hp20⟩, fun F nF => lc_it walk_list (fun i Hi => Same H20 Hi ∧ ((i = 0 ∧ Hi F = some (.lst [])) ∨ (i = 1 ∧ ∃ T3, Hi F = some (.lst [.ref T3]) ∧ Hi T3 = some (.tup [.str (up l), .int 1, .bl true])))) ⟨same_new nF, .inl ⟨rfl, upd_same⟩⟩ (fun i Hi _ h => SqL.of (h.1 _ _ hp20)) (fun i v Hx Hi hi hI hy => ?_) (fun Hi hI => ?_)⟩
      · obtain ⟨sn, hI⟩ := hI
        obtain ⟨rfl, hx⟩ := hy
        have hi0 : i = 0 := by
          have : i < 1 := hi
          omega
        subst hi0
        cases hx
        rcases hI with ⟨_, hF⟩ | ⟨e, _⟩
        · have sall := s20.trans sn
          refine ⟨rfl, _, rfl, _, rfl, _, rfl, D, _, rfl, (.inl ⟨_, Sum.inr (up l), .inl (sall _ _ hDi), rfl, (valV_pos rfl).symm⟩), _, rfl, _, rfl, D2, _, rfl, .inl (SqL.of (sall _ _ hK)), rfl, rfl, (by show 3 ≤ sizeLine; decide), fun T3 nT3 => ?_⟩
          have eIn : (if false = true then !inV (.str (up l)) [.str (up l)] else inV (.str (up l)) [.str (up l)]) = true := by simp [inV, eqV]
          rw [eIn]
          have n3 : T3 ≠ F := (ne_of_none hF nT3).symm
          exact ⟨_, upd_at hF (ne_of_none hF nT3), by decide, sput (snew sn nT3) nF, .inr ⟨rfl, T3, upd_same, upd_at upd_same n3⟩⟩
        · exact absurd e (by omega)
      obtain ⟨sn, hI⟩ := hI
      rcases hI with ⟨e, _⟩ | ⟨_, T3, hF, hT3⟩
      · exact absurd e (by show (1 : Nat) ≠ 0; omega)
      refine ⟨_, rfl, _, rfl, _, _, rfl, rfl, _, rfl, iteF ⟨(by show 0 ≤ sizeLine; decide), fun Z nZ => ⟨F, Z, _, _, rfl, rfl, upd_at hF (ne_of_none hF nZ), upd_same, (by show 1 + 0 ≤ sizeLine; decide), fun R nR => ?_⟩⟩⟩
      have hT4 := upd_at (o := .lst []) hT3 (ne_of_none hT3 nZ)
      refine q R T3 _ ?_ upd_same (upd_at hT4 (ne_of_none hT4 nR))
      exact snew (snew (((ki.old s8 n0D n0L).trans s20).trans sn) nZ) nR
end
end NW
set_option Elab.async false
set_option linter.all false
set_option maxRecDepth 100000
set_option maxHeartbeats 1000000
/-! KM3: the listings of all weavings, found one by one; no program in sight. -/
namespace NW
open PySem PySem.Spec PyProof.Rows L2
def sumR (f : Nat → Nat) (k : Nat) : Nat → Nat
  | 0 => 0
  | m + 1 => sumR f k m + f (k + m)
/-- what waits can be listed in at most c ways, within z steps -/
inductive Lst (ts : List Tr) : List Nat → Nat → Nat → Nat → Prop where
  | done {k c z : Nat} : 1 ≤ c → 1 ≤ z → Lst ts [] k c z
  | more {W : List Nat} {k c z : Nat} (fc fz : Nat → Nat) : W ≠ [] → (∀ τ, k ≤ τ → τ < ts.length → Lst ts (lookAt ts τ [] W).2 τ (fc τ) (fz τ)) → sumR fc k (ts.length - k) ≤ c → 1 + sumR fz k (ts.length - k) ≤ z → Lst ts W k c z
theorem settle_snd {pl : Nat → Bool} : ∀ (W N M : List Nat), (settle pl N W).2 = (settle pl M W).2
  | [], _, _ => rfl
  | d :: W, N, M => by
    have e : ∀ N, settle pl N (d :: W) = if pl d = true then (N ++ [d], d :: W) else settle pl (N ++ [d]) W := fun _ => rfl
    rw [e, e]
    by_cases hp : pl d = true
    · rw [if_pos hp, if_pos hp]
    · rw [if_neg hp, if_neg hp]
      exact settle_snd W _ _
theorem lookAt_snd (ts : List Tr) (τ : Nat) (N M W : List Nat) : (lookAt ts τ N W).2 = (lookAt ts τ M W).2 := settle_snd _ _ _
/-- a listing that may still come -/
def Rc (ts : List Tr) (N W : List Nat) (k : Nat) (Vs : List Nat) : Prop := ∃ σs : List Nat, σs.Pairwise (· ≤ ·) ∧ (∀ τ ∈ σs, k ≤ τ ∧ τ < ts.length) ∧ run ts (N, W) σs = some (Vs, [])
theorem Rc.nil {ts : List Tr} {N Vs : List Nat} {k : Nat} (h : Rc ts N [] k Vs) : Vs = N := by
  obtain ⟨σs, _, _, h⟩ := h
  cases σs with
  | nil =>
    have h : some (N, ([] : List Nat)) = some (Vs, []) := h
    cases h
    rfl
  | cons τ σs => cases h
theorem Rc.more {ts : List Tr} {N W Vs : List Nat} {k : Nat} (h : Rc ts N W k Vs) (hW : W ≠ []) : ∃ τ, k ≤ τ ∧ τ < ts.length ∧ Rc ts (lookAt ts τ N W).1 (lookAt ts τ N W).2 τ Vs := by
  obtain ⟨σs, h1, h2, h⟩ := h
  cases σs with
  | nil =>
    have h : some (N, W) = some (Vs, []) := h
    cases h
    exact absurd rfl hW
  | cons τ σs =>
    obtain ⟨a, b⟩ := h2 τ List.mem_cons_self
    cases W with
    | nil => exact absurd rfl hW
    | cons p r => exact ⟨τ, a, b, σs, (List.pairwise_cons.mp h1).2, fun x hx => ⟨(List.pairwise_cons.mp h1).1 x hx, (h2 x (List.mem_cons_of_mem _ hx)).2⟩, h⟩
/-! what is counted -/
abbrev Cnt := List (List Nat × Nat)
def keyOf (l : List Nat) : List Key := l.map fun (x : Nat) => Sum.inl (x : Int)
def enc (D : Cnt) : List (List Key × V) := D.map fun e => (keyOf e.1, V.int (e.2 : Nat))
theorem keyOf_inj {a b : List Nat} (h : keyOf a = keyOf b) : a = b := by
  unfold keyOf at h
  exact (List.map_inj_right fun x y e => by have := Sum.inl.inj e; omega).mp h
theorem keyOf_kV (l : List Nat) : (keyOf l).map kV = natV l := by unfold keyOf natV; rw [List.map_map]; rfl
def getC (D : Cnt) (l : List Nat) : Nat := match D with
  | [] => 0
  | e :: r => if e.1 = l then e.2 else getC r l
def addC (D : Cnt) (l : List Nat) : Cnt := match D with
  | [] => [(l, 1)]
  | e :: r => if e.1 = l then (e.1, e.2 + 1) :: r else e :: addC r l
theorem getC_val : ∀ (D : Cnt) (l : List Nat), (valV (enc D) (keyOf l)).getD (V.int 0) = V.int (getC D l : Nat)
  | [], _ => rfl
  | e :: r, l => by
    have e0 : enc (e :: r) = (keyOf e.1, V.int (e.2 : Nat)) :: enc r := rfl
    have e1 : getC (e :: r) l = if e.1 = l then e.2 else getC r l := rfl
    rw [e0, e1]
    by_cases c : e.1 = l
    · rw [if_pos c, valV_pos (by rw [c])]
      rfl
    · rw [if_neg c, valV_neg (fun z => c (keyOf_inj z))]
      exact getC_val r l
theorem addC_keys : ∀ (D : Cnt) (l x : List Nat), x ∈ (addC D l).map (·.1) ↔ x ∈ D.map (·.1) ∨ x = l
  | [], l, x => by simp [addC]
  | e :: r, l, x => by
    have e1 : addC (e :: r) l = if e.1 = l then (e.1, e.2 + 1) :: r else e :: addC r l := rfl
    rw [e1]
    by_cases c : e.1 = l
    · rw [if_pos c]
      simp only [List.map_cons, List.mem_cons]
      constructor
      · exact .inl
      · rintro (h | h)
        · exact h
        · exact .inl (h.trans c.symm)
    · rw [if_neg c]
      simp only [List.map_cons, List.mem_cons, addC_keys r l x]
      constructor
      · rintro (h | h | h)
        · exact .inl (.inl h)
        · exact .inl (.inr h)
        · exact .inr h
      · rintro ((h | h) | h)
        · exact .inl h
        · exact .inr (.inl h)
        · exact .inr (.inr h)
theorem addC_nodup : ∀ (D : Cnt) (l : List Nat), (D.map (·.1)).Nodup → ((addC D l).map (·.1)).Nodup
  | [], l, _ => by simp [addC]
  | e :: r, l, h => by
    have e1 : addC (e :: r) l = if e.1 = l then (e.1, e.2 + 1) :: r else e :: addC r l := rfl
    rw [e1]
    obtain ⟨h1, h2⟩ := List.nodup_cons.mp h
    by_cases c : e.1 = l
    · rw [if_pos c]
      exact h
    · rw [if_neg c]
      exact List.nodup_cons.mpr ⟨fun z => ((addC_keys r l e.1).mp z).elim h1 c, addC_nodup r l h2⟩
theorem addC_sum : ∀ (D : Cnt) (l : List Nat), ((addC D l).map (·.2)).sum = (D.map (·.2)).sum + 1
  | [], l => rfl
  | e :: r, l => by
    have e1 : addC (e :: r) l = if e.1 = l then (e.1, e.2 + 1) :: r else e :: addC r l := rfl
    rw [e1]
    by_cases c : e.1 = l
    · rw [if_pos c]
      simp only [List.map_cons, List.sum_cons]
      omega
    · rw [if_neg c]
      have := addC_sum r l
      simp only [List.map_cons, List.sum_cons]
      omega
theorem addC_pos : ∀ (D : Cnt) (l : List Nat), (∀ e ∈ D, 1 ≤ e.2) → ∀ e ∈ addC D l, 1 ≤ e.2
  | [], l, _, e, he => by simp [addC] at he; subst he; exact Nat.le_refl _
  | d :: r, l, h, e, he => by
    have e1 : addC (d :: r) l = if d.1 = l then (d.1, d.2 + 1) :: r else d :: addC r l := rfl
    rw [e1] at he
    by_cases c : d.1 = l
    · rw [if_pos c] at he
      rcases List.mem_cons.mp he with rfl | he
      · show 1 ≤ d.2 + 1; omega
      · exact h e (List.mem_cons_of_mem _ he)
    · rw [if_neg c] at he
      rcases List.mem_cons.mp he with rfl | he
      · exact h _ List.mem_cons_self
      · exact addC_pos r l (fun x hx => h x (List.mem_cons_of_mem _ hx)) e he
theorem addC_len : ∀ (D : Cnt) (l : List Nat), (addC D l).length ≤ D.length + 1
  | [], _ => by simp [addC]
  | e :: r, l => by
    have e1 : addC (e :: r) l = if e.1 = l then (e.1, e.2 + 1) :: r else e :: addC r l := rfl
    rw [e1]
    by_cases c : e.1 = l
    · rw [if_pos c]; simp
    · rw [if_neg c]
      have := addC_len r l
      simp only [List.length_cons]
      omega
theorem enc_any (D : Cnt) (l : List Nat) : ((enc D).any fun kv => decide (kv.1 = keyOf l)) = decide (l ∈ D.map (·.1)) := by
  unfold enc
  rw [List.any_map, Bool.eq_iff_iff, List.any_eq_true, decide_eq_true_iff, List.mem_map]
  constructor
  · rintro ⟨e, he, h⟩
    exact ⟨e, he, keyOf_inj (of_decide_eq_true h)⟩
  · rintro ⟨e, he, h⟩
    exact ⟨e, he, decide_eq_true (by show keyOf e.1 = _; rw [h])⟩
theorem addC_enc : ∀ (D : Cnt) (l : List Nat), (D.map (·.1)).Nodup → enc (addC D l) = putK (enc D) (keyOf l) (V.int ((getC D l + 1 : Nat)))
  | [], l, _ => rfl
  | e :: r, l, h => by
    have e1 : addC (e :: r) l = if e.1 = l then (e.1, e.2 + 1) :: r else e :: addC r l := rfl
    have e2 : getC (e :: r) l = if e.1 = l then e.2 else getC r l := rfl
    obtain ⟨h1, h2⟩ := List.nodup_cons.mp h
    rw [e1, e2]
    by_cases c : e.1 = l
    · rw [if_pos c, if_pos c]
      unfold putK
      rw [enc_any, if_pos (decide_eq_true (by rw [← c]; simp))]
      have e3 : enc (e :: r) = (keyOf e.1, V.int (e.2 : Nat)) :: enc r := rfl
      have e4 : enc ((e.1, e.2 + 1) :: r) = (keyOf e.1, V.int ((e.2 + 1 : Nat))) :: enc r := rfl
      rw [e3, e4, List.map_cons, if_pos (by rw [c])]
      congr 1
      refine (List.map_id _).symm.trans (List.map_congr_left fun x hx => ?_)
      obtain ⟨y, hy, rfl⟩ := List.mem_map.mp hx
      have : ¬ keyOf y.1 = keyOf l := fun z => h1 (List.mem_map.mpr ⟨y, hy, (keyOf_inj z).trans c.symm⟩)
      show (keyOf y.1, V.int (y.2 : Nat)) = if keyOf y.1 = keyOf l then _ else _
      rw [if_neg this]
    · rw [if_neg c, if_neg c]
      have ih := addC_enc r l h2
      have e3 : ∀ r, enc (e :: r) = (keyOf e.1, V.int (e.2 : Nat)) :: enc r := fun _ => rfl
      rw [e3, e3, ih]
      unfold putK
      have ea : ((((keyOf e.1, V.int (e.2 : Nat)) :: enc r)).any fun kv => decide (kv.1 = keyOf l)) = ((enc r).any fun kv => decide (kv.1 = keyOf l)) := by
        rw [List.any_cons]
        have : decide (keyOf e.1 = keyOf l) = false := decide_eq_false fun z => c (keyOf_inj z)
        show (decide (keyOf e.1 = keyOf l) || _) = _
        rw [this, Bool.false_or]
      rw [ea]
      by_cases b : ((enc r).any fun kv => decide (kv.1 = keyOf l)) = true
      · rw [if_pos b, if_pos b, List.map_cons]
        congr 1
        show _ = if keyOf e.1 = keyOf l then _ else _
        rw [if_neg fun z => c (keyOf_inj z)]
      · rw [if_neg b, if_neg b]
        rfl
end NW
set_option Elab.async false
set_option linter.all false
set_option maxRecDepth 100000
set_option maxHeartbeats 2000000
/-! W27: listings. -/
namespace NW
open PySem PySem.Spec PyProof.Rows L2
theorem Row.step_in {ts : List Tr} {ds : List Dd} (h : Row ts ds) {k τ p : Nat} {r : List Nat} (hk : k ≤ τ) (hτ : τ < ts.length) (hW : ∀ c ∈ p :: r, c < (at_ ts k).length) :
    p < (at_ ts τ).length ∧ (∀ c ∈ kids (at_ ts τ) p ++ r, c < (lastT ts).length) ∧ ∀ N, ∀ c ∈ (lookAt ts τ N (p :: r)).2, c < (at_ ts τ).length := by
  have hm := (h.mono hk hτ).1
  have hk2 : ∀ c ∈ kids (at_ ts τ) p ++ r, c < (at_ ts τ).length := fun c hc => by
    rcases List.mem_append.mp hc with hc | hc
    · exact (h.kid hτ hc).1
    · exact Nat.lt_of_lt_of_le (hW c (List.mem_cons_of_mem _ hc)) hm
  exact ⟨Nat.lt_of_lt_of_le (hW p List.mem_cons_self) hm, fun c hc => Nat.lt_of_lt_of_le (hk2 c hc) (h.len_last hτ), fun N c hc => hk2 c (settle_mem hc)⟩
theorem lookAt_len {ts : List Tr} {τ p : Nat} {N r : List Nat} (w : WF (at_ ts τ)) : (lookAt ts τ N (p :: r)).1.length + (lookAt ts τ N (p :: r)).2.length ≤ N.length + r.length + 5 := by
  have h4 := settle_len (pl := plL ts) (W := kids (at_ ts τ) p ++ r) (N := N)
  have h5 := kids_len w p
  rw [List.length_append] at h4
  have e2 : lookAt ts τ N (p :: r) = settle (plL ts) N (kids (at_ ts τ) p ++ r) := rfl
  rw [e2]
  omega
def rListOf (K : Frag) : List V → Hp → VK → Prop := fun xs H Q => ∃ p ys, xs = [.ref p] ∧ (SqL K H p ys ∨ SqT K H p ys) ∧ ∀ l, H l = none → Q (.ref l) (upd H l (.lst ys))
theorem clistK {X : Cx} {K : Frag} (hK : X.K = K := by rfl) : CallR X (.type "list") (rListOf K) := hK ▸ call_list_of
/-- what waits: noted, left, least, in how many ways, in how many steps -/
structure Itm where
  N : List Nat
  W : List Nat
  k : Nat
  c : Nat
  z : Nat
structure ItOk (ts : List Tr) (z0 : Nat) (it : Itm) : Prop where
  lst : Lst ts it.W it.k it.c it.z
  k : it.k < ts.length
  w : ∀ c ∈ it.W, c < (at_ ts it.k).length
  n : it.N.length + it.W.length + 5 * it.z ≤ 5 * z0 + 1
structure DInv (ts : List Tr) (pl c0 z0 : Nat) (items : List Itm) (D : Cnt) (many : Nat) : Prop where
  nd : (D.map (·.1)).Nodup
  pos : ∀ e ∈ D, 1 ≤ e.2
  sum : (D.map (·.2)).sum = many
  tot : many + (items.map (·.c)).sum ≤ c0
  z : (items.map (·.z)).sum ≤ z0
  ok : ∀ it ∈ items, ItOk ts z0 it
  cov : ∀ Vs, Rc ts [] [pl] 0 Vs → Vs ∈ D.map (·.1) ∨ ∃ it ∈ items, Rc ts it.N it.W it.k Vs
theorem Lst.pos {ts : List Tr} {W : List Nat} {k c z : Nat} (h : Lst ts W k c z) : 1 ≤ z := by cases h <;> omega
theorem len_sum : ∀ {items : List Itm}, (∀ it ∈ items, 1 ≤ it.z) → items.length ≤ (items.map (·.z)).sum
  | [], _ => Nat.le_refl _
  | it :: r, h => by
    have h1 := h it List.mem_cons_self
    have h2 := len_sum (items := r) fun x hx => h x (List.mem_cons_of_mem _ hx)
    simp only [List.length_cons, List.map_cons, List.sum_cons]
    omega
theorem DInv.done {ts : List Tr} {pl c0 z0 many : Nat} {items : List Itm} {D : Cnt} {it : Itm} (h : DInv ts pl c0 z0 (items ++ [it]) D many) (hW : it.W = []) : DInv ts pl c0 z0 items (addC D it.N) (many + 1) ∧ many + 1 ≤ c0 ∧ (items.map (·.z)).sum < ((items ++ [it]).map (·.z)).sum := by
  have ho := h.ok it (by simp)
  have h1 : 1 ≤ it.c := by
    have := ho.lst
    rw [hW] at this
    cases this with
    | done a b => exact a
    | more _ _ h _ _ _ => exact absurd rfl h
  have hz := ho.lst.pos
  have t := h.tot
  have z := h.z
  simp only [List.map_append, List.sum_append, List.map_cons, List.map_nil, List.sum_cons, List.sum_nil] at t z ⊢
  refine ⟨⟨addC_nodup _ _ h.nd, addC_pos _ _ h.pos, by rw [addC_sum, h.sum], by omega, by omega, fun x hx => h.ok x (by simp [hx]), fun Vs hV => ?_⟩, by omega, by omega⟩
  rcases h.cov Vs hV with h | ⟨x, hx, hr⟩
  · exact .inl ((addC_keys _ _ _).mpr (.inl h))
  · rcases List.mem_append.mp hx with hx | hx
    · exact .inr ⟨x, hx, hr⟩
    · have : x = it := by simpa using hx
      subst this
      rw [hW] at hr
      exact .inl ((addC_keys _ _ _).mpr (.inr hr.nil))
theorem sumR_map (f : Nat → Nat) (g : Nat → Itm) (c : Itm → Nat) (k : Nat) (h : ∀ τ, c (g τ) = f τ) : ∀ m, (((List.range m).map fun i => g (k + i)).map c).sum = sumR f k m
  | 0 => rfl
  | m + 1 => by
    rw [List.range_succ, List.map_append, List.map_append, List.sum_append, sumR_map f g c k h m]
    simp [sumR, h]
theorem DInv.more {ts : List Tr} {ds : List Dd} (hR : Row ts ds) {pl c0 z0 many : Nat} {items : List Itm} {D : Cnt} {it : Itm} {p : Nat} {r : List Nat} (h : DInv ts pl c0 z0 (items ++ [it]) D many) (hW : it.W = p :: r) :
    ∃ fc fz : Nat → Nat, DInv ts pl c0 z0 (items ++ (List.range (ts.length - it.k)).map fun i => ⟨(lookAt ts (it.k + i) it.N (p :: r)).1, (lookAt ts (it.k + i) it.N (p :: r)).2, it.k + i, fc (it.k + i), fz (it.k + i)⟩) D many ∧
      ((items ++ (List.range (ts.length - it.k)).map fun i => (⟨(lookAt ts (it.k + i) it.N (p :: r)).1, (lookAt ts (it.k + i) it.N (p :: r)).2, it.k + i, fc (it.k + i), fz (it.k + i)⟩ : Itm)).map (·.z)).sum < ((items ++ [it]).map (·.z)).sum := by
  have ho := h.ok it (by simp)
  have hl := ho.lst
  rw [hW] at hl
  generalize e : p :: r = W at hl
  cases hl with
  | done a b => cases e
  | more fc fz hne hch hc hz =>
    subst e
    refine ⟨fc, fz, ?_, ?_⟩
    · have ec := sumR_map fc (fun τ => (⟨(lookAt ts τ it.N (p :: r)).1, (lookAt ts τ it.N (p :: r)).2, τ, fc τ, fz τ⟩ : Itm)) (·.c) it.k (fun _ => rfl) (ts.length - it.k)
      have ez := sumR_map fz (fun τ => (⟨(lookAt ts τ it.N (p :: r)).1, (lookAt ts τ it.N (p :: r)).2, τ, fc τ, fz τ⟩ : Itm)) (·.z) it.k (fun _ => rfl) (ts.length - it.k)
      have t := h.tot
      have z := h.z
      refine ⟨h.nd, h.pos, h.sum, ?_, ?_, fun x hx => ?_, fun Vs hV => ?_⟩
      · rw [List.map_append, List.sum_append] at t ⊢
        rw [ec]
        simp at t
        omega
      · rw [List.map_append, List.sum_append] at z ⊢
        rw [ez]
        simp at z
        omega
      · rcases List.mem_append.mp hx with hx | hx
        · exact h.ok x (by simp [hx])
        · obtain ⟨i, hi, rfl⟩ := List.mem_map.mp hx
          rw [List.mem_range] at hi
          have hτ : it.k + i < ts.length := by omega
          have hs := hR.step_in (k := it.k) (τ := it.k + i) (by omega) hτ (by rw [← hW]; exact ho.w)
          refine ⟨?_, hτ, hs.2.2 it.N, ?_⟩
          · have := hch (it.k + i) (by omega) hτ
            rw [lookAt_snd ts (it.k + i) [] it.N] at this
            exact this
          · have h1 := lookAt_len (N := it.N) (r := r) (p := p) (hR.wf _ (at_mem hτ))
            have h2 := ho.n
            rw [hW, List.length_cons] at h2
            have h3 : fz (it.k + i) + 1 ≤ it.z := by
              have : fz (it.k + i) ≤ sumR fz it.k (ts.length - it.k) := by
                have gen : ∀ m, i < m → fz (it.k + i) ≤ sumR fz it.k m := fun m => by
                  induction m with
                  | zero => intro h; omega
                  | succ m ih =>
                    intro h
                    show _ ≤ sumR fz it.k m + fz (it.k + m)
                    by_cases c : i = m
                    · subst c; omega
                    · have := ih (by omega); omega
                exact gen _ hi
              omega
            show (lookAt ts (it.k + i) it.N (p :: r)).1.length + (lookAt ts (it.k + i) it.N (p :: r)).2.length + 5 * fz (it.k + i) ≤ 5 * z0 + 1
            omega
      · rcases h.cov Vs hV with h | ⟨x, hx, hr⟩
        · exact .inl h
        · rcases List.mem_append.mp hx with hx | hx
          · exact .inr ⟨x, by simp [hx], hr⟩
          · have : x = it := by simpa using hx
            subst this
            rw [hW] at hr
            obtain ⟨τ, h1, h2, h3⟩ := hr.more (by simp)
            refine .inr ⟨⟨(lookAt ts τ x.N (p :: r)).1, (lookAt ts τ x.N (p :: r)).2, τ, fc τ, fz τ⟩, List.mem_append.mpr (.inr (List.mem_map.mpr ⟨τ - x.k, List.mem_range.mpr (by omega), ?_⟩)), h3⟩
            have : x.k + (τ - x.k) = τ := by omega
            simp only [this]
    · have ez := sumR_map fz (fun τ => (⟨(lookAt ts τ it.N (p :: r)).1, (lookAt ts τ it.N (p :: r)).2, τ, fc τ, fz τ⟩ : Itm)) (·.z) it.k (fun _ => rfl) (ts.length - it.k)
      rw [List.map_append, List.sum_append, List.map_append, List.sum_append, ez]
      simp
      omega
section
variable {P : Program} {w : World} {K : Frag} {mg : Str → Option Value} {base : Heap}
def ItemAt (Wt : Addr) (H : Hp) (u : Addr) (it : Itm) : Prop := ∃ Na Wa, H u = some (.tup [.ref Na, .ref Wa, .int it.k]) ∧ H Na = some (.lst (natV it.N)) ∧ H Wa = some (.lst (natV it.W)) ∧ Na ≠ Wt ∧ Wa ≠ Wt
theorem ItemAt.kp {D Wt : Addr} {H H' : Hp} {u : Addr} {it : Itm} (k : Kp D Wt H H') (sd : Soft H D) (nd : ∀ xs, H D ≠ some (.lst xs)) (sw : Soft H Wt) (h : ItemAt Wt H u it) : ItemAt Wt H' u it := by
  obtain ⟨Na, Wa, h1, h2, h3, h4, h5⟩ := h
  exact ⟨Na, Wa, (k.fx sd sw).2 _ _ h1, k _ _ (fun z => nd _ (z ▸ h2)) h4 h2, k _ _ (fun z => nd _ (z ▸ h3)) h5 h3, h4, h5⟩
theorem ItemAt.same {Wt : Addr} {H H' : Hp} {u : Addr} {it : Itm} (s : Same H H') (h : ItemAt Wt H u it) : ItemAt Wt H' u it := by
  obtain ⟨Na, Wa, h1, h2, h3, h4, h5⟩ := h
  exact ⟨Na, Wa, s _ _ h1, s _ _ h2, s _ _ h3, h4, h5⟩
def RPair (H : Hp) (u : Addr) (e : List Nat × Nat) : Prop := ∃ La, H u = some (.tup [.ref La, .int (e.2 : Nat)]) ∧ H La = some (.lst (natV e.1))
def spListings (K : Frag) : Sp := fun vs H Q _ => ∃ (a b : Addr) (t : Tr) (ts : List Tr) (ds : List Dd) (pl c0 z0 : Nat), vs = [.ref a, .ref b, .int pl] ∧ RowOk (t :: ts) ds ∧ PTree K H a t ∧ PDeeds K H b ds ∧ isP t pl = true ∧ Lst (t :: ts) [pl] 0 c0 z0 ∧ c0 ≤ 5000 ∧ z0 ≤ 1000000 ∧
  ∀ r H' us D, Same H H' → H' r = some (.lst (us.map V.ref)) → Paired (RPair H') us D → (D.map (·.1)).Nodup → (∀ e ∈ D, 1 ≤ e.2) → (D.map (·.2)).sum ≤ c0 → (∀ Vs, Rc (t :: ts) [] [pl] 0 Vs → Vs ∈ D.map (·.1)) → Q (.ref r) H'
theorem sc_listings : FnScope ["tree", "deeds", "place", "shapes", "found", "waiting", "many", "noted", "left", "least", "time"] ["tree", "deeds", "place"] (defScope s_listings) := ⟨rfl, rfl, rfl, by decide +kernel, rfl, by decide +kernel, by decide +kernel⟩
theorem ok_listings (T : Txt K mg) : Cal P w K mg base 10 "listings" (spListings K) [] := by
  refine cal T.f_listings T.g_listings sc_listings (fun _ _ _ _ _ _ us hl => match us, hl with | [_, _, _], _ => rfl) (fun vs H Q E h => ?_) (fun cdv A outer s H vs Q E hr h => ?_)
  · obtain ⟨a, b, t, ts, ds, pl, c0, z0, rfl, _⟩ := h
    rfl
  · obtain ⟨a, b, t, ts, ds, pl, c0, z0, rfl, hR, hT, hDs, hpl, hL0, hc0, hz0, q⟩ := h
    have nd := sc_listings.nd
    have hu := hu_of hr
    refine ⟨_, pss_cons (ps_set (i := 3) nd rfl (Or.inl rfl) (C8.pe_c (ok_trees T) hr (by decide) rfl (pa_cons (pv 0) (pa_cons (pv 1) pa_nil))))
      (pss_cons (ps_expr (C8.pe_c (ok_check_place T) hr (by decide) rfl (pa_cons (pv 0) (pa_cons (pv 2) pa_nil))))
      (pss_cons (ps_asg (pe_tup (pa_cons pe_dnewT (pa_cons (pe_lst (pa_cons (pe_tup (pa_cons (pe_lst pa_nil) (pa_cons (pe_lst (pa_cons (pv 2) pa_nil)) (pa_cons pe_int pa_nil)))) pa_nil)) (pa_cons pe_int pa_nil))))
          (pg_tup rfl (pgs_cons (pg_name (i := 4) nd rfl (Or.inr rfl)) (pgs_cons (pg_name (i := 5) nd rfl (Or.inl rfl)) (pgs_cons (pg_name (i := 6) nd rfl (Or.inl rfl)) pgs_nil)))))
      (pss_cons (ps_while PassesOwn.never (pt_cmpR (op_neNil hr.units0) (pv 5) (pe_lst pa_nil) (nomark _))
        (pss_cons (ps_asg (pe_bm0 PySem.F.plainAttrs_list PySem.F.slot_list_pop PySem.F.type_list_pop mt_pop (pv 5)) (pg_tup rfl (pgs_cons (pg_name (i := 7) nd rfl (Or.inl rfl)) (pgs_cons (pg_name (i := 8) nd rfl (Or.inl rfl)) (pgs_cons (pg_name (i := 9) nd rfl (Or.inl rfl)) pgs_nil)))))
        (pss_cons (ps_if (pt_cmpR (op_neNil hr.units0) (pv 8) (pe_lst pa_nil) (nomark _))
          (pss_cons (ps_for PassesOwn.never rfl (pi_range2 (by rfl) T.n_range (pa_cons (pv 9) (pa_cons (pe_callB call_len_seq (by rfl) T.n_len PySem.boot_len (pa_cons (pv 3) pa_nil)) pa_nil))) (pg_name (i := 10) nd rfl (Or.inl rfl))
            (pss_one (ps_expr (pe_bm PySem.F.plainAttrs_list PySem.F.slot_list_append PySem.F.type_list_append mt_append (pv 5)
              (pa_cons (pe_op op_catT (C8.pe_c (ok_looked_at T) hr (by decide) rfl (pa_cons (pv 3) (pa_cons (pv 10) (pa_cons (pv 7) (pa_cons (pv 8) pa_nil))))) (pe_tup (pa_cons (pv 10) pa_nil))) pa_nil)))))
            (pss_one ps_continue)) pss_nil)
        (pss_cons (ps_set (i := 6) nd rfl (Or.inl rfl) (pe_op op_add (pv 6) pe_int))
        (pss_cons (ps_if (pt_cmpR op_gt (pv 6) (C8.pe_gc (by rfl) T.v_MOST_LISTED) (nomark _)) pss_never pss_nil)
        (pss_one (ps_dput hu (pv 4) (pe_tupleOf (by rfl) T.n_tuple (pv 7)) (pe_op op_add (pe_dget2 hu (pv 4) (pe_tupleOf (by rfl) T.n_tuple (pv 7)) pe_int ⟨rfl, rfl, rfl, rfl⟩) pe_int) rfl)))))))
      (pss_one (ps_ret (pe_lc (own := [("noted", 7)]) (g := gName 7) (tt := tYes) rfl nd (pi_list (pe_callB (ST.call_sortedDT rfl (k := 5) (hr.mono (by decide))) (by rfl) T.n_sorted (by decide +kernel) (pa_cons (pv 4) pa_nil))) (blkOk_by (N := ["tree", "deeds", "place", "shapes", "found", "waiting", "many", "noted", "left", "least", "time"]) (sc := defScope s_listings) (by decide +kernel))
            (fun _ _ _ _ _ => pg_name (i := 7) nd rfl (Or.inl rfl)) (fun _ _ _ _ _ => pts_nil) (fun _ _ _ _ _ => pe_tup (pa_cons (pe_callTy (clistK (K := K)) (by rfl) T.n_list (by decide +kernel) (pa_cons (pv 7) pa_nil)) (pa_cons (pe_dget hu (pv 4) (pv 7) (fun _ _ => rfl)) pa_nil))))))))), ?_⟩
    refine ⟨_, rfl, _, rfl, a, b, t, ts, ds, rfl, hR, hT, hDs, fun sh H1 s1 nsh hsh => ?_⟩
    have hsh : PRow K H1 sh (t :: ts) := hsh
    refine ⟨_, rfl, _, rfl, a, t, pl, rfl, hT.gx (sgx s1), hpl, fun H2 s2 => ?_⟩
    have s12 := s1.trans s2
    have hsh2 := hsh.same s2
    refine fun D nD => ?_
    have s3 := snew (o := .dT []) s12 nD
    have n0D : H D = none := s12.free nD
    have hD3 : upd H2 D (.dT []) D = some (.dT []) := upd_same
    have hsh3 := hsh2.same (same_new (o := .dT []) nD)
    generalize upd H2 D (.dT []) = H3 at s3 hD3 hsh3
    refine ⟨(by show 0 ≤ sizeLine; decide), fun N0 nN0 => ?_⟩
    have s4 := snew (o := .lst []) s3 nN0
    have hD4 := upd_at (o := .lst []) hD3 (ne_of_none hD3 nN0)
    have hN4 : upd H3 N0 (.lst []) N0 = some (.lst (natV [])) := upd_same
    have hsh4 := hsh3.same (same_new (o := .lst []) nN0)
    generalize upd H3 N0 (.lst []) = H4 at s4 hD4 hN4 hsh4
    refine ⟨_, rfl, (by show 1 ≤ sizeLine; decide), fun W0 nW0 => ?_⟩
    have s5 := snew (o := .lst [.int pl]) s4 nW0
    have hD5 := upd_at (o := .lst [.int pl]) hD4 (ne_of_none hD4 nW0)
    have hN5 := upd_at (o := .lst [.int pl]) hN4 (ne_of_none hN4 nW0)
    have hW5 : upd H4 W0 (.lst [.int pl]) W0 = some (.lst (natV [pl])) := upd_same
    have hsh5 := hsh4.same (same_new (o := .lst [.int pl]) nW0)
    generalize upd H4 W0 (.lst [.int pl]) = H5 at s5 hD5 hN5 hW5 hsh5
    refine ⟨(by show 3 ≤ sizeLine; decide), fun T0 nT0 => ?_⟩
    have s6 := snew (o := .tup [.ref N0, .ref W0, .int 0]) s5 nT0
    have hD6 := upd_at (o := .tup [.ref N0, .ref W0, .int 0]) hD5 (ne_of_none hD5 nT0)
    have hN6 := upd_at (o := .tup [.ref N0, .ref W0, .int 0]) hN5 (ne_of_none hN5 nT0)
    have hW6 := upd_at (o := .tup [.ref N0, .ref W0, .int 0]) hW5 (ne_of_none hW5 nT0)
    have hT6 : upd H5 T0 (.tup [.ref N0, .ref W0, .int 0]) T0 = some (.tup [.ref N0, .ref W0, .int 0]) := upd_same
    have hsh6 := hsh5.same (same_new (o := .tup [.ref N0, .ref W0, .int 0]) nT0)
    generalize upd H5 T0 (.tup [.ref N0, .ref W0, .int 0]) = H6 at s6 hD6 hN6 hW6 hT6 hsh6
    refine ⟨(by show 1 ≤ sizeLine; decide), fun L1 nL1 => ?_⟩
    have s7 := snew (o := .lst [.ref T0]) s6 nL1
    have n0L : H L1 = none := s6.free nL1
    have hIt6 : ItemAt L1 H6 T0 ⟨[], [pl], 0, c0, z0⟩ := ⟨N0, W0, hT6, hN6, hW6, ne_of_none hN6 nL1, ne_of_none hW6 nL1⟩
    have hIt7 := hIt6.same (same_new (o := .lst [.ref T0]) nL1)
    have hL7 : upd H6 L1 (.lst [.ref T0]) L1 = some (.lst [.ref T0]) := upd_same
    have hD7 := upd_at (o := .lst [.ref T0]) hD6 (ne_of_none hD6 nL1)
    have hDL : D ≠ L1 := ne_of_none hD6 nL1
    have hsh7 := hsh6.same (same_new (o := .lst [.ref T0]) nL1)
    have n_shD : sh ≠ D := by obtain ⟨qs, e, _⟩ := hsh2; exact ne_of_none e nD
    have n_shL : sh ≠ L1 := by obtain ⟨qs, e, _⟩ := hsh6; exact ne_of_none e nL1
    generalize upd H6 L1 (.lst [.ref T0]) = H7 at s7 hIt7 hL7 hD7 hsh7
    refine ⟨(by show 3 ≤ sizeLine; decide), fun U nU => ?_⟩
    have s8 := snew (o := .tup [.ref D, .ref L1, .int 0]) s7 nU
    have hU8 : upd H7 U (.tup [.ref D, .ref L1, .int 0]) U = some (.tup [.ref D, .ref L1, .int 0]) := upd_same
    have hD8 := upd_at (o := .tup [.ref D, .ref L1, .int 0]) hD7 (ne_of_none hD7 nU)
    have hL8 := upd_at (o := .tup [.ref D, .ref L1, .int 0]) hL7 (ne_of_none hL7 nU)
    have hIt8 := hIt7.same (same_new (o := .tup [.ref D, .ref L1, .int 0]) nU)
    have hsh8 := hsh7.same (same_new (o := .tup [.ref D, .ref L1, .int 0]) nU)
    generalize upd H7 U (.tup [.ref D, .ref L1, .int 0]) = H8 at s8 hU8 hD8 hL8 hIt8 hsh8
    refine ⟨U, _, rfl, SqT.of hU8, rfl, _, _, rfl, _, _, rfl, _, _, rfl, rfl, ?_⟩
    have sfD := soft_dT hD8
    have sfL := soft_lst hL8
    let ws : List Tr := t :: ts
    let W : Nat → L2.St → Hp → Prop := fun μ σ Hc => ∃ (us : List Addr) (items : List Itm) (Dc : Cnt) (many : Nat) (x7 x8 x9 x10 : Option V), σ = [some (.ref a), some (.ref b), some (.int pl), some (.ref sh), some (.ref D), some (.ref L1), some (.int many), x7, x8, x9, x10] ∧ Kp D L1 H8 Hc ∧
      Hc D = some (.dT (enc Dc)) ∧ Hc L1 = some (.lst (us.map V.ref)) ∧ Paired (ItemAt L1 Hc) us items ∧ μ = (items.map (·.z)).sum ∧ DInv ws pl c0 z0 items Dc many
    have inv0 : DInv ws pl c0 z0 [⟨[], [pl], 0, c0, z0⟩] [] 0 := by
      refine ⟨List.nodup_nil, fun e he => absurd he (by simp), rfl, by simp, by simp, fun it hit => ?_, fun Vs hV => .inr ⟨_, List.mem_singleton.mpr rfl, hV⟩⟩
      have : it = ⟨[], [pl], 0, c0, z0⟩ := by simpa using hit
      subst this
      refine ⟨hL0, by show 0 < (t :: ts).length; simp, fun c hc => ?_, by show 0 + 1 + 5 * z0 ≤ _; omega⟩
      have : c = pl := by simpa using hc
      subst this
      exact isP_lt hpl
    refine ⟨W, ⟨_, [T0], _, [], 0, none, none, none, none, rfl, Kp.refl _ _ _, hD8, hL8, .cons hIt8 .nil, rfl, inv0⟩, ?_⟩
    rintro μ σ Hc ⟨us, items, Dc, many, x7, x8, x9, x10, rfl, kp, hD, hL, hP, rfl, inv⟩
    have hlen_items : items.length ≤ 1000000 := by
      have := len_sum (items := items) fun it hit => (inv.ok it hit).lst.pos
      have := inv.z
      omega
    have hlen_D : Dc.length ≤ 5000 := by
      have h1 : ∀ {l : Cnt}, (∀ e ∈ l, 1 ≤ e.2) → l.length ≤ (l.map (·.2)).sum := fun {l} => by
        induction l with
        | nil => intro _; exact Nat.le_refl _
        | cons e r ih =>
          intro h
          have := h e List.mem_cons_self
          have := ih fun x hx => h x (List.mem_cons_of_mem _ hx)
          simp only [List.length_cons, List.map_cons, List.sum_cons]
          omega
      have h2 := h1 inv.pos
      have h3 := inv.sum
      have h4 := inv.tot
      omega
    refine ⟨_, rfl, (by show 0 ≤ sizeLine; decide), fun zz nzz => ⟨L1, zz, _, rfl, rfl, SqL.of (upd_at hL (ne_of_none hL nzz)), SqL.of upd_same, _, rfl, ?_⟩⟩
    have sz := same_new (o := .lst []) nzz
    have k1 := kp.same sz
    have hL2 := sz _ _ hL
    have hD2 := sz _ _ hD
    have hP2 : Paired (ItemAt L1 (upd Hc zz (.lst []))) us items := Pmap hP fun _ _ h => ItemAt.same sz h
    generalize upd Hc zz (.lst []) = Hd at sz k1 hL2 hD2 hP2
    by_cases hni : items = []
    · subst hni
      cases hP2
      refine iteF ⟨_, rfl, D, _, rfl, .inl hD2, fun e he => ?_, fun p bs kvs' np hperm hIK => ?_⟩
      · obtain ⟨y, hy, rfl⟩ := List.mem_map.mp he
        exact ⟨y.1.map fun (x : Nat) => (x : Int), by show keyOf y.1 = _; unfold keyOf; rw [List.map_map]; rfl⟩
      obtain ⟨D2, pD, rfl⟩ := ST.perm_map_inv hperm
      have hIK2 : Paired (fun (e : List Nat × Nat) (b : Addr) => Hd b = some (.tup (natV e.1))) D2 bs := by
        have gen : ∀ {l : Cnt} {bs : List Addr}, IsKeys Hd (enc l) bs → Paired (fun (e : List Nat × Nat) (b : Addr) => Hd b = some (.tup (natV e.1))) l bs := by
          intro l
          induction l with
          | nil => intro bs h; cases h; exact .nil
          | cons e r ih =>
            intro bs h
            cases h with
            | cons h1 h2 => exact .cons (by rw [← keyOf_kV]; exact h1) (ih h2)
        exact gen hIK
      have lb := Plen hIK2
      have lD2 : D2.length ≤ 5000 := by rw [pD.length_eq]; exact hlen_D
      have s30 := same_new (o := .lst (bs.map V.ref)) np
      have hp30 : upd Hd p (.lst (bs.map V.ref)) p = some (.lst (bs.map V.ref)) := upd_same
      generalize upd Hd p (.lst (bs.map V.ref)) = Hp0 at s30 hp30
      have hval : ∀ {l : Cnt} {V0 : List Nat} {m : Nat}, (l.map (·.1)).Nodup → (V0, m) ∈ l → valV (enc l) (keyOf V0) = some (V.int (m : Nat)) := by
        intro l
        induction l with
        | nil => intro V0 m _ h; cases h
        | cons e r ih =>
          intro V0 m hn h
          obtain ⟨h1, h2⟩ := List.nodup_cons.mp hn
          have e0 : enc (e :: r) = (keyOf e.1, V.int (e.2 : Nat)) :: enc r := rfl
          rw [e0]
          rcases List.mem_cons.mp h with rfl | h
          · exact valV_pos rfl
          · rw [valV_neg (fun z => h1 (List.mem_map.mpr ⟨_, h, (keyOf_inj z).symm⟩))]
            exact ih h2 h
      refine ⟨p, rfl, ⟨_, SqL.of hp30⟩, fun D3 nD3 => lc_it walk_list (fun i Hi => Same Hp0 Hi ∧ ∃ us : List Addr, Hi D3 = some (.lst (us.map V.ref)) ∧ Paired (fun u e => ∃ La, Hi u = some (.tup [.ref La, .int ((Prod.snd e : Nat) : Int)]) ∧ Hi La = some (.lst (natV (Prod.fst e))) ∧ La ≠ D3) us (D2.take i)) ⟨same_new nD3, [], upd_same, .nil⟩ (fun i Hi _ h => SqL.of (h.1 _ _ hp30)) (fun i v Hi Hx hi hI hy => ?_) (fun Hi hI => ?_)⟩
      · obtain ⟨sm, us, hu, hpu⟩ := hI
        obtain ⟨rfl, hx⟩ := hy
        rw [List.length_map, ← lb] at hi
        rw [List.getElem?_map] at hx
        have hb : bs[i]? = some (bs[i]'(by omega)) := List.getElem?_eq_getElem (by omega)
        generalize bs[i]'(by omega) = b0 at hb
        rw [hb] at hx
        cases hx
        obtain ⟨e, he, hbe⟩ := Pget hIK2 hb
        have hall := s30.trans sm
        have hb2 := hall _ _ hbe
        have etk : D2.take (i + 1) = D2.take i ++ [e] := by rw [List.take_succ, he]; rfl
        have lus : us.length ≤ 5000 := by
          have h1 := Plen hpu
          rw [List.length_take] at h1
          omega
        refine ⟨rfl, _, rfl, b0, _, rfl, .inr (SqT.of hb2), fun La nLa => ?_⟩
        have t1 := same_new (o := .lst (natV e.1)) nLa
        have hu1 := upd_at (o := .lst (natV e.1)) hu (ne_of_none hu nLa)
        have hLa : upd Hx La (.lst (natV e.1)) La = some (.lst (natV e.1)) := upd_same
        have nLD : La ≠ D3 := (ne_of_none hu nLa).symm
        generalize upd Hx La (.lst (natV e.1)) = Hy at t1 hu1 hLa
        have hv := hval inv.nd (pD.mem_iff.mp (List.mem_of_getElem? he) : (e.1, e.2) ∈ Dc)
        refine ⟨_, rfl, _, rfl, D, _, rfl, .inr ⟨enc Dc, keyOf e.1, b0, .inl (t1 _ _ (hall _ _ hD2)), rfl, by rw [keyOf_kV]; exact t1 _ _ hb2, hv.symm⟩, (by show 2 ≤ sizeLine; decide), fun T4 nT4 => ?_⟩
        have t2 := same_new (o := .tup [.ref La, .int (e.2 : Nat)]) nT4
        have hu2 := upd_at (o := .tup [.ref La, .int (e.2 : Nat)]) hu1 (ne_of_none hu1 nT4)
        have hLa2 := upd_at (o := .tup [.ref La, .int (e.2 : Nat)]) hLa (ne_of_none hLa nT4)
        have hT4 : upd Hy T4 (.tup [.ref La, .int (e.2 : Nat)]) T4 = some (.tup [.ref La, .int (e.2 : Nat)]) := upd_same
        have nT4D : T4 ≠ D3 := (ne_of_none hu1 nT4).symm
        generalize upd Hy T4 (.tup [.ref La, .int (e.2 : Nat)]) = Hz at t2 hu2 hLa2 hT4
        have t12 := t1.trans t2
        refine ⟨_, hu2, ?_, sput (sm.trans t12) nD3, us ++ [T4], ?_, ?_⟩
        · rw [List.length_map]
          exact Nat.lt_of_le_of_lt lus (by decide)
        · rw [upd_same, List.map_append]
          rfl
        · rw [etk]
          refine Paired.snoc (Pmap hpu fun u y ⟨Lb, q1, q2, q3⟩ => ⟨Lb, upd_at (t12 _ _ q1) (fun z => by rw [z] at q1; rw [hu] at q1; cases q1), upd_at (t12 _ _ q2) q3, q3⟩) ⟨La, upd_at hT4 nT4D, upd_at hLa2 nLD, nLD⟩
      · obtain ⟨sm, us, hu, hpu⟩ := hI
        rw [List.length_map, ← lb, List.take_length] at hpu
        have hsum := inv.sum
        have htot := inv.tot
        refine q D3 Hi us D2 (((k1.old s8 n0D n0L).trans s30).trans sm) hu (Pmap hpu fun _ _ ⟨La, q1, q2, _⟩ => ⟨La, q1, q2⟩) ((pD.map _).nodup_iff.mpr inv.nd) (fun e he => inv.pos e (pD.mem_iff.mp he)) ?_ (fun Vs hV => ?_)
        · rw [(pD.map (·.2)).sum_nat]
          omega
        · rcases inv.cov Vs hV with h | ⟨x, hx, _⟩
          · exact (pD.map (·.1)).mem_iff.mpr h
          · cases hx
    · obtain ⟨its, it, rfl⟩ : ∃ its it, items = its ++ [it] := ⟨items.dropLast, items.getLast hni, (List.dropLast_concat_getLast hni).symm⟩
      obtain ⟨us0, u, rfl, hP0, hu0⟩ := Psplit hP2
      have hne : (if true = true then !((us0 ++ [u]).map V.ref).isEmpty else ((us0 ++ [u]).map V.ref).isEmpty) = true := by simp
      rw [hne]
      refine iteT ⟨fun σ' H' => ∃ m', m' < ((its ++ [it]).map (·.z)).sum ∧ W m' σ' H', fun _ _ h => h, ?_⟩
      have hlast : ((us0 ++ [u]).map V.ref)[((us0 ++ [u]).map V.ref).length - 1]? = some (V.ref u) := by simp
      have hdrop : ((us0 ++ [u]).map V.ref).dropLast = us0.map V.ref := by rw [List.map_append]; exact List.dropLast_concat
      refine ⟨_, rfl, .inl ⟨rfl, _, SqL.of hL2⟩, L1, _, _, rfl, rfl, hL2, hlast, ?_⟩
      rw [hdrop]
      have notL : ∀ xs, Hd D ≠ some (.lst xs) := fun xs e => by rw [hD2] at e; cases e
      have kL : Kp D L1 Hd (upd Hd L1 (.lst (us0.map V.ref))) := (Kp.refl _ _ _).putL
      have hP3 : Paired (ItemAt L1 (upd Hd L1 (.lst (us0.map V.ref)))) us0 its := Pmap hP0 fun _ _ h => h.kp kL (soft_dT hD2) notL (soft_lst hL2)
      have hu3 := hu0.kp kL (soft_dT hD2) notL (soft_lst hL2)
      have k2 := k1.putL (u := .lst (us0.map V.ref))
      have hD3' := upd_at (o := .lst (us0.map V.ref)) hD2 hDL
      have hL3 : upd Hd L1 (.lst (us0.map V.ref)) L1 = some (.lst (us0.map V.ref)) := upd_same
      generalize upd Hd L1 (.lst (us0.map V.ref)) = He at hP3 hu3 k2 hD3' hL3
      obtain ⟨Na, Wa, g1, g2, g3, g4, g5⟩ := id hu3
      refine ⟨u, _, rfl, SqT.of g1, rfl, _, _, rfl, _, _, rfl, _, _, rfl, rfl, ?_⟩
      refine ⟨_, rfl, (by show 0 ≤ sizeLine; decide), fun z2 nz2 => ⟨Wa, z2, _, rfl, rfl, SqL.of (upd_at g3 (ne_of_none g3 nz2)), SqL.of upd_same, _, rfl, ?_⟩⟩
      have sz2 := same_new (o := .lst []) nz2
      have k3 := k2.same sz2
      have hD4' := sz2 _ _ hD3'
      have hL4 := sz2 _ _ hL3
      have f1 := sz2 _ _ g1
      have f2 := sz2 _ _ g2
      have f3 := sz2 _ _ g3
      have hP4 : Paired (ItemAt L1 (upd He z2 (.lst []))) us0 its := Pmap hP3 fun _ _ h => ItemAt.same sz2 h
      generalize upd He z2 (.lst []) = Hf at sz2 k3 hD4' hL4 f1 f2 f3 hP4
      have hok := inv.ok it (by simp)
      rcases hW : it.W with _ | ⟨p, r⟩
      · rw [hW] at f3
        obtain ⟨inv', hm, hz⟩ := inv.done hW
        refine iteF ⟨_, rfl, _, _, rfl, rfl, _, rfl, _, _, rfl, rfl, _, rfl, ?_⟩
        rw [decide_eq_false (by omega : ¬ (5000 : Int) < ((many : Nat) : Int) + 1)]
        refine iteF ⟨_, rfl, D, rfl, .inr ⟨_, .inl hD4'⟩, _, rfl, .inl ⟨Na, _, rfl, SqL.of f2, fun q1 nq1 => ?_⟩⟩
        have sq := same_new (o := .tup (natV it.N)) nq1
        have hq1 : upd Hf q1 (.tup (natV it.N)) q1 = some (.tup ((keyOf it.N).map kV)) := by rw [upd_same, keyOf_kV]
        have hD5' := sq _ _ hD4'
        have hL5 := sq _ _ hL4
        have f22 := sq _ _ f2
        have hP5 : Paired (ItemAt L1 (upd Hf q1 (.tup (natV it.N)))) us0 its := Pmap hP4 fun _ _ h => ItemAt.same sq h
        have k4 := k3.same sq
        generalize upd Hf q1 (.tup (natV it.N)) = Hg at sq hq1 hD5' hL5 f22 hP5 k4
        refine ⟨_, DGet.t hD5' hq1, _, _, getC_val Dc it.N, rfl, _, rfl, _, rfl, .inl ⟨Na, _, rfl, SqL.of f22, fun q2 nq2 => ?_⟩⟩
        have sr := same_new (o := .tup (natV it.N)) nq2
        have hq2 : upd Hg q2 (.tup (natV it.N)) q2 = some (.tup ((keyOf it.N).map kV)) := by rw [upd_same, keyOf_kV]
        have hD6' := sr _ _ hD5'
        have hL6 := sr _ _ hL5
        have hP6 : Paired (ItemAt L1 (upd Hg q2 (.tup (natV it.N)))) us0 its := Pmap hP5 fun _ _ h => ItemAt.same sr h
        have k5 := k4.same sr
        generalize upd Hg q2 (.tup (natV it.N)) = Hh at sr hq2 hD6' hL6 hP6 k5
        refine ⟨D, _, rfl, DPut.t hD6' hq2 (by unfold enc; rw [List.length_map]; exact Nat.lt_of_le_of_lt hlen_D (by decide)), ?_⟩
        have e : putK (enc Dc) (keyOf it.N) (V.int ((getC Dc it.N : Nat) + 1 : Int)) = enc (addC Dc it.N) := (addC_enc Dc it.N inv.nd).symm
        rw [e]
        have kD : Kp D L1 Hh (upd Hh D (.dT (enc (addC Dc it.N)))) := (Kp.refl _ _ _).putD
        refine ⟨_, hz, us0, its, addC Dc it.N, many + 1, _, _, _, _, rfl, k5.putD, upd_same, upd_at hL6 hDL.symm, Pmap hP6 fun _ _ h => h.kp kD (soft_dT hD6') (fun xs e => by rw [hD6'] at e; cases e) (soft_lst hL6), rfl, inv'⟩
      · rw [hW] at f3
        obtain ⟨fc, fz, inv', hz⟩ := inv.more hR.1 hW
        have hshf := hsh8.kp k3 sfD sfL n_shD n_shL
        obtain ⟨rs, r1, r2⟩ := id hshf
        have hl0 : (rs.map V.ref).length = ws.length := by rw [List.length_map, Plen r2]
        have hn100 : ws.length ≤ 101 := by have := hR.1.len; have := hR.2.2; show (t :: ts).length ≤ 101; omega
        have hkn : it.k < ws.length := hok.k
        have en : (((rs.map V.ref).length : Int) - (it.k : Int)).toNat = ws.length - it.k := by rw [hl0]; omega
        refine iteT ⟨_, rfl, _, rfl, sh, _, rfl, .inl (SqL.of r1), _, _, rfl, ⟨by omega, by omega, by omega, by rw [hl0]; omega⟩, ?_⟩
        rw [en]
        refine for_it walk_range (fun i σ Hi => ∃ (us' : List Addr) (x10 : Option V), σ = [some (.ref a), some (.ref b), some (.int pl), some (.ref sh), some (.ref D), some (.ref L1), some (.int many), some (.ref Na), some (.ref Wa), some (.int it.k), x10] ∧ Kp D L1 H8 Hi ∧
            Hi D = some (.dT (enc Dc)) ∧ Hi L1 = some (.lst ((us0 ++ us').map V.ref)) ∧ Paired (ItemAt L1 Hi) (us0 ++ us') (its ++ (List.range i).map fun i => ⟨(lookAt ws (it.k + i) it.N (p :: r)).1, (lookAt ws (it.k + i) it.N (p :: r)).2, it.k + i, fc (it.k + i), fz (it.k + i)⟩) ∧ Hi Na = some (.lst (natV it.N)) ∧ Hi Wa = some (.lst (natV (p :: r))))
          ⟨[], _, rfl, k3, hD4', by rw [List.append_nil]; exact hL4, by rw [List.append_nil]; simpa using hP4, f2, f3⟩ (fun _ _ _ _ _ => True.intro) (fun i v σ Hi Hx hi hI hy => ?_) (fun σ Hi hI => ?_)
        · obtain ⟨us', x10', rfl, kk, dD, dL, dP, dN, dW⟩ := hI
          obtain ⟨rfl, rfl⟩ := hy
          have hτ : it.k + i < ws.length := by omega
          have hst := hR.1.step_in (k := it.k) (τ := it.k + i) (p := p) (r := r) (by omega) hτ (by rw [← hW]; exact hok.w)
          have hshi := hsh8.kp kk sfD sfL n_shD n_shL
          have hN5z := hok.n
          rw [hW, List.length_cons] at hN5z
          refine ⟨_, rfl, .inl ⟨rfl, _, SqL.of dL⟩, _, rfl, _, rfl, _, rfl, _, rfl, sh, Na, Wa, ws, it.k + i, p, it.N, r, rfl, hshi, hτ, hR.1.wf _ (at_mem hτ), dN, dW, by omega, hst.1, hst.2.1, fun v2 F2 W2 Hj sj nF2 nW2 hv2 hF2 hW2 => ?_⟩
          refine ⟨_, rfl, (by show 1 ≤ sizeLine; decide), fun tt ntt => ?_⟩
          have hdLj := sj _ _ dL
          have n2 : F2 ≠ L1 := (ne_of_none dL nF2).symm
          have n3 : W2 ≠ L1 := (ne_of_none dL nW2).symm
          have st := snew (o := .tup [.int ((it.k : Int) + (i : Int))]) sj ntt
          have st0 := same_new (o := .tup [.int ((it.k : Int) + (i : Int))]) ntt
          have htt : upd Hj tt (.tup [.int ((it.k : Int) + (i : Int))]) tt = some (.tup [.int ((it.k : Int) + (i : Int))]) := upd_same
          have hv3 := st0 _ _ hv2
          have hF3 := st0 _ _ hF2
          have hW3 := st0 _ _ hW2
          generalize upd Hj tt (.tup [.int ((it.k : Int) + (i : Int))]) = Hk at st htt hv3 hF3 hW3
          refine ⟨v2, tt, _, _, rfl, rfl, SqT.of hv3, SqT.of htt, by simp, (by show 2 + 1 ≤ sizeLine; decide), fun h => absurd h (by simp), fun _ z nz => ?_⟩
          have su := snew (o := .tup [.ref F2, .ref W2, .int ((it.k : Int) + (i : Int))]) st nz
          have su0 := same_new (o := .tup [.ref F2, .ref W2, .int ((it.k : Int) + (i : Int))]) nz
          have hz4 : upd Hk z (.tup [.ref F2, .ref W2, .int ((it.k : Int) + (i : Int))]) z = some (.tup [.ref F2, .ref W2, .int ((it.k : Int) + (i : Int))]) := upd_same
          have hF4 := su0 _ _ hF3
          have hW4 := su0 _ _ hW3
          have eup : upd Hk z (.tup ([V.ref F2, V.ref W2] ++ [V.int ((it.k : Int) + (i : Int))])) = upd Hk z (.tup [.ref F2, .ref W2, .int ((it.k : Int) + (i : Int))]) := rfl
          rw [eup]
          generalize upd Hk z (.tup [.ref F2, .ref W2, .int ((it.k : Int) + (i : Int))]) = Hl at su hz4 hF4 hW4
          have dLl := su _ _ dL
          have dDl := su _ _ dD
          have lenU : (us0 ++ us').length ≤ 1000000 + 101 := by
            rw [Plen dP, List.length_append, List.length_map, List.length_range]
            rw [List.length_append] at hlen_items
            omega
          refine ⟨L1, _, _, rfl, rfl, dLl, ?_, us' ++ [z], _, rfl, (kk.same su).putL, upd_at dDl hDL, ?_, ?_, upd_at (su _ _ dN) g4, upd_at (su _ _ dW) g5⟩
          · rw [List.length_map]
            exact Nat.lt_of_le_of_lt lenU (by decide)
          · rw [upd_same, ← List.append_assoc, List.map_append (l₁ := us0 ++ us')]
            rfl
          · rw [List.range_succ, List.map_append (l₁ := List.range i), ← List.append_assoc, ← List.append_assoc]
            have kL2 : Kp D L1 Hl (upd Hl L1 (.lst ((us0 ++ us').map V.ref ++ [V.ref z]))) := (Kp.refl _ _ _).putL
            refine Paired.snoc (Pmap dP fun _ _ h => (ItemAt.same su h).kp kL2 (soft_dT dDl) (fun xs e => by rw [dDl] at e; cases e) (soft_lst dLl)) ?_
            exact ItemAt.kp kL2 (soft_dT dDl) (fun xs e => by rw [dDl] at e; cases e) (soft_lst dLl) ⟨F2, W2, hz4, hF4, hW4, n2, n3⟩
        · obtain ⟨us', x10', rfl, kk, dD, dL, dP, dN, dW⟩ := hI
          exact ⟨_, hz, us0 ++ us', _, Dc, many, _, _, _, _, rfl, kk, dD, dL, dP, rfl, inv'⟩
end
end NW
set_option Elab.async false
set_option linter.all false
set_option maxRecDepth 100000
set_option maxHeartbeats 1000000
/-! W28: the law's draws. -/
namespace NW
open PySem PySem.Spec PyProof.Rows L2
section
variable {P : Program} {w : World} {K : Frag} {mg : Str → Option Value} {base : Heap}
def spCell (K : Frag) : Sp := fun vs H Q _ => ∃ (a : Addr) (l : List Int), vs = [.ref a, .int 0] ∧ SqL K H a (l.map V.int) ∧ ∀ i, Q (.int i) H
theorem sc_Lcell : FnScope ["_law_script", "_law_index"] ["_law_script", "_law_index"] (defScope s_Lcell) := ⟨rfl, rfl, rfl, by decide +kernel, rfl, by decide +kernel, by decide +kernel⟩
theorem ok_Lcell (T : Txt K mg) : Cal P w K mg base 1 "_law_cell" (spCell K) [] := by
  refine cal T.f_Lcell T.g_Lcell sc_Lcell (fun _ _ _ _ _ _ us hl => match us, hl with | [_, _], _ => rfl) (fun vs H Q E h => ?_) (fun cdv A outer s H vs Q E hr h => ?_)
  · obtain ⟨a, l, rfl, _⟩ := h
    rfl
  · obtain ⟨a, l, rfl, ha, q⟩ := h
    refine ⟨_, pss_cons (ps_if (pt_cmpR op_lt (pv 1) (pe_callB call_len_seq (by rfl) T.n_len PySem.boot_len (pa_cons (pv 0) pa_nil)) (nomark _)) (pss_one (ps_ret (pe_ix ix_list (pv 0) (pv 1) (fun _ _ => rfl)))) pss_nil) (pss_one (ps_ret pe_int)), ?_⟩
    refine ⟨_, rfl, _, rfl, a, _, rfl, .inl ha, _, _, rfl, rfl, _, rfl, ?_⟩
    cases l with
    | nil => exact iteF (q 0)
    | cons i l =>
      rw [decide_eq_true (by simp : (0 : Int) < (((i :: l).map V.int).length : Int))]
      exact iteT ⟨_, rfl, _, rfl, a, _, _, _, rfl, rfl, ha, atI_nat (j := 0) rfl, q i⟩
/-- the draws' state -/
def RngAt (H : Hp) (r : Addr) : Prop := ∃ x y z : Int, H r = some (.lst [.int x, .int y, .int z])
theorem RngAt.same {H H' : Hp} {r : Addr} (s : Same H H') (h : RngAt H r) : RngAt H' r := let ⟨x, y, z, e⟩ := h; ⟨x, y, z, s _ _ e⟩
def spRng : Sp := fun vs H Q _ => ∃ i : Int, vs = [.int i] ∧ ∀ r H', Same H H' → H r = none → RngAt H' r → Q (.ref r) H'
theorem sc_Lrng : FnScope ["_law_cell_here"] ["_law_cell_here"] (defScope s_Lrng) := ⟨rfl, rfl, rfl, by decide +kernel, rfl, by decide +kernel, by decide +kernel⟩
theorem ok_Lrng (T : Txt K mg) : Cal P w K mg base 1 "_law_rng" spRng [] := by
  refine cal T.f_Lrng T.g_Lrng sc_Lrng (fun _ _ _ _ _ _ us hl => match us, hl with | [_], _ => rfl) (fun vs H Q E h => ?_) (fun cdv A outer s H vs Q E hr h => ?_)
  · obtain ⟨i, rfl, _⟩ := h
    rfl
  · obtain ⟨i, rfl, q⟩ := h
    refine ⟨_, pss_one (ps_ret (pe_lst (pa_cons (pe_callB call_abs (by rfl) T.n_abs (by decide +kernel) (pa_cons (pv 0) pa_nil)) (pa_cons (pe_op op_mod (pe_callTy call_int1 (by rfl) T.n_int (by decide +kernel) (pa_cons (pv 0) pa_nil)) pe_int) (pa_cons pe_int pa_nil))))), ?_⟩
    refine ⟨_, rfl, i, rfl, _, rfl, .inl ⟨i, rfl, _, _, rfl, rfl, (by show (0 : Int) < 2147483629; decide), (by show 3 ≤ sizeLine; decide), fun r nr => ?_⟩⟩
    exact q r _ (same_new nr) nr ⟨_, _, _, upd_same⟩
def spDraw : Sp := fun vs H Q _ => ∃ (r : Addr) (n : Nat), vs = [.ref r, .int n] ∧ RngAt H r ∧ 0 < n ∧ n < 1000000 ∧ ∀ (d : Nat) H', d < n → Sb r H H' → RngAt H' r → Q (.int d) H'
theorem sc_Ldraw : FnScope ["_law_rng_here", "_law_limit", "_law_digit", "_law_mixed"] ["_law_rng_here", "_law_limit"] (defScope s_Ldraw) := ⟨rfl, rfl, rfl, by decide +kernel, rfl, by decide +kernel, by decide +kernel⟩
theorem mod_nat {x : Int} {n : Nat} (h : 0 < n) : ∃ d : Nat, d < n ∧ x % (n : Int) = (d : Int) := by
  have h1 := Int.emod_nonneg x (b := (n : Int)) (by omega)
  have h2 := Int.emod_lt_of_pos x (b := (n : Int)) (by omega)
  exact ⟨(x % (n : Int)).toNat, by omega, by omega⟩
theorem ok_Ldraw (T : Txt K mg) : Cal P w K mg base 1 "_law_draw" spDraw [] := by
  refine cal T.f_Ldraw T.g_Ldraw sc_Ldraw (fun _ _ _ _ _ _ us hl => match us, hl with | [_, _], _ => rfl) (fun vs H Q E h => ?_) (fun cdv A outer s H vs Q E hr h => ?_)
  · obtain ⟨r, n, rfl, _⟩ := h
    rfl
  · obtain ⟨r, n, rfl, ⟨x, y, z, e⟩, hn, hn2, q⟩ := h
    have nd := sc_Ldraw.nd
    refine ⟨_, pss_cons (ps_if (pt_cmpR op_ge (pe_ix ix_list (pv 0) pe_int (fun _ _ => rfl)) (pe_op op_pow pe_int pe_int) (nomark _))
        (pss_cons (ps_set (i := 2) nd rfl (Or.inl rfl) (pe_op op_mod (pe_callTy call_int1 (by rfl) T.n_int (by decide +kernel) (pa_cons (pe_ix ix_list (pv 0) pe_int (fun _ _ => rfl)) pa_nil)) (pv 1)))
        (pss_cons (ps_asg (pe_op op_fdiv (pe_ix ix_list (pv 0) pe_int (fun _ _ => rfl)) (pv 1)) (pg_sub (pv 0) pe_int set_list))
        (pss_one (ps_ret (pv 2))))) pss_nil)
      (pss_cons (ps_asg (pe_op op_add (pe_ix ix_list (pv 0) pe_int (fun _ _ => rfl)) pe_int) (pg_sub (pv 0) pe_int set_list))
      (pss_cons (ps_set (i := 3) nd rfl (Or.inl rfl) (pe_op op_mod (pe_callTy call_int1 (by rfl) T.n_int (by decide +kernel) (pa_cons (pe_op op_mul (pe_op op_add (pe_op op_add (pe_ix ix_list (pv 0) pe_int (fun _ _ => rfl)) (pe_op op_mul pe_int (pe_ix ix_list (pv 0) pe_int (fun _ _ => rfl)))) pe_int) pe_int) pa_nil)) pe_int))
      (pss_cons (ps_set (i := 3) nd rfl (Or.inl rfl) (pe_op op_mod (pe_callTy call_int1 (by rfl) T.n_int (by decide +kernel) (pa_cons (pe_op op_mul (pv 3) (pe_op op_add (pe_op op_fdiv (pv 3) pe_int) pe_int)) pa_nil)) pe_int))
      (pss_one (ps_ret (pe_op op_mod (pe_callTy call_int1 (by rfl) T.n_int (by decide +kernel) (pa_cons (pe_op op_mod (pe_callTy call_int1 (by rfl) T.n_int (by decide +kernel) (pa_cons (pe_op op_add (pe_op op_fdiv (pv 3) pe_int) (pe_op op_mul (pe_op op_mod (pe_callTy call_int1 (by rfl) T.n_int (by decide +kernel) (pa_cons (pv 3) pa_nil)) pe_int) pe_int)) pa_nil)) pe_int) pa_nil)) (pv 1))))))), ?_⟩
    refine ⟨_, rfl, r, _, _, _, rfl, rfl, SqL.of e, atI_nat (j := 0) rfl, _, _, rfl, rfl, ⟨by decide, by decide, by decide⟩, _, _, rfl, rfl, _, rfl, ?_⟩
    have hn0 : (0 : Int) < (n : Int) := by omega
    have ixz : ∀ (H0 : Hp) (a b c : Int), H0 r = some (.lst [.int a, .int b, .int c]) → SqL K H0 r [.int a, .int b, .int c] := fun _ _ _ _ h => SqL.of h
    have fin : ∀ (H3 : Hp) (x : Int), Sb r H H3 → RngAt H3 r → Q (V.int (x % (n : Int))) H3 := fun H3 x s3 h3 => by
      obtain ⟨d, hd, ed⟩ := mod_nat (x := x) hn
      rw [ed]
      exact q d _ hd s3 h3
    refine ite2 (fun _ => ?_) (fun _ => ?_)
    · refine ⟨_, rfl, r, _, _, _, rfl, rfl, SqL.of e, atI_nat (j := 0) rfl, .inl ⟨x, rfl, _, rfl, _, _, rfl, rfl, hn0, ?_⟩⟩
      refine ⟨_, rfl, r, _, _, _, rfl, rfl, SqL.of e, atI_nat (j := 0) rfl, _, rfl, _, _, rfl, rfl, ⟨hn0, by omega⟩, _, rfl, r, _, _, _, rfl, rfl, e, (ixN_nat (by decide) : ixN 3 ((0 : Nat) : Int) = some 0), ?_⟩
      exact ⟨_, rfl, fin _ _ sb_upd ⟨_, _, _, upd_same⟩⟩
    · refine ⟨_, rfl, r, _, _, _, rfl, rfl, SqL.of e, atI_nat (j := 2) rfl, _, _, rfl, rfl, _, rfl, r, _, _, _, rfl, rfl, e, (ixN_nat (by decide) : ixN 3 ((2 : Nat) : Int) = some 2), ?_⟩
      have e2 : upd H r (.lst ([V.int x, V.int y, V.int z].set 2 (.int (z + 1)))) r = some (.lst [.int x, .int y, .int (z + 1)]) := upd_same
      have sb : Sb r H (upd H r (.lst ([V.int x, V.int y, V.int z].set 2 (.int (z + 1))))) := sb_upd
      generalize upd H r (.lst ([V.int x, V.int y, V.int z].set 2 (.int (z + 1)))) = H2 at e2 sb
      refine ⟨_, rfl, r, _, _, _, rfl, rfl, SqL.of e2, atI_nat (j := 1) rfl, _, rfl, r, _, _, _, rfl, rfl, SqL.of e2, atI_nat (j := 2) rfl, _, _, rfl, rfl, .inl (by decide), _, _, rfl, rfl, _, _, rfl, rfl, _, _, rfl, rfl, .inr (by decide), .inl ⟨_, rfl, _, _, rfl, rfl, (by show (0 : Int) < 2147483647; decide), ?_⟩⟩
      have m1 := Int.emod_nonneg ((y + 7919 * (z + 1) + 1) * 48271) (b := 2147483647) (by decide)
      have m2 := Int.emod_lt_of_pos ((y + 7919 * (z + 1) + 1) * 48271) (b := 2147483647) (by decide)
      refine ⟨_, rfl, _, rfl, _, _, rfl, rfl, ⟨by decide, by decide⟩, _, _, rfl, rfl, _, _, rfl, rfl, .inl ⟨by omega, by omega⟩, .inl ⟨_, rfl, _, _, rfl, rfl, (by show (0 : Int) < 2147483587; decide), ?_⟩⟩
      refine ⟨_, rfl, _, _, rfl, rfl, ⟨by decide, by decide⟩, _, rfl, .inl ⟨_, rfl, _, _, rfl, rfl, (by show (0 : Int) < 7919; decide), _, _, rfl, rfl, .inr ⟨by decide, by decide⟩, _, _, rfl, rfl, .inl ⟨_, rfl, _, _, rfl, rfl, (by show (0 : Int) < 2147483399; decide), .inl ⟨_, rfl, _, rfl, _, _, rfl, rfl, hn0, ?_⟩⟩⟩⟩
      exact fin _ _ sb ⟨_, _, _, e2⟩
end
end NW
set_option Elab.async false
set_option linter.all false
set_option maxRecDepth 100000
set_option maxHeartbeats 1000000
/-! W29: pick, copy. -/
namespace NW
open PySem PySem.Spec PyProof.Rows L2
section
variable {P : Program} {w : World} {K : Frag} {mg : Str → Option Value} {base : Heap}
def spPick : Sp := fun vs H Q _ => ∃ (r p : Addr) (xs : List V), vs = [.ref r, .ref p] ∧ RngAt H r ∧ H p = some (.lst xs) ∧ p ≠ r ∧ xs ≠ [] ∧ xs.length < 1000000 ∧ ∀ x H', x ∈ xs → Sb r H H' → RngAt H' r → Q x H'
theorem sc_Lpick : FnScope ["_law_rng_here", "_law_items"] ["_law_rng_here", "_law_items"] (defScope s_Lpick) := ⟨rfl, rfl, rfl, by decide +kernel, rfl, by decide +kernel, by decide +kernel⟩
theorem ok_Lpick (T : Txt K mg) : Cal P w K mg base 2 "_law_pick" spPick [] := by
  refine cal T.f_Lpick T.g_Lpick sc_Lpick (fun _ _ _ _ _ _ us hl => match us, hl with | [_, _], _ => rfl) (fun vs H Q E h => ?_) (fun cdv A outer s H vs Q E hr h => ?_)
  · obtain ⟨r, p, xs, rfl, _⟩ := h
    rfl
  · obtain ⟨r, p, xs, rfl, hR, hp, hne, hx, hl, q⟩ := h
    refine ⟨_, pss_one (ps_ret (pe_ix ix_list (pv 1) (C8.pe_c (ok_Ldraw T) hr (by decide) rfl (pa_cons (pv 0) (pa_cons (pe_callB call_len_seq (by rfl) T.n_len PySem.boot_len (pa_cons (pv 1) pa_nil)) pa_nil))) (fun _ _ => rfl))), ?_⟩
    refine ⟨_, rfl, _, rfl, _, rfl, p, _, rfl, .inl (SqL.of hp), r, xs.length, rfl, hR, List.length_pos_iff.mpr hx, hl, fun d H' hd sb hR' => ?_⟩
    exact ⟨p, xs, _, xs[d], rfl, rfl, SqL.of (sb _ _ hne hp), atI_nat (List.getElem?_eq_getElem hd), q _ _ (List.getElem_mem hd) sb hR'⟩
/-! copies -/
def LRowD (H : Hp) (rd : Addr × Addr) : Nd → Prop
  | .fol o es => ∃ kvs, H rd.1 = some (.lst [.str "folder", .int o, .ref rd.2]) ∧ H rd.2 = some (.dK kvs) ∧ kvs.Perm (dkv es)
  | .fil o => H rd.1 = some (.lst [.str "file", .int o, .non]) ∧ rd.2 = rd.1
  | .gon o a => H rd.1 = some (.lst [.str "gone", .int o, .int a]) ∧ rd.2 = rd.1
/-- a law's tree of one's own: the rows and their dicts -/
def LTreeD (H : Hp) (a : Addr) (rds : List (Addr × Addr)) (t : Tr) : Prop := H a = some (.lst (rds.map fun rd => V.ref rd.1)) ∧ Paired (LRowD H) rds t ∧ (rds.map (·.2)).Nodup
theorem LRowD.row {H : Hp} {rd : Addr × Addr} {nd : Nd} (h : LRowD H rd nd) : LRow H rd.1 nd := by
  cases nd with
  | fol o es => obtain ⟨kvs, h1, h2, h3⟩ := h; exact ⟨rd.2, kvs, h1, h2, h3⟩
  | fil o => exact h.1
  | gon o a => exact h.1
theorem LRowD.rows {H : Hp} : ∀ {rds : List (Addr × Addr)} {t : Tr}, Paired (LRowD H) rds t → Paired (LRow H) (rds.map (·.1)) t
  | _, _, .nil => .nil
  | _, _, .cons r p => .cons r.row (LRowD.rows p)
theorem LTreeD.tree {H : Hp} {a : Addr} {rds : List (Addr × Addr)} {t : Tr} (h : LTreeD H a rds t) (ht : t ≠ []) : LTree H a t := by
  obtain ⟨h1, h2, _⟩ := h
  refine ⟨rds.map (·.1), by rw [List.map_map]; exact h1, fun z => ?_, LRowD.rows h2⟩
  have := Plen h2
  rw [List.map_eq_nil_iff.mp z] at this
  exact ht (List.length_eq_zero_iff.mp this.symm)
theorem LRowD.sb {D : Addr} {H H' : Hp} {rd : Addr × Addr} {nd : Nd} (s : Sb D H H') (n1 : rd.1 ≠ D) (n2 : rd.2 ≠ D) (h : LRowD H rd nd) : LRowD H' rd nd := by
  cases nd with
  | fol o es => obtain ⟨kvs, h1, h2, h3⟩ := h; exact ⟨kvs, s _ _ n1 h1, s _ _ n2 h2, h3⟩
  | fil o => exact ⟨s _ _ n1 h.1, h.2⟩
  | gon o a => exact ⟨s _ _ n1 h.1, h.2⟩
theorem LRowD.same {H H' : Hp} {rd : Addr × Addr} {nd : Nd} (s : Same H H') (h : LRowD H rd nd) : LRowD H' rd nd := by
  cases nd with
  | fol o es => obtain ⟨kvs, h1, h2, h3⟩ := h; exact ⟨kvs, s _ _ h1, s _ _ h2, h3⟩
  | fil o => exact ⟨s _ _ h.1, h.2⟩
  | gon o a => exact ⟨s _ _ h.1, h.2⟩
theorem LRowD.has {H : Hp} {rd : Addr × Addr} {nd : Nd} (h : LRowD H rd nd) : (∃ o, H rd.1 = some o) ∧ ∃ o, H rd.2 = some o := by
  cases nd with
  | fol o es => obtain ⟨kvs, h1, h2, h3⟩ := h; exact ⟨⟨_, h1⟩, _, h2⟩
  | fil o => exact ⟨⟨_, h.1⟩, _, h.2 ▸ h.1⟩
  | gon o a => exact ⟨⟨_, h.1⟩, _, h.2 ▸ h.1⟩
theorem Pmem {α β : Type} {F : α → β → Prop} : ∀ {l₁ : List α} {l₂ : List β} {a : α}, Paired F l₁ l₂ → a ∈ l₁ → ∃ b, F a b
  | _, _, _, .nil, h => by cases h
  | _, _, a, .cons r p, h => by
    rcases List.mem_cons.mp h with rfl | h
    · exact ⟨_, r⟩
    · exact Pmem p h
def spCopy : Sp := fun vs H Q _ => ∃ (a : Addr) (t : Tr), vs = [.ref a] ∧ LTree H a t ∧ t.length ≤ 1000 ∧ ∀ r rds H', Same H H' → H r = none → (∀ rd ∈ rds, H rd.2 = none ∧ H rd.1 = none) → LTreeD H' r rds t → Q (.ref r) H'
theorem sc_Lcopy : FnScope ["_law_nodes", "_law_kind", "_law_owner", "_law_more"] ["_law_nodes"] (defScope s_Lcopy) := ⟨rfl, rfl, rfl, by decide +kernel, rfl, by decide +kernel, by decide +kernel⟩
theorem ok_Lcopy (T : Txt K mg) : Cal P w K mg base 1 "_law_copy" spCopy [] := by
  refine cal T.f_Lcopy T.g_Lcopy sc_Lcopy (fun _ _ _ _ _ _ us hl => match us, hl with | [_], _ => rfl) (fun vs H Q E h => ?_) (fun cdv A outer s H vs Q E hr h => ?_)
  · obtain ⟨a, t, rfl, _⟩ := h
    rfl
  · obtain ⟨a, t, rfl, ⟨rs, h1, h2, h3⟩, hl, q⟩ := h
    have nd := sc_Lcopy.nd
    refine ⟨_, pss_one (ps_ret (pe_lc (own := [("_law_kind", 1), ("_law_owner", 2), ("_law_more", 3)]) (g := gUnl K 3 (gCons (gName 1) (gCons (gName 2) (gCons (gName 3) gNil)))) (tt := tYes) rfl nd (pi_list (pv 0)) (blkOk_by (N := ["_law_nodes", "_law_kind", "_law_owner", "_law_more"]) (sc := defScope s_Lcopy) (by decide +kernel))
        (fun _ _ _ _ _ => pg_unl rfl (pgs_cons (pg_name (i := 1) nd rfl (Or.inl rfl)) (pgs_cons (pg_name (i := 2) nd rfl (Or.inl rfl)) (pgs_cons (pg_name (i := 3) nd rfl (Or.inl rfl)) pgs_nil)))) (fun _ _ _ _ _ => pts_nil)
        (fun _ _ _ _ _ => pe_lst (pa_cons (pv 1) (pa_cons (pv 2) (pa_cons (pe_ifExp (pt_cmpR op_eq (pv 1) pe_str (nomark _)) (pe_callTy call_dictD (by rfl) T.n_dict (by decide +kernel) (pa_cons (pv 3) pa_nil)) (pv 3)) pa_nil)))))), ?_⟩
    have lrs := Plen h3
    refine ⟨_, rfl, a, rfl, ⟨_, SqL.of h1⟩, fun D nD => lc_it walk_list (fun i Hi => Same H Hi ∧ ∃ rds : List (Addr × Addr), Hi D = some (.lst (rds.map fun rd => V.ref rd.1)) ∧ Paired (LRowD Hi) rds (t.take i) ∧ (rds.map (·.2)).Nodup ∧ ∀ rd ∈ rds, H rd.2 = none ∧ H rd.1 = none ∧ rd.1 ≠ D ∧ rd.2 ≠ D)
      ⟨same_new nD, [], upd_same, .nil, List.nodup_nil, fun _ h => absurd h (by simp)⟩ (fun i Hi _ h => SqL.of (h.1 _ _ h1)) (fun i v Hi Hx hi hI hy => ?_) (fun Hi hI => ?_)⟩
    · obtain ⟨sm, rds, g1, g2, g3, g4⟩ := hI
      obtain ⟨rfl, hx⟩ := hy
      rw [List.getElem?_map] at hx
      rw [List.length_map] at hi
      have hr0 := List.getElem?_eq_getElem hi
      generalize rs[i] = r0 at hr0
      rw [hr0] at hx
      cases hx
      obtain ⟨ndd, hnd, hrow⟩ := Pget' h3 hr0
      have etk : t.take (i + 1) = t.take i ++ [ndd] := by rw [List.take_succ, hnd]; rfl
      have lr : rds.length ≤ 1000 := by
        have := Plen g2
        rw [List.length_take] at this
        omega
      -- what is left: a new row, its dict
      have fin : ∀ (d R : Addr) (H4 : Hp), Same Hx H4 → LRowD H4 (R, d) ndd → Hx R = none → (Hx d = none) → R ≠ D → d ≠ D → ∃ acc, H4 D = some (.lst acc) ∧ acc.length < sizeLine ∧ Same H (upd H4 D (.lst (acc ++ [V.ref R]))) ∧ ∃ rds : List (Addr × Addr), upd H4 D (.lst (acc ++ [V.ref R])) D = some (.lst (rds.map fun rd => V.ref rd.1)) ∧ Paired (LRowD (upd H4 D (.lst (acc ++ [V.ref R])))) rds (t.take (i + 1)) ∧ (rds.map (·.2)).Nodup ∧ ∀ rd ∈ rds, H rd.2 = none ∧ H rd.1 = none ∧ rd.1 ≠ D ∧ rd.2 ≠ D := fun d R H4 s4 hR nR nd0 n1 n2 => by
        refine ⟨_, s4 _ _ g1, ?_, sput (sm.trans s4) nD, rds ++ [(R, d)], by rw [upd_same, List.map_append]; rfl, ?_, ?_, ?_⟩
        · rw [List.length_map]
          exact Nat.lt_of_le_of_lt lr (by decide)
        · rw [etk]
          refine Paired.snoc ?_ (hR.sb sb_upd n1 n2)
          have gen : ∀ {l : List (Addr × Addr)} {m : Tr}, Paired (LRowD Hx) l m → (∀ rd ∈ l, rd.1 ≠ D ∧ rd.2 ≠ D) → Paired (LRowD (upd H4 D (.lst (rds.map (fun rd => V.ref rd.1) ++ [V.ref R])))) l m := by
            intro l m hp
            induction hp with
            | nil => exact fun _ => .nil
            | cons h _ ih => exact fun hn => .cons ((h.same s4).sb sb_upd (hn _ List.mem_cons_self).1 (hn _ List.mem_cons_self).2) (ih fun rd hrd => hn rd (List.mem_cons_of_mem _ hrd))
          exact gen g2 fun rd hrd => ⟨(g4 rd hrd).2.2.1, (g4 rd hrd).2.2.2⟩
        · rw [List.map_append, List.nodup_append]
          refine ⟨g3, by simp, fun x hx y hy => ?_⟩
          obtain ⟨rd, hrd, rfl⟩ := List.mem_map.mp hx
          have : y = d := by simpa using hy
          subst this
          obtain ⟨b, hb⟩ := Pmem g2 hrd
          obtain ⟨o, ho⟩ := hb.has.2
          exact ne_of_none ho nd0
        · intro rd hrd
          rcases List.mem_append.mp hrd with hrd | hrd
          · exact g4 rd hrd
          · have : rd = (R, d) := by simpa using hrd
            subst this
            exact ⟨sm.free nd0, sm.free nR, n1, n2⟩
      cases ndd with
      | fol o es =>
        obtain ⟨d0, kvs, k1, k2, k3⟩ := hrow
        refine ⟨r0, _, rfl, SqL.of (sm _ _ k1), rfl, _, _, rfl, _, _, rfl, _, _, rfl, rfl, rfl, ?_⟩
        refine ⟨_, rfl, _, rfl, _, rfl, rfl, _, rfl, iteT ⟨_, rfl, d0, _, rfl, .inl (sm _ _ k2), fun d nd0 => ⟨(by show 3 ≤ sizeLine; decide), fun R nR => ?_⟩⟩⟩
        have sd := same_new (o := .dK kvs) nd0
        have hdR : d ≠ R := ne_of_none upd_same nR
        have nRx : Hx R = none := sd.free nR
        refine fin d R _ (snew sd nR) ⟨kvs, upd_same, upd_at upd_same hdR, k3⟩ nRx nd0 (ne_of_none g1 nRx).symm (ne_of_none g1 nd0).symm
      | fil o =>
        have hrow : H r0 = some (.lst [.str "file", .int o, .non]) := hrow
        refine ⟨r0, _, rfl, SqL.of (sm _ _ hrow), rfl, _, _, rfl, _, _, rfl, _, _, rfl, rfl, rfl, ?_⟩
        refine ⟨_, rfl, _, rfl, _, rfl, rfl, _, rfl, iteF ⟨_, rfl, (by show 3 ≤ sizeLine; decide), fun R nR => ?_⟩⟩
        exact fin R R _ (same_new nR) ⟨upd_same, rfl⟩ nR nR (ne_of_none g1 nR).symm (ne_of_none g1 nR).symm
      | gon o b =>
        have hrow : H r0 = some (.lst [.str "gone", .int o, .int b]) := hrow
        refine ⟨r0, _, rfl, SqL.of (sm _ _ hrow), rfl, _, _, rfl, _, _, rfl, _, _, rfl, rfl, rfl, ?_⟩
        refine ⟨_, rfl, _, rfl, _, rfl, rfl, _, rfl, iteF ⟨_, rfl, (by show 3 ≤ sizeLine; decide), fun R nR => ?_⟩⟩
        exact fin R R _ (same_new nR) ⟨upd_same, rfl⟩ nR nR (ne_of_none g1 nR).symm (ne_of_none g1 nR).symm
    · obtain ⟨sm, rds, g1, g2, g3, g4⟩ := hI
      rw [List.length_map, lrs, List.take_length] at g2
      exact q D rds Hi sm nD (fun rd hrd => ⟨(g4 rd hrd).1, (g4 rd hrd).2.1⟩) ⟨g1, g2, g3⟩
end
end NW
set_option Elab.async false
set_option linter.all false
set_option maxRecDepth 100000
set_option maxHeartbeats 1000000
/-! W30: the law's above, is_below. -/
namespace NW
open PySem PySem.Spec PyProof.Rows L2
section
variable {X : Cx}
def rVals : V → List V → Hp → VK → Prop := fun x xs H Q => ∃ (a : Addr) (kvs : List (Key × V)), x = .ref a ∧ xs = [] ∧ H a = some (.dK kvs) ∧ ∀ p, H p = none → Q (.ref p) (upd H p (ST.valsO p a))
theorem pe_valsK {K : Frag} {o : Expr} {to : TE} {apos cpos : Pos} (ho : PE X o to) (hK : X.K = K := by rfl) (hbase : attributeBase o "values" X.env (eval o X.env) = eval o X.env := by rfl) (hline : (apos.endLine == cpos.line) = true := by rfl) :
    PE X (.Call (.Attribute o "values" apos) [] [] cpos) (tBM0 K "dict" rVals to) := hK ▸ pe_bm0 PySem.F.plainAttrs_dict PySem.F.slot_dict_values PySem.F.type_dict_values ST.mt_values ho hbase hline
def rInVals : R2 := fun x y H Q => ∃ (i : Int) (p a : Addr) (kvs : List (Key × V)) (ns : List Int), x = .int i ∧ y = .ref p ∧ H p = some (ST.valsO p a) ∧ H a = some (.dK kvs) ∧ kvs.map (·.2) = ns.map V.int ∧ Q (.bl (decide (i ∈ ns))) H
theorem op_inVals' (hc : X.calm = true) : OpR X (compareOp .In) rInVals := ST.op_inVals hc
end
section
variable {P : Program} {w : World} {K : Frag} {mg : Str → Option Value} {base : Heap}
theorem perm_vals {kvs : List (Key × V)} {es : List (Nat × Nat)} (h : kvs.Perm (dkv es)) : ∃ es', es'.Perm es ∧ kvs = dkv es' := by
  obtain ⟨l, p, e⟩ := ST.perm_map_inv h
  exact ⟨l, p, e⟩
theorem dkv_vals (es : List (Nat × Nat)) : (dkv es).map (·.2) = (es.map fun e => ((e.2 : Nat) : Int)).map V.int := by
  unfold dkv
  rw [List.map_map, List.map_map]
  rfl
theorem LTree.at' {H : Hp} {a : Addr} {t : Tr} {i : Nat} {nd : Nd} (h : LTree H a t) (ht : t[i]? = some nd) : ∃ (rs : List Addr) (r : Addr), H a = some (.lst (rs.map V.ref)) ∧ rs[i]? = some r ∧ atI (rs.map V.ref) (i : Int) = some (.ref r) ∧ LRow H r nd := by
  obtain ⟨rs, h1, _, h3⟩ := h
  obtain ⟨r, e, hr⟩ := Pget h3 ht
  exact ⟨rs, r, h1, e, atI_nat (by rw [List.getElem?_map, e]; rfl), hr⟩
/-- the kind of a row -/
def Nd.kind : Nd → Str
  | .fol _ _ => "folder"
  | .fil _ => "file"
  | .gon _ _ => "gone"
theorem LRow.kind {H : Hp} {r : Addr} {nd : Nd} (h : LRow H r nd) : ∃ o x, H r = some (.lst [.str nd.kind, .int o, x]) := by
  cases nd with
  | fol o es => obtain ⟨d, kvs, h1, _⟩ := h; exact ⟨o, _, h1⟩
  | fil o => exact ⟨o, _, h⟩
  | gon o a => exact ⟨o, _, h⟩
theorem kind_fol (nd : Nd) : decide (V.str nd.kind = V.str "folder") = nd.isF := by
  cases nd with
  | fol o es => exact (by decide +kernel : decide (V.str "folder" = V.str "folder") = true)
  | fil o => exact (by decide +kernel : decide (V.str "file" = V.str "folder") = false)
  | gon o a => exact (by decide +kernel : decide (V.str "gone" = V.str "folder") = false)
theorem kind_gon (nd : Nd) : decide (V.str nd.kind = V.str "gone") = nd.isG := by
  cases nd with
  | fol o es => exact (by decide +kernel : decide (V.str "folder" = V.str "gone") = false)
  | fil o => exact (by decide +kernel : decide (V.str "file" = V.str "gone") = false)
  | gon o a => exact (by decide +kernel : decide (V.str "gone" = V.str "gone") = true)
theorem LTree.same {H H' : Hp} {a : Addr} {t : Tr} (s : Same H H') (h : LTree H a t) : LTree H' a t := h.gx (sgx s)
/-- where an entry to y stands -/
def Par (u : Tr) (y : Nat) : List Nat := (List.range u.length).filter fun f => decide (y ∈ kids u f)
def spLAbove : Sp := fun vs H Q _ => ∃ (a : Addr) (u : Tr) (y : Nat), vs = [.ref a, .int y] ∧ LTree H a u ∧ u.length ≤ 1000 ∧ isF u y = true ∧ ∀ H', Same H H' → Q (.int ((Par u y).headD 0 : Nat)) H'
theorem sc_Labove : FnScope ["_law_nodes", "_law_place", "_law_some", "_law_at", "_law_row_here"] ["_law_nodes", "_law_place"] (defScope s_Labove) := ⟨rfl, rfl, rfl, by decide +kernel, rfl, by decide +kernel, by decide +kernel⟩
theorem ok_Labove (T : Txt K mg) : Cal P w K mg base 1 "_law_above" spLAbove [] := by
  refine cal T.f_Labove T.g_Labove sc_Labove (fun _ _ _ _ _ _ us hl => match us, hl with | [_, _], _ => rfl) (fun vs H Q E h => ?_) (fun cdv A outer s H vs Q E hr h => ?_)
  · obtain ⟨a, u, y, rfl, _⟩ := h
    rfl
  · obtain ⟨a, u, y, rfl, hT, hlen, hF, q⟩ := h
    have nd := sc_Labove.nd
    refine ⟨_, pss_cons (ps_if (pt_cmpR op_eq (pe_ix ix_list (pe_ix ix_list (pv 0) (pv 1) (fun _ _ => rfl)) pe_int (fun _ _ => rfl)) pe_str (nomark _)) pss_never pss_nil)
      (pss_cons (ps_setLc (i := 2) (own := [("_law_at", 3), ("_law_row_here", 4)]) (g := gTup K 2 (gCons (gName 3) (gCons (gName 4) gNil))) (tt := tAnd (tTest (tOp rEq (tOp (rIxL K) (tVar 4) (tC (.int 0))) (tC (.str "folder")))) (tTest (tOp rInVals (tVar 1) (tBM0 K "dict" rVals (tOp (rIxL K) (tVar 4) (tC (.int 2))))))) rfl nd rfl rfl (sw_true rfl rfl rfl (by decide +kernel)) (pi_enum (by rfl) T.n_enumerate (pa_cons (pv 0) pa_nil)) (blkOk_by (N := ["_law_nodes", "_law_place", "_law_some", "_law_at", "_law_row_here"]) (sc := defScope s_Labove) (by decide +kernel))
          (fun _ _ _ _ _ => pg_tup rfl (pgs_cons (pg_name (i := 3) nd rfl (Or.inl rfl)) (pgs_cons (pg_name (i := 4) nd rfl (Or.inl rfl)) pgs_nil)))
          (fun _ _ _ _ _ => pts_one (PW.pt (pw_and (pt_cmpR op_eq (pe_ix (ixL (K := K)) (pv 4) pe_int (fun _ _ => rfl)) pe_str (nomark _)) (pw_and1 (pt_cmpR (op_inVals' rfl) (pv 1) (pe_valsK (K := K) (pe_ix (ixL (K := K)) (pv 4) pe_int (fun _ _ => rfl))) (by rfl))))))
          (fun _ _ _ _ _ => pv 3))
      (pss_one (ps_ret (pe_ifExp (pt_cmpR (op_neNil hr.units0) (pv 2) (pe_lst pa_nil) (nomark _)) (pe_ix ix_list (pv 2) pe_int (fun _ _ => rfl)) pe_int)))), ?_⟩
    obtain ⟨o, ht⟩ := isF_fol hF
    obtain ⟨rs, r, g1, g2, g3, g4⟩ := hT.at' ht
    obtain ⟨o2, x2, g5⟩ := g4.kind
    refine ⟨_, rfl, _, rfl, a, _, _, _, rfl, rfl, SqL.of g1, g3, r, _, _, _, rfl, rfl, SqL.of g5, atI_nat (j := 0) rfl, rfl, _, rfl, ?_⟩
    rw [kind_gon]
    refine iteF ?_
    obtain ⟨rs', w1, w2, w3⟩ := id hT
    rw [g1] at w1
    have erl : rs' = rs := ((List.map_inj_right fun x z e => V.ref.inj e).mp (HO.lst.inj (Option.some.inj w1))).symm
    subst erl
    have lrs := Plen w3
    refine ⟨_, rfl, a, _, rfl, SqL.of g1, fun D nD => lc_it walk_enum (fun i Hi => Same H Hi ∧ Hi D = some (.lst (natV ((List.range i).filter fun f => decide (y ∈ kids u f))))) ⟨same_new nD, upd_same⟩ (fun i Hi _ h => SqL.of (h.1 _ _ g1)) (fun i v Hi Hj hi hI hy => ?_) (fun Hi hI => ?_)⟩
    · obtain ⟨sm, hD⟩ := hI
      obtain ⟨T1, xx, yy, rfl, nT, rfl, ex, ey⟩ := hy
      cases ex
      dsimp only at ey
      rw [List.getElem?_map] at ey
      rw [List.length_map] at hi
      have hri := List.getElem?_eq_getElem hi
      generalize rs'[i] = ri at hri
      rw [hri] at ey
      cases ey
      obtain ⟨ndi, hni, hrow⟩ := Pget' w3 hri
      have s1 := snew (o := .tup [.int (i : Nat), .ref ri]) sm nT
      have hT1 : upd Hi T1 (.tup [.int (i : Nat), .ref ri]) T1 = some (.tup [.int (i : Nat), .ref ri]) := upd_same
      have hD1 := upd_at (o := .tup [.int (i : Nat), .ref ri]) hD (ne_of_none hD nT)
      generalize upd Hi T1 (.tup [.int (i : Nat), .ref ri]) = H1 at s1 hT1 hD1
      obtain ⟨oi, xi, hki⟩ := hrow.kind
      have lf : ((List.range i).filter fun f => decide (y ∈ kids u f)).length ≤ 1000 := by
        have h1 := List.length_filter_le (fun f => decide (y ∈ kids u f)) (List.range i)
        rw [List.length_range] at h1
        omega
      have esucc : (List.range (i + 1)).filter (fun f => decide (y ∈ kids u f)) = (List.range i).filter (fun f => decide (y ∈ kids u f)) ++ (if y ∈ kids u i then [i] else []) := by
        rw [List.range_succ, List.filter_append]
        congr 1
        by_cases c : y ∈ kids u i <;> simp [c]
      refine ⟨T1, _, rfl, SqT.of hT1, rfl, _, _, rfl, _, _, rfl, rfl, rfl, _, rfl, ri, _, _, _, rfl, rfl, SqL.of (s1 _ _ hki), atI_nat (j := 0) rfl, rfl, _, rfl, ?_⟩
      rw [kind_fol]
      have no : y ∉ kids u i → ∀ H2, Same H1 H2 → Same H H2 ∧ H2 D = some (.lst (natV ((List.range (i + 1)).filter fun f => decide (y ∈ kids u f)))) := fun hn H2 s2 => ⟨s1.trans s2, by rw [esucc, if_neg hn, List.append_nil]; exact s2 _ _ hD1⟩
      cases hF2 : ndi.isF with
      | false =>
        have hk0 : kids u i = [] := kids_none ((isF_at hni).trans hF2)
        exact iteF (no (by rw [hk0]; simp) H1 (Same.refl _))
      | true =>
        cases ndi with
        | fil o => cases hF2
        | gon o b => cases hF2
        | fol oo es =>
          have hke : kids u i = es.map (·.2) := by unfold kids; rw [ents_at hni]; rfl
          obtain ⟨d, kvs, k1, k2, k3⟩ := hrow
          obtain ⟨es', pe, rfl⟩ := perm_vals k3
          refine iteT ⟨_, rfl, _, rfl, ri, _, _, _, rfl, rfl, SqL.of (s1 _ _ k1), atI_nat (j := 2) rfl, .inr (.inr (.inl ⟨rfl, .inl ⟨_, s1 _ _ k2⟩⟩)), d, _, rfl, rfl, s1 _ _ k2, fun p np => ?_⟩
          have s2 := same_new (o := ST.valsO p d) np
          have hdp : d ≠ p := ne_of_none (s1 _ _ k2) np
          refine ⟨_, p, d, _, _, rfl, rfl, upd_same, upd_at (s1 _ _ k2) hdp, dkv_vals es', _, rfl, ?_⟩
          have eb : decide (((y : Nat) : Int) ∈ es'.map fun e => ((e.2 : Nat) : Int)) = decide (y ∈ kids u i) := by
            rw [decide_eq_decide, hke, List.mem_map, List.mem_map]
            constructor
            · rintro ⟨e, he, h⟩
              exact ⟨e, pe.mem_iff.mp he, by omega⟩
            · rintro ⟨e, he, h⟩
              exact ⟨e, pe.mem_iff.mpr he, by rw [h]⟩
          rw [eb]
          by_cases c : y ∈ kids u i
          · rw [decide_eq_true c]
            refine ⟨_, rfl, _, s2 _ _ hD1, ?_, sput (s1.trans s2) nD, ?_⟩
            · rw [natV_len]
              exact Nat.lt_of_le_of_lt lf (by decide)
            · rw [upd_same, esucc, if_pos c]
              unfold natV
              rw [List.map_append]
              rfl
          · rw [decide_eq_false c]
            exact no c _ s2
    · obtain ⟨sm, hD⟩ := hI
      rw [List.length_map, lrs] at hD
      refine ⟨_, rfl, (by show 0 ≤ sizeLine; decide), fun z nz => ⟨D, z, _, rfl, rfl, SqL.of (upd_at hD (ne_of_none hD nz)), SqL.of upd_same, _, rfl, ?_⟩⟩
      have s2 := snew (o := .lst []) sm nz
      have hD2 := upd_at (o := .lst []) hD (ne_of_none hD nz)
      have ePar : (List.range u.length).filter (fun f => decide (y ∈ kids u f)) = Par u y := rfl
      rw [ePar] at hD2 ⊢
      cases hPar : Par u y with
      | nil =>
        rw [hPar] at q
        exact iteF (q _ s2)
      | cons f r =>
        rw [hPar] at hD2 q
        exact iteT ⟨_, rfl, D, _, _, _, rfl, rfl, SqL.of hD2, atI_nat (j := 0) rfl, q _ s2⟩
end
end NW
set_option Elab.async false
set_option linter.all false
set_option maxRecDepth 100000
set_option maxHeartbeats 1000000
/-! W31: the law's is_below, on a tree with an entry less. -/
namespace NW
open PySem PySem.Spec PyProof.Rows L2
theorem Bel.last {t : Tr} {n y : Nat} (h : Bel t n y) (hy : y ≠ n) : ∃ f k, Bel t n f ∧ (k, y) ∈ ents t f := by
  cases h with
  | refl => exact absurd rfl hy
  | step h1 h2 _ => exact ⟨_, _, h1, h2⟩
theorem Bel.zero {t : Tr} (w : WF t) {n : Nat} (h : Bel t n 0) : n = 0 := by
  by_cases c : 0 = n
  · exact c.symm
  · obtain ⟨f, k, _, h2⟩ := h.last c
    have := (w.ent _ _ _ h2).2.1
    omega
theorem par_del {t : Tr} (w : WF t) {f k n : Nat} (hf : isF t f = true) (hlk : lookE k (ents t f) = some n) {y d : Nat} (hF : isF t y = true) (h0 : y ≠ 0) (hn : y ≠ n) (hd : Dep t y d) :
    ∃ f' d', d = d' + 1 ∧ (Par (delEnt t f k) y).headD 0 = f' ∧ Dep t f' d' ∧ isF t f' = true ∧ (Bel t n y ↔ Bel t n f') := by
  cases hd with
  | root => exact absurd rfl h0
  | @step f' k' _ d' h1 h2 h3 =>
    have hmem : ∀ x, y ∈ kids (delEnt t f k) x → x = f' := fun x hx => by
      obtain ⟨⟨j, y'⟩, he, rfl⟩ := List.mem_map.mp hx
      exact (w.one _ _ _ _ _ hF ((del_mem hf x j y').mp he).1 h2).1
    have hin : f' ∈ Par (delEnt t f k) y := by
      refine List.mem_filter.mpr ⟨List.mem_range.mpr ?_, decide_eq_true ?_⟩
      · rw [del_len hf]
        exact isF_lt (dep_isF w h1)
      · refine List.mem_map.mpr ⟨(k', y), (del_mem hf f' k' y).mpr ⟨h2, fun z => ?_⟩, rfl⟩
        obtain ⟨rfl, rfl⟩ := z
        exact hn (mem_key (w.srt _) h2 (mem_of_lookE hlk))
    refine ⟨f', d', rfl, ?_, h1, dep_isF w h1, fun hb => ?_, fun hb => .step hb h2 hF⟩
    · cases hP : Par (delEnt t f k) y with
      | nil => rw [hP] at hin; cases hin
      | cons x r =>
        have hx : x ∈ Par (delEnt t f k) y := by rw [hP]; simp
        exact hmem x (of_decide_eq_true (List.mem_filter.mp hx).2)
    · obtain ⟨f2, k2, hb2, he2⟩ := hb.last hn
      rw [← (w.one _ _ _ _ _ hF he2 h2).1]
      exact hb2
section
variable {P : Program} {w : World} {K : Frag} {mg : Str → Option Value} {base : Heap}
def spLIsBelow : Sp := fun vs H Q _ => ∃ (a : Addr) (t : Tr) (f k n g : Nat), vs = [.ref a, .int g, .int n] ∧ LTree H a (delEnt t f k) ∧ WF t ∧ t.length ≤ 1000 ∧ isF t f = true ∧ lookE k (ents t f) = some n ∧ isF t g = true ∧ isF t n = true ∧
  ∀ b H', Same H H' → (b = false → ¬ Bel t n g) → Q (.bl b) H'
theorem sc_Lis_below : FnScope ["_law_nodes", "_law_place", "_law_top"] ["_law_nodes", "_law_place", "_law_top"] (defScope s_Lis_below) := ⟨rfl, rfl, rfl, by decide +kernel, rfl, by decide +kernel, by decide +kernel⟩
theorem ok_Lis_below (T : Txt K mg) : Cal P w K mg base 2 "_law_is_below" spLIsBelow [] := by
  refine cal T.f_Lis_below T.g_Lis_below sc_Lis_below (fun _ _ _ _ _ _ us hl => match us, hl with | [_, _, _], _ => rfl) (fun vs H Q E h => ?_) (fun cdv A outer s H vs Q E hr h => ?_)
  · obtain ⟨a, t, f, k, n, g, rfl, _⟩ := h
    rfl
  · obtain ⟨a, t, f, k, n, g, rfl, hT, wf, hlen, hf, hlk, hg, hn, q⟩ := h
    have nd := sc_Lis_below.nd
    refine ⟨_, pss_cons (ps_while PassesOwn.never (pt_cmpR op_notIn_seq (pv 1) (pe_tup (pa_cons pe_int (pa_cons (pv 2) pa_nil))) (by rfl)) (pss_one (ps_set (i := 1) nd rfl (Or.inl rfl) (C8.pe_c (ok_Labove T) hr (by decide) rfl (pa_cons (pv 0) (pa_cons (pv 1) pa_nil))))))
      (pss_one (ps_ret (pe_cmpR op_eq (pv 1) (pv 2) (nomark _)))), ?_⟩
    have n0 : n ≠ 0 := by have := (wf.ent _ _ _ (mem_of_lookE hlk)).2.1; omega
    obtain ⟨d0, hd0⟩ := wf.dep g hg
    let W : Nat → L2.St → Hp → Prop := fun μ σ Hc => ∃ y : Nat, σ = [some (.ref a), some (.int y), some (.int n)] ∧ Same H Hc ∧ isF t y = true ∧ Dep t y μ ∧ (Bel t n g ↔ Bel t n y)
    refine ⟨W, ⟨d0, g, rfl, Same.refl _, hg, hd0, Iff.rfl⟩, ?_⟩
    rintro μ σ Hc ⟨y, rfl, sc, hFy, hdy, hiff⟩
    refine ⟨_, rfl, _, rfl, (by show 2 ≤ sizeLine; decide), fun p np => ⟨p, _, rfl, .inr (SqT.of upd_same), rfl, rfl, _, rfl, ?_⟩⟩
    have sp := snew (o := .tup [.int 0, .int n]) sc np
    generalize upd Hc p (.tup [.int 0, .int n]) = H2 at sp
    have eb : (if true = true then !inV (.int (y : Nat)) [.int 0, .int n] else inV (.int (y : Nat)) [.int 0, .int n]) = (decide (y ≠ 0) && decide (y ≠ n)) := by
      rw [if_pos rfl]
      by_cases c0 : y = 0
      · subst c0; simp [inV, eqV]
      · by_cases cn : y = n
        · subst cn; simp [inV, eqV]
        · have h1 : ¬ (0 : Int) = (y : Int) := by omega
          have h2 : ¬ (n : Int) = (y : Int) := by omega
          simp [inV, eqV, c0, cn, h1, h2]
    rw [eb]
    by_cases c0 : y = 0
    · subst c0
      refine iteF ⟨_, rfl, _, rfl, rfl, ?_⟩
      rw [decide_eq_false (fun z => n0 (by have := V.int.inj z; omega))]
      exact q _ _ sp fun _ hb => n0 (Bel.zero wf (hiff.mp hb))
    · by_cases cn : y = n
      · subst cn
        rw [show (decide (y ≠ 0) && decide (y ≠ y)) = false by simp]
        refine iteF ⟨_, rfl, _, rfl, rfl, ?_⟩
        rw [decide_eq_true rfl]
        exact q _ _ sp fun z => nomatch z
      · rw [show (decide (y ≠ 0) && decide (y ≠ n)) = true by simp [c0, cn]]
        obtain ⟨f', d', rfl, hpar, h1, h2, h3⟩ := par_del wf hf hlk hFy c0 cn hdy
        refine iteT ⟨fun σ' H' => ∃ m', m' < d' + 1 ∧ W m' σ' H', fun _ _ h => h, ?_⟩
        refine ⟨_, rfl, _, rfl, a, _, y, rfl, hT.same sp, by rw [del_len hf]; exact hlen, by rw [del_isF hf]; exact hFy, fun H' s' => ?_⟩
        rw [hpar]
        exact ⟨d', Nat.lt_succ_self _, f', rfl, sp.trans s', h2, h1, hiff.trans h3⟩
end
end NW
set_option Elab.async false
set_option linter.all false
set_option maxRecDepth 100000
set_option maxHeartbeats 1000000
/-! W32: the law's rows, changed. -/
namespace NW
open PySem PySem.Spec PyProof.Rows L2
/-! dicts of entries -/
theorem valV_dkv : ∀ {es : List (Nat × Nat)} {k : Nat}, (∀ e ∈ es, e.1 < 4) → k < 4 → valV (dkv es) (Sum.inr (nm k)) = (lookE k es).map fun n => V.int (n : Nat)
  | [], _, _, _ => rfl
  | e :: r, k, h4, hk => by
    have e0 : dkv (e :: r) = (Sum.inr (nm e.1), V.int (e.2 : Nat)) :: dkv r := rfl
    have he := h4 e List.mem_cons_self
    rw [e0]
    by_cases c : e.1 = k
    · rw [valV_pos (by rw [c])]
      unfold lookE
      rw [List.find?_cons, decide_eq_true c]
      rfl
    · rw [valV_neg (fun z => c (nm_inj he hk (Sum.inr.inj z))), valV_dkv (fun x hx => h4 x (List.mem_cons_of_mem _ hx)) hk]
      unfold lookE
      rw [List.find?_cons, decide_eq_false c]
theorem lookE_perm {es es' : List (Nat × Nat)} (p : es'.Perm es) (hn : (es.map (·.1)).Nodup) (k : Nat) : lookE k es' = lookE k es := by
  have hn' : (es'.map (·.1)).Nodup := (p.map _).nodup_iff.mpr hn
  have key : ∀ {l : List (Nat × Nat)} {n : Nat}, (l.map (·.1)).Nodup → (k, n) ∈ l → lookE k l = some n := by
    intro l n
    induction l with
    | nil => intro _ h; cases h
    | cons e r ih =>
      intro hd h
      obtain ⟨h1, h2⟩ := List.nodup_cons.mp hd
      unfold lookE
      rcases List.mem_cons.mp h with rfl | h
      · rw [List.find?_cons, decide_eq_true rfl]
        rfl
      · have c : ¬ e.1 = k := fun z => h1 (List.mem_map.mpr ⟨_, h, z.symm⟩)
        rw [List.find?_cons, decide_eq_false c]
        exact ih h2 h
  cases h : lookE k es with
  | none =>
    rw [lookE_none] at h ⊢
    exact fun e he => h e (p.mem_iff.mp he)
  | some n => exact key hn' (p.mem_iff.mpr (mem_of_lookE h))
theorem drop_dkv {es : List (Nat × Nat)} {k : Nat} (h4 : ∀ e ∈ es, e.1 < 4) (hk : k < 4) : dropK (dkv es) (Sum.inr (nm k)) = dkv (delE k es) := by
  unfold dropK dkv delE
  rw [List.filter_map]
  congr 1
  refine List.filter_congr fun e he => ?_
  show decide (Sum.inr (nm e.1) ≠ Sum.inr (nm k)) = decide (e.1 ≠ k)
  rw [decide_eq_decide]
  exact ⟨fun h z => h (by rw [z]), fun h z => h (nm_inj (h4 e he) hk (Sum.inr.inj z))⟩
theorem dkv_perm {es es' : List (Nat × Nat)} (p : es'.Perm es) : (dkv es').Perm (dkv es) := p.map _
theorem nodup_get {α : Type} {l : List α} (h : l.Nodup) {i j : Nat} {x : α} (hi : l[i]? = some x) (hj : l[j]? = some x) : i = j := by
  obtain ⟨a, ha⟩ := List.getElem?_eq_some_iff.mp hi
  obtain ⟨b, hb⟩ := List.getElem?_eq_some_iff.mp hj
  have hp := List.pairwise_iff_getElem.mp h
  rcases Nat.lt_trichotomy i j with c | c | c
  · exact absurd (ha.trans hb.symm) (hp i j a b c)
  · exact c
  · exact absurd (hb.trans ha.symm) (hp j i b a c)
theorem PgetI {α β : Type} {F : α → β → Prop} {l : List α} {m : List β} (hl : l.length = m.length) (h : ∀ (i : Nat) (a : α) (b : β), l[i]? = some a → m[i]? = some b → F a b) : Paired F l m := by
  induction l generalizing m with
  | nil => cases m with
    | nil => exact .nil
    | cons b m => simp at hl
  | cons a l ih => cases m with
    | nil => simp at hl
    | cons b m => exact .cons (h 0 a b rfl rfl) (ih (by simpa using hl) fun i x y hx hy => h (i + 1) x y (by simpa using hx) (by simpa using hy))
/-- a dict is changed -/
theorem LTreeD.setd {H : Hp} {a : Addr} {rds : List (Addr × Addr)} {t : Tr} (h : LTreeD H a rds t) {i : Nat} {o : Int} {es es' : List (Nat × Nat)} {rd : Addr × Addr} (ht : t[i]? = some (.fol o es)) (hr : rds[i]? = some rd) {kvs : List (Key × V)} (hp : kvs.Perm (dkv es')) :
    LTreeD (upd H rd.2 (.dK kvs)) a rds (t.set i (.fol o es')) := by
  obtain ⟨h1, h2, h3⟩ := h
  obtain ⟨nd, hnd, hrow⟩ := Pget' h2 hr
  rw [ht] at hnd
  cases hnd
  obtain ⟨kv0, k1, k2, k3⟩ := hrow
  have hlt := (List.getElem?_eq_some_iff.mp ht).1
  have na : a ≠ rd.2 := fun z => by rw [z, k2] at h1; cases h1
  refine ⟨upd_at h1 na, PgetI (by rw [List.length_set]; exact Plen h2) fun j rj nj hj hnj => ?_, h3⟩
  rw [set_get hlt] at hnj
  by_cases c : j = i
  · subst c
    rw [if_pos rfl] at hnj
    rw [hr] at hj
    cases hj
    cases hnj
    exact ⟨kvs, upd_at k1 (fun z => by rw [z, k2] at k1; cases k1), upd_same, hp⟩
  · rw [if_neg c] at hnj
    obtain ⟨n2, hn2, hrow2⟩ := Pget' h2 hj
    rw [hnj] at hn2
    cases hn2
    have nd2 : rj.2 ≠ rd.2 := fun z => c (nodup_get h3 (x := rd.2) (by rw [List.getElem?_map, hj]; exact congrArg some z) (by rw [List.getElem?_map, hr]; rfl))
    have nd1 : rj.1 ≠ rd.2 := by
      obtain ⟨o1, x1, hk1⟩ := hrow2.row.kind
      exact fun z => by rw [z, k2] at hk1; cases hk1
    exact hrow2.sb sb_upd nd1 nd2
theorem LTreeD.same {H H' : Hp} {a : Addr} {rds : List (Addr × Addr)} {t : Tr} (s : Same H H') (h : LTreeD H a rds t) : LTreeD H' a rds t := ⟨s _ _ h.1, Pmap h.2.1 fun _ _ => LRowD.same s, h.2.2⟩
theorem LTreeD.at' {H : Hp} {a : Addr} {rds : List (Addr × Addr)} {t : Tr} {i : Nat} {nd : Nd} (h : LTreeD H a rds t) (ht : t[i]? = some nd) : ∃ rd, rds[i]? = some rd ∧ atI (rds.map fun rd => V.ref rd.1) (i : Int) = some (.ref rd.1) ∧ LRowD H rd nd := by
  obtain ⟨rd, e, hr⟩ := Pget h.2.1 ht
  exact ⟨rd, e, atI_nat (by rw [List.getElem?_map, e]; rfl), hr⟩
/-- the row of a node is changed for a new one -/
theorem LTreeD.setr {H : Hp} {a : Addr} {rds : List (Addr × Addr)} {t : Tr} (h : LTreeD H a rds t) {i : Nat} {nd : Nd} {R : Addr} (hi : i < t.length) (hR : LRowD H (R, R) nd) (hRa : R ≠ a) (hne : t ≠ []) (hn : ∀ rd ∈ rds, rd.1 ≠ a ∧ rd.2 ≠ a) :
    LTree (upd H a (.lst ((rds.map fun rd => V.ref rd.1).set i (.ref R)))) a (t.set i nd) := by
  obtain ⟨h1, h2, h3⟩ := h
  have lr := Plen h2
  have sb : Sb a H (upd H a (.lst ((rds.map fun rd => V.ref rd.1).set i (.ref R)))) := sb_upd
  refine ⟨(rds.map (·.1)).set i R, ?_, fun z => ?_, ?_⟩
  · rw [upd_same, List.map_set, List.map_map]
    rfl
  · have := congrArg List.length z
    rw [List.length_set, List.length_map, lr] at this
    exact hne (List.length_eq_zero_iff.mp this)
  · refine PgetI (by rw [List.length_set, List.length_set, List.length_map]; exact lr) fun j rj nj hj hnj => ?_
    rw [set_get hi] at hnj
    by_cases c : j = i
    · subst c
      rw [if_pos rfl] at hnj
      rw [List.getElem?_set_self (by rw [List.length_map]; omega)] at hj
      cases hj
      cases hnj
      exact (hR.sb sb hRa hRa).row
    · rw [if_neg c] at hnj
      rw [List.getElem?_set_ne (fun z => c z.symm), List.getElem?_map] at hj
      cases hrd : rds[j]? with
      | none => rw [hrd] at hj; cases hj
      | some rd =>
        rw [hrd] at hj
        cases hj
        obtain ⟨n2, hn2, hrow2⟩ := Pget' h2 hrd
        rw [hnj] at hn2
        cases hn2
        have := hn rd (List.mem_of_getElem? hrd)
        exact (hrow2.sb sb this.1 this.2).row
/-! deeds as the law draws them -/
def LDeed (H : Hp) (p : Addr) : Dd → Prop
  | .mkF f k o => H p = some (.tup [.str "folder", .int f, .str (nm k), .int o])
  | .mkL f k o => H p = some (.tup [.str "file", .int f, .str (nm k), .int o])
  | .put f k n => H p = some (.tup [.str "put", .int f, .str (nm k), .int n])
  | .take f k => H p = some (.tup [.str "take", .int f, .str (nm k)])
  | .move f k g j => H p = some (.tup [.str "move", .int f, .str (nm k), .int g, .str (nm j)])
theorem LDeed.same {H H' : Hp} {p : Addr} {d : Dd} (s : Same H H') (h : LDeed H p d) : LDeed H' p d := by cases d <;> exact s _ _ h
theorem LDeed.fx {H H' : Hp} {p : Addr} {d : Dd} (s : Fx H H') (h : LDeed H p d) : LDeed H' p d := by cases d <;> exact s.2 _ _ h
/-- what a deed is asked to name -/
def DdOk (t : Tr) : Dd → Prop
  | .mkF f k o => f < t.length ∧ k < 4 ∧ 0 ≤ o
  | .mkL f k o => f < t.length ∧ k < 4 ∧ 0 ≤ o
  | .put f k n => f < t.length ∧ k < 4 ∧ n < t.length
  | .take f k => f < t.length ∧ k < 4
  | .move f k g j => f < t.length ∧ k < 4 ∧ g < t.length ∧ j < 4
end NW
set_option Elab.async false
set_option linter.all false
set_option maxRecDepth 100000
set_option maxHeartbeats 2000000
/-! W33: the law's taken. -/
namespace NW
open PySem PySem.Spec PyProof.Rows L2
/-- all but the tree's list and its dicts is kept -/
def Chg (a : Addr) (rds : List (Addr × Addr)) (H H' : Hp) : Prop := ∀ b o, b ≠ a → b ∉ rds.map (·.2) → H b = some o → H' b = some o
theorem Chg.refl (a : Addr) (rds : List (Addr × Addr)) (H : Hp) : Chg a rds H H := fun _ _ _ _ e => e
theorem Chg.same {a : Addr} {rds : List (Addr × Addr)} {H H1 H2 : Hp} (c : Chg a rds H H1) (s : Same H1 H2) : Chg a rds H H2 := fun b o n1 n2 e => s _ _ (c b o n1 n2 e)
theorem Chg.putA {a : Addr} {rds : List (Addr × Addr)} {H H1 : Hp} {u : HO} (c : Chg a rds H H1) : Chg a rds H (upd H1 a u) := fun b o n1 n2 e => by rw [upd_ne n1]; exact c b o n1 n2 e
theorem Chg.putD {a d : Addr} {rds : List (Addr × Addr)} {H H1 : Hp} {u : HO} (c : Chg a rds H H1) (hd : d ∈ rds.map (·.2)) : Chg a rds H (upd H1 d u) := fun b o n1 n2 e => by rw [upd_ne (show b ≠ d from fun z => n2 (z ▸ hd))]; exact c b o n1 n2 e
theorem ent_ne {t : Tr} (w : WF t) {f k n : Nat} (h : (k, n) ∈ ents t f) : n ≠ f := by
  rintro rfl
  have hF := isF_of_ent h
  obtain ⟨d, hd⟩ := w.dep n hF
  have := (Dep.step hd h hF).uniq w hd
  omega
theorem set_self {t : Tr} {n : Nat} {nd : Nd} (h : t[n]? = some nd) : t.set n nd = t := by
  have hl := (List.getElem?_eq_some_iff.mp h).1
  apply List.ext_getElem?
  intro i
  rw [set_get hl]
  by_cases c : i = n
  · rw [if_pos c, c, h]
  · rw [if_neg c]
theorem shp : ∀ (g : Int) (j : Nat), j < 4 → SeqAt.shaped (.tuple [.int g, .str (nm j)]) = true := by
  have h : ∀ i : _root_.Fin 4, PyData.canLay0 (.str (nm i.1)) = true := by decide +kernel
  intro g j hj
  have h2 := h ⟨j, hj⟩
  unfold SeqAt.shaped
  simp only [PyData.canLay0, PyData.canLayAll0] at h2 ⊢
  rw [h2]
  rfl
theorem eqvN (g f : Nat) (j k : Nat) (hj : j < 4) (hk : k < 4) : PyData.eqv (.tuple [.int (g : Nat), .str (nm j)]) (.tuple [.int (f : Nat), .str (nm k)]) = decide (g = f ∧ j = k) := by
  simp only [PyData.eqv, PyData.eqvAll]
  by_cases c1 : g = f
  · subst c1
    by_cases c2 : j = k
    · subst c2; simp
    · have : ¬ nm j = nm k := fun z => c2 (nm_inj hj hk z)
      simp [c2, this]
  · have : ¬ (g : Int) = (f : Int) := by omega
    simp [c1, this]
section
variable {P : Program} {w : World} {K : Frag} {mg : Str → Option Value} {base : Heap}
def spTaken : Sp := fun vs H Q _ => ∃ (a p : Addr) (rds : List (Addr × Addr)) (t : Tr) (d : Dd), vs = [.ref a, .ref p] ∧ LTreeD H a rds t ∧ (∀ rd ∈ rds, rd.1 ≠ a ∧ rd.2 ≠ a) ∧ LDeed H p d ∧ (d.isTake = true ∨ d.isMove = true) ∧ DdOk t d ∧ WF t ∧ t.length ≤ 1000 ∧ isF t d.f = true ∧
  (∀ H', Chg a rds H H' → Q .non H') ∧ ∀ H' t', Chg a rds H H' → Step t d t' → LTree H' a t' → Q (.ref a) H'
theorem sc_Ltaken : FnScope ["_law_nodes", "_law_deed_here", "_law_kind", "_law_folder", "_law_name", "_law_node", "_law_is_inner", "_law_goal", "_law_other"] ["_law_nodes", "_law_deed_here"] (defScope s_Ltaken) := ⟨rfl, rfl, rfl, by decide +kernel, rfl, by decide +kernel, by decide +kernel⟩
theorem ok_Ltaken (T : Txt K mg) : Cal P w K mg base 3 "_law_taken" spTaken [] := by
  refine cal T.f_Ltaken T.g_Ltaken sc_Ltaken (fun _ _ _ _ _ _ us hl => match us, hl with | [_, _], _ => rfl) (fun vs H Q E h => ?_) (fun cdv A outer s H vs Q E hr h => ?_)
  · obtain ⟨a, p, rds, t, d, rfl, _⟩ := h
    rfl
  · obtain ⟨a, p, rds, t, d, rfl, hT, hns, hL, hk, hok, wf, hlen, hF, q1, q2⟩ := h
    have nd := sc_Ltaken.nd
    have hu := hu_of hr
    refine ⟨_, pss_cons (ps_asg (pe_slice sl_tupA (pv 1) po_none (po_some pe_int)) (pg_tup rfl (pgs_cons (pg_name (i := 2) nd rfl (Or.inl rfl)) (pgs_cons (pg_name (i := 3) nd rfl (Or.inl rfl)) (pgs_cons (pg_name (i := 4) nd rfl (Or.inl rfl)) pgs_nil)))))
      (pss_cons (ps_set (i := 5) nd rfl (Or.inl rfl) (pe_dpop2 (pe_ix ix_list (pe_ix ix_list (pv 0) (pv 3) (fun _ _ => rfl)) pe_int (fun _ _ => rfl)) (pv 4) pe_non ⟨rfl, rfl, rfl, rfl⟩))
      (pss_cons (ps_if (pt_cmpR op_isN (pv 5) pe_non (nomark _)) (pss_one (ps_ret pe_non)) pss_nil)
      (pss_cons (ps_set (i := 6) nd rfl (Or.inl rfl) (pe_cmpR op_eq (pe_ix ix_list (pe_ix ix_list (pv 0) (pv 5) (fun _ _ => rfl)) pe_int (fun _ _ => rfl)) pe_str (nomark _)))
      (pss_cons (ps_if (pt_cmpR op_eq (pv 2) pe_str (nomark _))
        (pss_cons (ps_if (PW.pt (pw_and (pt_val (pv 6)) (pw_and1 (pt_cmpR (ST.op_neNilD hr.units0) (pe_ix ix_list (pe_ix ix_list (pv 0) (pv 5) (fun _ _ => rfl)) pe_int (fun _ _ => rfl)) pe_dnewK (nomark _))))) (pss_one (ps_ret pe_non)) pss_nil)
        (pss_cons (ps_asg (pe_ifExp (pt_val (pv 6)) (pe_lst (pa_cons pe_str (pa_cons (pe_ix ix_list (pe_ix ix_list (pv 0) (pv 5) (fun _ _ => rfl)) pe_int (fun _ _ => rfl)) (pa_cons (pv 3) pa_nil)))) (pe_ix ix_list (pv 0) (pv 5) (fun _ _ => rfl))) (pg_sub (pv 0) (pv 5) set_list))
        (pss_one (ps_ret (pv 0))))) pss_nil)
      (pss_cons (ps_asg (pe_slice sl_tupA (pv 1) (po_some pe_int) po_none) (pg_tup rfl (pgs_cons (pg_name (i := 7) nd rfl (Or.inl rfl)) (pgs_cons (pg_name (i := 8) nd rfl (Or.inl rfl)) pgs_nil))))
      (pss_cons (ps_if (PW.pt (pw_or (pt_cmpR op_ne (pe_ix ix_list (pe_ix ix_list (pv 0) (pv 7) (fun _ _ => rfl)) pe_int (fun _ _ => rfl)) pe_str (nomark _)) (pw_or (pt_cmp (pc_din hu (pv 8) (pe_ix ix_list (pe_ix ix_list (pv 0) (pv 7) (fun _ _ => rfl)) pe_int (fun _ _ => rfl))))
          (pw_or1 (pt_cmpR (op_eqD hr.units) (pe_tup (pa_cons (pv 7) (pa_cons (pv 8) pa_nil))) (pe_tup (pa_cons (pv 3) (pa_cons (pv 4) pa_nil))) (nomark _)))))) (pss_one (ps_ret pe_non)) pss_nil)
      (pss_cons (ps_if (PW.pt (pw_and (pt_val (pv 6)) (pw_and1 (pt_val (C8.pe_c (ok_Lis_below T) hr (by decide) rfl (pa_cons (pv 0) (pa_cons (pv 7) (pa_cons (pv 5) pa_nil)))))))) (pss_one (ps_ret pe_non)) pss_nil)
      (pss_cons (ps_dput hu (pe_ix ix_list (pe_ix ix_list (pv 0) (pv 7) (fun _ _ => rfl)) pe_int (fun _ _ => rfl)) (pv 8) (pv 5) rfl)
      (pss_one (ps_ret (pv 0))))))))))), ?_⟩
    cases d with
    | mkF f k o => rcases hk with h | h <;> cases h
    | mkL f k o => rcases hk with h | h <;> cases h
    | put f k n => rcases hk with h | h <;> cases h
    | take f k =>
      obtain ⟨hfl, hk4⟩ := hok
      have hf1 : isF t f = true := hF
      have hLt : H p = some (.tup [.str "take", .int f, .str (nm k)]) := hL
      have hwhole : HT.sIx ([V.str "take", V.int (f : Nat), V.str (nm k)]).length 0 none = 0 ∧ HT.sIx ([V.str "take", V.int (f : Nat), V.str (nm k)]).length ([V.str "take", V.int (f : Nat), V.str (nm k)]).length (some 3) = ([V.str "take", V.int (f : Nat), V.str (nm k)]).length := ⟨HT.sIx_none _ _, (HT.sIx_nat _ _ 3).trans rfl⟩
      refine ⟨_, rfl, 3, rfl, p, _, rfl, SqT.of hLt, fun _ => ?_, fun h => absurd hwhole h⟩
      refine ⟨p, _, rfl, SqT.of hLt, rfl, _, _, rfl, _, _, rfl, _, _, rfl, rfl, ?_⟩
      have s1 : Same H H := Same.refl _
      have hT1 := hT
      have hL1 : Fx H H := ⟨fun _ _ _ _ e => e, fun _ _ e => e⟩
      obtain ⟨o, ht⟩ := isF_fol hf1
      obtain ⟨rd0, e0, at0, hrow0⟩ := hT1.at' ht
      obtain ⟨kvs0, k1, k2, k3⟩ := hrow0
      obtain ⟨es0, pe0, rfl⟩ := perm_vals k3
      have h4 : ∀ e ∈ ents t f, e.1 < 4 := fun e he => (wf.ent f e.1 e.2 he).1
      have h40 : ∀ e ∈ es0, e.1 < 4 := fun e he => h4 e (pe0.mem_iff.mp he)
      have hval := valV_dkv h40 hk4
      rw [lookE_perm pe0 (srt_nodup (wf.srt f)) k] at hval
      have hd0 : rd0.2 ∈ rds.map (·.2) := List.mem_map.mpr ⟨rd0, List.mem_of_getElem? e0, rfl⟩
      refine ⟨_, rfl, _, rfl, a, _, _, _, rfl, rfl, SqL.of hT1.1, at0, rd0.1, _, _, _, rfl, rfl, SqL.of k1, atI_nat (j := 2) rfl, rd0.2, rfl, .inl ⟨_, .inl k2⟩, _, rfl, _, Sum.inr (nm k), k2, rfl, fun v hv => ?_, fun hv => ?_⟩
      rotate_left
      · exact ⟨_, rfl, rfl, _, rfl, iteT (q1 _ ((Chg.refl _ _ _).same s1))⟩
      rw [hval] at hv
      obtain ⟨n, hlk, rfl⟩ := Option.map_eq_some_iff.mp hv
      have hkn := mem_of_lookE hlk
      have hnf := ent_ne wf hkn
      obtain ⟨_, hn0, hnl, hnG⟩ := wf.ent f k n hkn
      rw [drop_dkv h40 hk4]
      have hT2 : LTreeD (upd H rd0.2 (.dK (dkv (delE k es0)))) a rds (delEnt t f k) := by
        rw [delEnt_at ht]
        exact hT1.setd ht e0 (dkv_perm (pe0.filter _))
      have c2 : Chg a rds H (upd H rd0.2 (.dK (dkv (delE k es0)))) := ((Chg.refl _ _ _).same s1).putD hd0
      have fxd : Fx H (upd H rd0.2 (.dK (dkv (delE k es0)))) := ⟨fun b C dd fs h => by rw [upd_ne (show b ≠ rd0.2 from fun z => by rw [z, k2] at h; cases h)]; exact h, fun b xs h => by rw [upd_ne (show b ≠ rd0.2 from fun z => by rw [z, k2] at h; cases h)]; exact h⟩
      have hL2 := hL1.2 _ _ hLt
      generalize upd H rd0.2 (.dK (dkv (delE k es0))) = H2 at hT2 c2 fxd
      have lu : (delEnt t f k).length = t.length := del_len hf1
      have hun : (delEnt t f k)[n]? = t[n]? := by rw [delEnt_at ht, set_get (isF_lt hf1), if_neg hnf]
      have htn : t[n]? = some t[n] := List.getElem?_eq_getElem hnl
      have hGn := isG_at htn
      generalize t[n] = ndn at htn hGn
      rw [htn] at hun
      obtain ⟨rdn, en, atn, hrown⟩ := hT2.at' hun
      obtain ⟨on, xn, hkn2⟩ := hrown.row.kind
      refine ⟨_, rfl, rfl, _, rfl, iteF ⟨_, rfl, _, rfl, a, _, _, _, rfl, rfl, SqL.of hT2.1, atn, rdn.1, _, _, _, rfl, rfl, SqL.of hkn2, atI_nat (j := 0) rfl, rfl, ?_⟩⟩
      rw [kind_fol]
      have hunl : n < (delEnt t f k).length := by rw [lu]; exact hnl
      have hune : delEnt t f k ≠ [] := fun z => by rw [z] at hunl; cases hunl
      have hrl : (rds.map fun rd => V.ref rd.1).length = (delEnt t f k).length := by rw [List.length_map]; exact Plen hT2.2.1
      refine ⟨_, rfl, rfl, _, rfl, iteT ?_⟩
      cases ndn with
      | gon o2 b2 => rw [hnG] at hGn; cases hGn
      | fil o2 =>
        refine ⟨_, rfl, _, rfl, iteF (iteF ⟨_, rfl, _, rfl, iteF ⟨_, rfl, _, rfl, a, _, _, _, rfl, rfl, SqL.of hT2.1, atn, _, rfl, _, rfl, a, _, _, _, rfl, rfl, hT2.1, ixN_nat (by rw [hrl]; exact hunl), _, rfl, ?_⟩⟩)⟩
        refine q2 _ (delEnt t f k) c2.putA (.takeL hf1 hk4 hlk htn) ?_
        have hh := hT2.setr (R := rdn.1) hunl (show LRowD H2 (rdn.1, rdn.1) (.fil o2) from ⟨hrown.1, rfl⟩) (hns _ (List.mem_of_getElem? en)).1 hune hns
        rw [set_self hun] at hh
        exact hh
      | fol o2 es2 =>
        obtain ⟨kvs2, m1, m2, m3⟩ := id hrown
        refine ⟨_, rfl, _, rfl, iteT ⟨_, rfl, _, rfl, a, _, _, _, rfl, rfl, SqL.of hT2.1, atn, rdn.1, _, _, _, rfl, rfl, SqL.of m1, atI_nat (j := 2) rfl, fun Z nZ => ⟨rdn.2, Z, _, rfl, rfl, upd_at m2 (ne_of_none m2 nZ), upd_same, _, rfl, ?_⟩⟩⟩
        have sz := same_new (o := .dK []) nZ
        have c3 := c2.same sz
        have hT3 := hT2.same sz
        have hrow3 := hrown.same sz
        generalize upd H2 Z (.dK []) = H3 at sz c3 hT3 hrow3
        cases kvs2 with
        | cons _ _ => exact iteT (q1 _ c3)
        | nil =>
          have hes2 : es2 = [] := by
            have := m3.length_eq
            unfold dkv at this
            rw [List.length_map] at this
            exact List.length_eq_zero_iff.mp this.symm
          subst hes2
          obtain ⟨kvs3, p1, p2, p3⟩ := hrow3
          refine iteF ⟨_, rfl, _, rfl, iteT ⟨_, rfl, _, rfl, a, _, _, _, rfl, rfl, SqL.of hT3.1, atn, rdn.1, _, _, _, rfl, rfl, SqL.of p1, atI_nat (j := 1) rfl, _, rfl, (by show 3 ≤ sizeLine; decide), fun R nR => ?_⟩⟩
          have sR := same_new (o := .lst [.str "gone", .int o2, .int (f : Nat)]) nR
          have hR : upd H3 R (.lst [.str "gone", .int o2, .int (f : Nat)]) R = some (.lst [.str "gone", .int o2, .int (f : Nat)]) := upd_same
          have hT4 := hT3.same sR
          have c4 := c3.same sR
          have nRa : R ≠ a := (ne_of_none hT3.1 nR).symm
          generalize upd H3 R (.lst [.str "gone", .int o2, .int (f : Nat)]) = H4 at sR hR hT4 c4
          refine ⟨_, rfl, _, rfl, a, _, _, _, rfl, rfl, hT4.1, ixN_nat (by rw [hrl]; exact hunl), _, rfl, ?_⟩
          exact q2 _ ((delEnt t f k).set n (.gon o2 f)) c4.putA (.takeF hf1 hk4 hlk htn) (hT4.setr (R := R) hunl (show LRowD H4 (R, R) (.gon o2 f) from ⟨hR, rfl⟩) nRa hune hns)
    | move f k g j =>
      obtain ⟨hfl, hk4, hgl, hj4⟩ := hok
      have hf1 : isF t f = true := hF
      have hLt : H p = some (.tup [.str "move", .int f, .str (nm k), .int g, .str (nm j)]) := hL
      have hnw : ¬ (HT.sIx ([V.str "move", V.int (f : Nat), V.str (nm k), V.int (g : Nat), V.str (nm j)]).length 0 none = 0 ∧ HT.sIx ([V.str "move", V.int (f : Nat), V.str (nm k), V.int (g : Nat), V.str (nm j)]).length ([V.str "move", V.int (f : Nat), V.str (nm k), V.int (g : Nat), V.str (nm j)]).length (some 3) = ([V.str "move", V.int (f : Nat), V.str (nm k), V.int (g : Nat), V.str (nm j)]).length) := fun z => by
        have z2 := z.2
        rw [show (3 : Int) = ((3 : Nat) : Int) from rfl, HT.sIx_nat] at z2
        simp at z2
      have hnw2 : ¬ (HT.sIx ([V.str "move", V.int (f : Nat), V.str (nm k), V.int (g : Nat), V.str (nm j)]).length 0 (some 3) = 0 ∧ HT.sIx ([V.str "move", V.int (f : Nat), V.str (nm k), V.int (g : Nat), V.str (nm j)]).length ([V.str "move", V.int (f : Nat), V.str (nm k), V.int (g : Nat), V.str (nm j)]).length none = ([V.str "move", V.int (f : Nat), V.str (nm k), V.int (g : Nat), V.str (nm j)]).length) := fun z => by
        have z2 := z.1
        rw [show (3 : Int) = ((3 : Nat) : Int) from rfl, HT.sIx_nat] at z2
        simp at z2
      refine ⟨_, rfl, 3, rfl, p, _, rfl, SqT.of hLt, fun h => absurd h hnw, fun _ T1 nT1 => ?_⟩
      rw [show cutV [V.str "move", V.int (f : Nat), V.str (nm k), V.int (g : Nat), V.str (nm j)] none (some (3 : Int)) = [V.str "move", V.int (f : Nat), V.str (nm k)] from (cut_to _ 3).trans rfl]
      have s1 := same_new (o := .tup [V.str "move", V.int (f : Nat), V.str (nm k)]) nT1
      have hT1' : upd H T1 (.tup [V.str "move", V.int (f : Nat), V.str (nm k)]) T1 = some (.tup [V.str "move", V.int (f : Nat), V.str (nm k)]) := upd_same
      have hT1 := hT.same s1
      generalize upd H T1 (.tup [V.str "move", V.int (f : Nat), V.str (nm k)]) = H1 at s1 hT1' hT1
      refine ⟨T1, _, rfl, SqT.of hT1', rfl, _, _, rfl, _, _, rfl, _, _, rfl, rfl, ?_⟩
      have hL1 : Fx H H1 := sfx s1
      obtain ⟨o, ht⟩ := isF_fol hf1
      obtain ⟨rd0, e0, at0, hrow0⟩ := hT1.at' ht
      obtain ⟨kvs0, k1, k2, k3⟩ := hrow0
      obtain ⟨es0, pe0, rfl⟩ := perm_vals k3
      have h4 : ∀ e ∈ ents t f, e.1 < 4 := fun e he => (wf.ent f e.1 e.2 he).1
      have h40 : ∀ e ∈ es0, e.1 < 4 := fun e he => h4 e (pe0.mem_iff.mp he)
      have hval := valV_dkv h40 hk4
      rw [lookE_perm pe0 (srt_nodup (wf.srt f)) k] at hval
      have hd0 : rd0.2 ∈ rds.map (·.2) := List.mem_map.mpr ⟨rd0, List.mem_of_getElem? e0, rfl⟩
      refine ⟨_, rfl, _, rfl, a, _, _, _, rfl, rfl, SqL.of hT1.1, at0, rd0.1, _, _, _, rfl, rfl, SqL.of k1, atI_nat (j := 2) rfl, rd0.2, rfl, .inl ⟨_, .inl k2⟩, _, rfl, _, Sum.inr (nm k), k2, rfl, fun v hv => ?_, fun hv => ?_⟩
      rotate_left
      · exact ⟨_, rfl, rfl, _, rfl, iteT (q1 _ ((Chg.refl _ _ _).same s1))⟩
      rw [hval] at hv
      obtain ⟨n, hlk, rfl⟩ := Option.map_eq_some_iff.mp hv
      have hkn := mem_of_lookE hlk
      have hnf := ent_ne wf hkn
      obtain ⟨_, hn0, hnl, hnG⟩ := wf.ent f k n hkn
      rw [drop_dkv h40 hk4]
      have hT2 : LTreeD (upd H1 rd0.2 (.dK (dkv (delE k es0)))) a rds (delEnt t f k) := by
        rw [delEnt_at ht]
        exact hT1.setd ht e0 (dkv_perm (pe0.filter _))
      have c2 : Chg a rds H (upd H1 rd0.2 (.dK (dkv (delE k es0)))) := ((Chg.refl _ _ _).same s1).putD hd0
      have fxd : Fx H1 (upd H1 rd0.2 (.dK (dkv (delE k es0)))) := ⟨fun b C dd fs h => by rw [upd_ne (show b ≠ rd0.2 from fun z => by rw [z, k2] at h; cases h)]; exact h, fun b xs h => by rw [upd_ne (show b ≠ rd0.2 from fun z => by rw [z, k2] at h; cases h)]; exact h⟩
      have hL2 := fxd.2 _ _ (hL1.2 _ _ hLt)
      generalize upd H1 rd0.2 (.dK (dkv (delE k es0))) = H2 at hT2 c2 fxd hL2
      have lu : (delEnt t f k).length = t.length := del_len hf1
      have hun : (delEnt t f k)[n]? = t[n]? := by rw [delEnt_at ht, set_get (isF_lt hf1), if_neg hnf]
      have htn : t[n]? = some t[n] := List.getElem?_eq_getElem hnl
      have hGn := isG_at htn
      generalize t[n] = ndn at htn hGn
      rw [htn] at hun
      obtain ⟨rdn, en, atn, hrown⟩ := hT2.at' hun
      obtain ⟨on, xn, hkn2⟩ := hrown.row.kind
      refine ⟨_, rfl, rfl, _, rfl, iteF ⟨_, rfl, _, rfl, a, _, _, _, rfl, rfl, SqL.of hT2.1, atn, rdn.1, _, _, _, rfl, rfl, SqL.of hkn2, atI_nat (j := 0) rfl, rfl, ?_⟩⟩
      rw [kind_fol]
      refine ⟨_, rfl, rfl, _, rfl, iteF ⟨_, rfl, 3, rfl, p, _, rfl, SqT.of hL2, fun h => absurd h hnw2, fun _ T2 nT2 => ?_⟩⟩
      rw [show cutV [V.str "move", V.int (f : Nat), V.str (nm k), V.int (g : Nat), V.str (nm j)] (some (3 : Int)) none = [V.int (g : Nat), V.str (nm j)] from (cut_from _ 3).trans rfl]
      have s3 := same_new (o := .tup [V.int (g : Nat), V.str (nm j)]) nT2
      have hT2' : upd H2 T2 (.tup [V.int (g : Nat), V.str (nm j)]) T2 = some (.tup [V.int (g : Nat), V.str (nm j)]) := upd_same
      have hT3 := hT2.same s3
      have c3 := c2.same s3
      generalize upd H2 T2 (.tup [V.int (g : Nat), V.str (nm j)]) = H3 at s3 hT2' hT3 c3
      refine ⟨T2, _, rfl, SqT.of hT2', rfl, _, _, rfl, _, _, rfl, rfl, ?_⟩
      have hug : (delEnt t f k)[g]? = some ((delEnt t f k)[g]'(by rw [lu]; exact hgl)) := List.getElem?_eq_getElem (by rw [lu]; exact hgl)
      generalize (delEnt t f k)[g]'(by rw [lu]; exact hgl) = ndg at hug
      obtain ⟨rdg, eg, atg, hrowg⟩ := hT3.at' hug
      obtain ⟨og, xg, hkg⟩ := hrowg.row.kind
      refine ⟨_, rfl, _, rfl, a, _, _, _, rfl, rfl, SqL.of hT3.1, atg, rdg.1, _, _, _, rfl, rfl, SqL.of hkg, atI_nat (j := 0) rfl, rfl, _, rfl, ?_⟩
      rw [kind_fol]
      have hgF' : isF (delEnt t f k) g = isF t g := del_isF hf1 g
      cases ndg with
      | fil o2 => exact iteT (iteT (q1 _ c3))
      | gon o2 b2 => exact iteT (iteT (q1 _ c3))
      | fol o2 esg =>
        have hgF : isF t g = true := by rw [← hgF', isF_at hug]; rfl
        obtain ⟨kvg, m1, m2, m3⟩ := id hrowg
        obtain ⟨esp, pe, rfl⟩ := perm_vals m3
        have hesg : ents (delEnt t f k) g = esg := ents_at hug
        have hsg : Srt esg := by
          rw [← hesg, del_ents hf1]
          by_cases c : g = f
          · rw [if_pos c]; exact delE_srt (wf.srt f)
          · rw [if_neg c]; exact wf.srt g
        have h4g : ∀ e ∈ esg, e.1 < 4 := fun e he => by
          rw [← hesg] at he
          exact (wf.ent g e.1 e.2 ((del_mem hf1 g e.1 e.2).mp he).1).1
        have hvg := valV_dkv (fun e he => h4g e (pe.mem_iff.mp he)) hj4
        rw [lookE_perm pe (srt_nodup hsg) j] at hvg
        refine iteF ⟨_, rfl, _, rfl, _, rfl, a, _, _, _, rfl, rfl, SqL.of hT3.1, atg, rdg.1, _, _, _, rfl, rfl, SqL.of m1, atI_nat (j := 2) rfl, rdg.2, _, rfl, DGet.k (k := Sum.inr (nm j)) m2, _, rfl, ?_⟩
        rw [hvg]
        cases hlg : lookE j esg with
        | some n2 => exact iteT (iteT (q1 _ c3))
        | none =>
          refine iteF ⟨_, rfl, _, rfl, (by show 2 ≤ sizeLine; decide), fun A1 nA1 => ⟨_, rfl, _, rfl, (by show 2 ≤ sizeLine; decide), fun A2 nA2 => ?_⟩⟩
          have sA := same_new (o := .tup [.int (g : Nat), .str (nm j)]) nA1
          have sA2 := snew (o := .tup [.int (f : Nat), .str (nm k)]) sA nA2
          have hA1 := upd_at (o := .tup [.int (f : Nat), .str (nm k)]) (upd_same : upd H3 A1 (.tup [.int (g : Nat), .str (nm j)]) A1 = _) (ne_of_none upd_same nA2)
          have hA2 : upd (upd H3 A1 (.tup [.int (g : Nat), .str (nm j)])) A2 (.tup [.int (f : Nat), .str (nm k)]) A2 = some (.tup [.int (f : Nat), .str (nm k)]) := upd_same
          have hT9 := hT3.same sA2
          have c9 := c3.same sA2
          have gg1 := sA2 _ _ m1
          have gg2 := sA2 _ _ m2
          generalize upd (upd H3 A1 (.tup [.int (g : Nat), .str (nm j)])) A2 (.tup [.int (f : Nat), .str (nm k)]) = H9 at sA2 hA1 hA2 hT9 c9 gg1 gg2
          refine ⟨_, _, .tup (SqT.of hA1) (.cons (.int _) (.cons (.str _) .nil)), .tup (SqT.of hA2) (.cons (.int _) (.cons (.str _) .nil)), shp _ _ hj4, shp _ _ hk4, _, rfl, ?_⟩
          rw [eqvN g f j k hj4 hk4]
          by_cases cgf : g = f ∧ j = k
          · rw [decide_eq_true cgf]
            exact iteT (q1 _ c9)
          rw [decide_eq_false cgf]
          have hnog : lookE j (ents t g) = none := by
            rw [lookE_none] at hlg ⊢
            intro e he hej
            by_cases c : g = f ∧ e.1 = k
            · exact cgf ⟨c.1, hej.symm.trans c.2⟩
            · exact hlg e (by rw [← hesg]; exact (del_mem hf1 g e.1 e.2).mpr ⟨he, c⟩) hej
          have hlk9 : (dkv esp).length < sizeLine := by
            unfold dkv
            rw [List.length_map, pe.length_eq]
            exact Nat.lt_of_le_of_lt (srt_len hsg h4g) (by decide)
          have hdg : rdg.2 ∈ rds.map (·.2) := List.mem_map.mpr ⟨rdg, List.mem_of_getElem? eg, rfl⟩
          have fin9 : ∀ H8, LTreeD H8 a rds (delEnt t f k) → Chg a rds H H8 → H8 rdg.2 = some (.dK (dkv esp)) → (isF t n = true → ¬ Bel t n g) → Q (.ref a) (upd H8 rdg.2 (.dK (putK (dkv esp) (Sum.inr (nm j)) (.int (n : Nat))))) := fun H8 hT8 c8 _ hb => by
            have hne8 : delEnt t f k ≠ [] := fun z => by rw [z] at lu; rw [← lu] at hnl; cases hnl
            have e8 : addEnt (delEnt t f k) g j n = (delEnt t f k).set g (.fol o2 (insE j n esg)) := addEnt_at hug
            have hp8 : (putK (dkv esp) (Sum.inr (nm j)) (V.int (n : Nat))).Perm (dkv (insE j n esg)) := by
              rw [putK_new _ (by rw [hvg, hlg]; rfl)]
              refine (List.perm_append_comm.trans ?_ : (dkv esp ++ [(Sum.inr (nm j), V.int (n : Nat))]).Perm _)
              exact ((dkv_perm pe).cons _).trans (dkv_perm (insE_perm j n esg)).symm
            have h8 := hT8.setd hug eg hp8
            refine q2 _ _ (c8.putD hdg) (.move hf1 hk4 hgF hj4 hlk hnog hb) ?_
            rw [e8]
            refine h8.tree fun z => hne8 ?_
            have := congrArg List.length z
            rw [List.length_set] at this
            exact List.length_eq_zero_iff.mp this
          refine iteF ⟨_, rfl, _, rfl, ?_⟩
          cases hnF : ndn.isF with
          | false => exact iteF (iteF ⟨_, rfl, _, rfl, _, rfl, a, _, _, _, rfl, rfl, SqL.of hT9.1, atg, rdg.1, _, _, _, rfl, rfl, SqL.of gg1, atI_nat (j := 2) rfl, _, rfl, rdg.2, _, rfl, DPut.k (k := Sum.inr (nm j)) gg2 hlk9, _, rfl, fin9 _ hT9 c9 gg2 (fun z => by rw [isF_at htn, hnF] at z; cases z)⟩)
          | true =>
            have hnF2 : isF t n = true := (isF_at htn).trans hnF
            have hne8 : delEnt t f k ≠ [] := fun z => by rw [z] at lu; rw [← lu] at hnl; cases hnl
            refine iteT ⟨_, rfl, _, rfl, _, rfl, a, t, f, k, n, g, rfl, hT9.tree hne8, wf, hlen, hf1, hlk, hgF, hnF2, fun b H10 s10 hb => ⟨_, rfl, ?_⟩⟩
            have hT9 := hT9.same s10
            have c9 := c9.same s10
            have gg1 := s10 _ _ gg1
            have gg2 := s10 _ _ gg2
            cases b with
            | true => exact iteT (q1 _ c9)
            | false => exact iteF ⟨_, rfl, _, rfl, _, rfl, a, _, _, _, rfl, rfl, SqL.of hT9.1, atg, rdg.1, _, _, _, rfl, rfl, SqL.of gg1, atI_nat (j := 2) rfl, _, rfl, rdg.2, _, rfl, DPut.k (k := Sum.inr (nm j)) gg2 hlk9, _, rfl, fin9 _ hT9 c9 gg2 (fun _ => hb rfl)⟩
end
end NW
set_option Elab.async false
set_option linter.all false
set_option maxRecDepth 100000
set_option maxHeartbeats 2000000
/-! W34: the law's done. -/
namespace NW
open PySem PySem.Spec PyProof.Rows L2
/-- a deed's kind -/
def Dd.kd : Dd → Str
  | .mkF _ _ _ => "folder"
  | .mkL _ _ _ => "file"
  | .put _ _ _ => "put"
  | .take _ _ => "take"
  | .move _ _ _ _ => "move"
/-- what stands behind a deed's kind, folder and name -/
def Dd.more : Dd → List V
  | .mkF _ _ o => [.int o]
  | .mkL _ _ o => [.int o]
  | .put _ _ n => [.int n]
  | .take _ _ => []
  | .move _ _ g j => [.int g, .str (nm j)]
def Dd.nk : Dd → Nat
  | .mkF _ k _ => k
  | .mkL _ k _ => k
  | .put _ k _ => k
  | .take _ k => k
  | .move _ k _ _ => k
theorem LDeed.all {H : Hp} {p : Addr} {d : Dd} (h : LDeed H p d) : H p = some (.tup (.str d.kd :: .int d.f :: .str (nm d.nk) :: d.more)) := by cases d <;> exact h
theorem DdOk.f {t : Tr} {d : Dd} (h : DdOk t d) : d.f < t.length ∧ d.nk < 4 := by cases d <;> exact ⟨h.1, by first | exact h.2.1 | exact h.2⟩
theorem kd_in (d : Dd) : inV (.str d.kd) [.str "take", .str "move"] = (d.isTake || d.isMove) := by
  cases d with
  | mkF f k o => exact (by decide +kernel : inV (.str "folder") [.str "take", .str "move"] = false)
  | mkL f k o => exact (by decide +kernel : inV (.str "file") [.str "take", .str "move"] = false)
  | put f k o => exact (by decide +kernel : inV (.str "put") [.str "take", .str "move"] = false)
  | take f k => exact (by decide +kernel : inV (.str "take") [.str "take", .str "move"] = true)
  | move f k g j => exact (by decide +kernel : inV (.str "move") [.str "take", .str "move"] = true)
theorem LTreeD.app {H : Hp} {a R d : Addr} {rds : List (Addr × Addr)} {t : Tr} {nd : Nd} (h : LTreeD H a rds t) (hn : ∀ rd ∈ rds, rd.1 ≠ a ∧ rd.2 ≠ a) (hR : LRowD H (R, d) nd) (nR : R ≠ a) (ndd : d ≠ a) :
    LTree (upd H a (.lst ((rds.map fun rd => V.ref rd.1) ++ [.ref R]))) a (t ++ [nd]) := by
  obtain ⟨h1, h2, h3⟩ := h
  refine ⟨rds.map (·.1) ++ [R], ?_, fun z => by simp at z, Paired.snoc ?_ (hR.sb sb_upd nR ndd).row⟩
  · rw [upd_same, List.map_append, List.map_map]
    rfl
  · have gen : ∀ {l : List (Addr × Addr)} {m : Tr}, Paired (LRowD H) l m → (∀ rd ∈ l, rd.1 ≠ a ∧ rd.2 ≠ a) → Paired (LRowD (upd H a (.lst ((rds.map fun rd => V.ref rd.1) ++ [.ref R])))) l m := by
      intro l m hp
      induction hp with
      | nil => exact fun _ => .nil
      | cons h _ ih => exact fun hn => .cons (h.sb sb_upd (hn _ List.mem_cons_self).1 (hn _ List.mem_cons_self).2) (ih fun rd hrd => hn rd (List.mem_cons_of_mem _ hrd))
    exact LRowD.rows (gen h2 hn)
def Nd.nfil : Nd → Bool
  | .fil _ => false
  | _ => true
theorem kd_file (nd : Nd) : (if true = true then !inV (V.str nd.kind) [.str "file", .str "link"] else inV (V.str nd.kind) [.str "file", .str "link"]) = nd.nfil := by
  cases nd with
  | fol o es => exact (by decide +kernel : (if true = true then !inV (V.str "folder") [.str "file", .str "link"] else inV (V.str "folder") [.str "file", .str "link"]) = true)
  | fil o => exact (by decide +kernel : (if true = true then !inV (V.str "file") [.str "file", .str "link"] else inV (V.str "file") [.str "file", .str "link"]) = false)
  | gon o a => exact (by decide +kernel : (if true = true then !inV (V.str "gone") [.str "file", .str "link"] else inV (V.str "gone") [.str "file", .str "link"]) = true)
theorem add_snoc {t : Tr} {f k n : Nat} {nd : Nd} (h : isF t f = true) : addEnt (t ++ [nd]) f k n = addEnt t f k n ++ [nd] := by
  obtain ⟨o, ht⟩ := isF_fol h
  have hl := isF_lt h
  have h2 : (t ++ [nd])[f]? = some (.fol o (ents t f)) := by rw [List.getElem?_append_left hl]; exact ht
  rw [addEnt_at ht, addEnt_at h2, List.set_append_left _ _ hl]
theorem mrg2 (x y : V) : mergeK [] [(Sum.inr "folder", x), (Sum.inr "link", y)] = ([(Sum.inr "folder", x), (Sum.inr "link", y)] : List (Key × V)) := by
  show putK (putK ([] : List (Key × V)) (Sum.inr "folder") x) (Sum.inr "link") y = _
  rw [putK_new (kvs := putK ([] : List (Key × V)) (Sum.inr "folder") x)]
  · rfl
  · show valV ([(Sum.inr "folder", x)] : List (Key × V)) (Sum.inr "link") = none
    rw [valV_neg (fun z => absurd (Sum.inr.inj z) (by decide +kernel))]
    rfl
theorem mrg2_fol (x y : V) : valV (mergeK [] [(Sum.inr "folder", x), (Sum.inr "link", y)]) (Sum.inr "folder") = some x := by rw [mrg2, valV_pos rfl]
theorem mrg2_fil (x y : V) : valV (mergeK [] [(Sum.inr "folder", x), (Sum.inr "link", y)]) (Sum.inr "file") = none := by
  rw [mrg2, valV_neg (fun z => absurd (Sum.inr.inj z) (by decide +kernel)), valV_neg (fun z => absurd (Sum.inr.inj z) (by decide +kernel))]
  rfl
theorem DGet.k' {H : Hp} {a : Addr} {kvs : List (Key × V)} {k : Key} {r : Option V} (e : H a = some (.dK kvs)) (hv : valV kvs k = r) : DGet H a (kV k) r := hv ▸ DGet.k e
section
variable {P : Program} {w : World} {K : Frag} {mg : Str → Option Value} {base : Heap}
def spLDone : Sp := fun vs H Q _ => ∃ (a0 p : Addr) (t : Tr) (d : Dd), vs = [.ref a0, .ref p] ∧ LTree H a0 t ∧ LDeed H p d ∧ DdOk t d ∧ WF t ∧ t.length ≤ 999 ∧
  (∀ H', Same H H' → Q .non H') ∧ ∀ a t' H', Same H H' → Step t d t' → LTree H' a t' → Q (.ref a) H'
theorem sc_Ldone : FnScope ["_law_nodes", "_law_deed_here", "_law_found", "_law_kind", "_law_entries"] ["_law_nodes", "_law_deed_here"] (defScope s_Ldone) := ⟨rfl, rfl, rfl, by decide +kernel, rfl, by decide +kernel, by decide +kernel⟩
theorem ok_Ldone (T : Txt K mg) : Cal P w K mg base 4 "_law_done" spLDone [] := by
  refine cal T.f_Ldone T.g_Ldone sc_Ldone (fun _ _ _ _ _ _ us hl => match us, hl with | [_, _], _ => rfl) (fun vs H Q E h => ?_) (fun cdv A outer s H vs Q E hr h => ?_)
  · obtain ⟨a, p, t, d, rfl, _⟩ := h
    rfl
  · obtain ⟨a0, p, t, d, rfl, hT0, hL0, hok, wf, hlen, q1, q2⟩ := h
    have nd := sc_Ldone.nd
    have hu := hu_of hr
    refine ⟨_, pss_cons (ps_par (i := 2) (j := 3) rfl nd rfl rfl (by decide) rfl rfl (pa_cons (C8.pe_c (ok_Lcopy T) hr (by decide) rfl (pa_cons (pv 0) pa_nil)) (pa_cons (pe_ix ix_tup (pv 1) pe_int (fun _ _ => rfl)) pa_nil)) (by rfl))
      (pss_cons (ps_if (pt_cmpR op_ne (pe_ix ix_list (pe_ix ix_list (pv 2) (pe_ix ix_tup (pv 1) pe_int (fun _ _ => rfl)) (fun _ _ => rfl)) pe_int (fun _ _ => rfl)) pe_str (nomark _)) (pss_one (ps_ret pe_non)) pss_nil)
      (pss_cons (ps_if (pt_cmpR op_in_seq (pv 3) (pe_tup (pa_cons pe_str (pa_cons pe_str pa_nil))) (by rfl)) (pss_one (ps_ret (C8.pe_c (ok_Ltaken T) hr (by decide) rfl (pa_cons (pv 2) (pa_cons (pv 1) pa_nil))))) pss_nil)
      (pss_cons (ps_set (i := 4) nd rfl (Or.inl rfl) (pe_ix ix_list (pe_ix ix_list (pv 2) (pe_ix ix_tup (pv 1) pe_int (fun _ _ => rfl)) (fun _ _ => rfl)) pe_int (fun _ _ => rfl)))
      (pss_cons (ps_if (PW.pt (pw_or (pt_cmp (pc_din hu (pe_ix ix_tup (pv 1) pe_int (fun _ _ => rfl)) (pv 4))) (pw_or1 (PW.pt (pw_and (pt_cmpR op_eq (pv 3) pe_str (nomark _)) (pw_and1 (pt_cmpR op_notIn_seq (pe_ix ix_list (pe_ix ix_list (pv 2) (pe_ix ix_tup (pv 1) pe_int (fun _ _ => rfl)) (fun _ _ => rfl)) pe_int (fun _ _ => rfl)) (pe_tup (pa_cons pe_str (pa_cons pe_str pa_nil))) (by rfl)))))))) (pss_one (ps_ret pe_non)) pss_nil)
      (pss_cons (ps_dput hu (pv 4) (pe_ix ix_tup (pv 1) pe_int (fun _ _ => rfl)) (pe_ifExp (pt_cmpR op_eq (pv 3) pe_str (nomark _)) (pe_ix ix_tup (pv 1) pe_int (fun _ _ => rfl)) (pe_callB call_len_seq (by rfl) T.n_len PySem.boot_len (pa_cons (pv 2) pa_nil))) rfl)
      (pss_cons (ps_if (pt_cmpR op_ne (pv 3) pe_str (nomark _)) (pss_one (ps_expr (pe_bm PySem.F.plainAttrs_list PySem.F.slot_list_append PySem.F.type_list_append mt_append (pv 2) (pa_cons (pe_lst (pa_cons (pv 3) (pa_cons (pe_ix ix_tup (pv 1) pe_int (fun _ _ => rfl)) (pa_cons (pe_dget1 hu (pe_disp (pps_cons pe_str pe_dnewK (pps_cons pe_str (pe_ix ix_tup (pv 1) (pe_un un_neg pe_int) (fun _ _ => rfl)) pps_nil)) (by rfl) (by rfl) (fun z => by cases z) (by decide)) (pv 3) ⟨rfl, rfl, rfl, rfl⟩) pa_nil)))) pa_nil)))) pss_nil)
      (pss_one (ps_ret (pv 2))))))))), ?_⟩
    refine ⟨_, rfl, a0, t, rfl, hT0, Nat.le_trans hlen (by decide), fun a rds H1 s1 na nrds hT => ?_⟩
    have hL := hL0.same s1
    have hLa := hL.all
    have hne : t ≠ [] := by
      obtain ⟨rs, _, hrs, hp⟩ := hT0
      rintro rfl
      exact hrs (List.length_eq_zero_iff.mp (Plen hp))
    have hns : ∀ rd ∈ rds, rd.1 ≠ a ∧ rd.2 ≠ a := fun rd hrd => by
      obtain ⟨ndd, hrow⟩ := Pmem hT.2.1 hrd
      have ha := hT.1
      have h0 : rd.1 ≠ a := fun z => by
        obtain ⟨o, x, hk⟩ := hrow.row.kind
        rw [z, ha] at hk
        cases rds with
        | nil => cases hrd
        | cons r0 rs => cases hk
      refine ⟨h0, fun z => ?_⟩
      cases ndd with
      | fol o es => obtain ⟨kvs, _, h2, _⟩ := hrow; rw [z, ha] at h2; cases h2
      | fil o => exact h0 (hrow.2.symm.trans z)
      | gon o b => exact h0 (hrow.2.symm.trans z)
    have hch : ∀ H', Chg a rds H1 H' → Same H H' := fun H' c b o e => c b o (ne_of_none e na) (fun z => by
      obtain ⟨rd, hrd, rfl⟩ := List.mem_map.mp z
      rw [(nrds rd hrd).1] at e
      cases e) (s1 _ _ e)
    obtain ⟨hfl, hk4⟩ := hok.f
    have htf : t[d.f]? = some t[d.f] := List.getElem?_eq_getElem hfl
    generalize t[d.f] = ndf at htf
    obtain ⟨rdf, ef, atf, hrowf⟩ := hT.at' htf
    obtain ⟨of, xf, hkf⟩ := hrowf.row.kind
    refine ⟨_, rfl, p, _, _, _, rfl, rfl, SqT.of hLa, atI_nat (j := 0) rfl, _, _, rfl, ?_⟩
    refine ⟨_, rfl, _, rfl, p, _, _, _, rfl, rfl, SqT.of hLa, atI_nat (j := 1) rfl, a, _, _, _, rfl, rfl, SqL.of hT.1, atf, rdf.1, _, _, _, rfl, rfl, SqL.of hkf, atI_nat (j := 0) rfl, rfl, ?_⟩
    rw [kind_fol]
    cases hF : ndf.isF with
    | false => exact ⟨_, rfl, iteT (q1 _ s1)⟩
    | true =>
      have hF1 : isF t d.f = true := (isF_at htf).trans hF
      refine ⟨_, rfl, iteF ⟨_, rfl, (by show 2 ≤ sizeLine; decide), fun p2 np => ⟨p2, _, rfl, .inr (SqT.of upd_same), rfl, rfl, _, rfl, ?_⟩⟩⟩
      have s12 := same_new (o := .tup [.str "take", .str "move"]) np
      have s2 := s1.trans s12
      have hT2 := hT.same s12
      have hL2 := hL.same s12
      have na2 : H a = none := na
      have hch2 : ∀ H', Chg a rds (upd H1 p2 (.tup [.str "take", .str "move"])) H' → Same H H' := fun H' c b o e => c b o (ne_of_none e na) (fun z => by
        obtain ⟨rd, hrd, rfl⟩ := List.mem_map.mp z
        rw [(nrds rd hrd).1] at e
        cases e) (s2 _ _ e)
      generalize upd H1 p2 (.tup [.str "take", .str "move"]) = H2 at s12 s2 hT2 hL2 hch2
      rw [show (if false = true then !inV (V.str d.kd) [.str "take", .str "move"] else inV (V.str d.kd) [.str "take", .str "move"]) = (d.isTake || d.isMove) from (if_neg (fun z => by cases z)).trans (kd_in d)]
      cases hd : (d.isTake || d.isMove) with
      | true => exact iteT ⟨_, rfl, _, rfl, a, p, rds, t, d, rfl, hT2, hns, hL2, by rw [Bool.or_eq_true] at hd; exact hd, hok, wf, Nat.le_trans hlen (by decide), hF1, fun H' c => q1 _ (hch2 _ c), fun H' t' c st lt => q2 _ _ _ (hch2 _ c) st lt⟩
      | false =>
        obtain ⟨rd2, ef2, atf2, hrow2⟩ := hT2.at' htf
        cases ndf with
        | fil o2 => cases hF
        | gon o2 b2 => cases hF
        | fol o2 es =>
          obtain ⟨kvs, k1, k2, k3⟩ := hrow2
          obtain ⟨es0, pe0, rfl⟩ := perm_vals k3
          have hLa2 := hL2.all
          have hes : ents t d.f = es := ents_at htf
          have h4 : ∀ e ∈ es0, e.1 < 4 := fun e he => (wf.ent d.f e.1 e.2 (by rw [hes]; exact pe0.mem_iff.mp he)).1
          have hval := valV_dkv h4 hk4
          rw [lookE_perm pe0 (by rw [← hes]; exact srt_nodup (wf.srt d.f)) d.nk] at hval
          refine iteF ⟨_, rfl, _, rfl, p, _, _, _, rfl, rfl, SqT.of hLa2, atI_nat (j := 1) rfl, a, _, _, _, rfl, rfl, SqL.of hT2.1, atf2, rd2.1, _, _, _, rfl, rfl, SqL.of k1, atI_nat (j := 2) rfl, ?_⟩
          refine ⟨_, rfl, p, _, _, _, rfl, rfl, SqT.of hLa2, atI_nat (j := 2) rfl, _, rfl, rd2.2, _, rfl, DGet.k (k := Sum.inr (nm d.nk)) k2, _, rfl, ?_⟩
          rw [hval]
          cases hlk : lookE d.nk es with
          | some n2 => exact iteT (iteT (q1 _ s2))
          | none =>
            have hfin : ∀ (H8 : Hp) (n : Nat), LTreeD H8 a rds t → H8 rd2.2 = some (.dK (dkv es0)) → LTreeD (upd H8 rd2.2 (.dK (putK (dkv es0) (Sum.inr (nm d.nk)) (.int (n : Nat))))) a rds (addEnt t d.f d.nk n) := fun H8 n hT8 _ => by
              rw [addEnt_at htf]
              refine hT8.setd htf ef2 ?_
              rw [putK_new _ (by rw [hval, hlk]; rfl)]
              refine (List.perm_append_comm.trans ?_ : (dkv es0 ++ [(Sum.inr (nm d.nk), V.int (n : Nat))]).Perm _)
              exact ((dkv_perm pe0).cons _).trans (dkv_perm (insE_perm d.nk n es)).symm
            have hlk9 : (dkv es0).length < sizeLine := by
              unfold dkv
              rw [List.length_map, pe0.length_eq]
              exact Nat.lt_of_le_of_lt (srt_len (by rw [← hes]; exact wf.srt d.f) (fun e he => h4 e (pe0.mem_iff.mpr he))) (by decide)
            have hdg : rd2.2 ∈ rds.map (·.2) := List.mem_map.mpr ⟨rd2, List.mem_of_getElem? ef2, rfl⟩
            have hlo : lookE d.nk (ents t d.f) = none := by rw [hes]; exact hlk
            cases d with
            | take f k => cases hd
            | move f k g j => cases hd
            | put f k n =>
              obtain ⟨_, _, hnl⟩ := hok
              have htn : t[n]? = some t[n] := List.getElem?_eq_getElem hnl
              generalize t[n] = ndn at htn
              obtain ⟨rdn, en, atn, hrown⟩ := hT2.at' htn
              obtain ⟨on, xn, hkn2⟩ := hrown.row.kind
              refine iteF ⟨_, rfl, rfl, _, rfl, ?_⟩
              rw [show decide (V.str (Dd.put f k n).kd = V.str "put") = true from (by decide +kernel : decide (V.str "put" = V.str "put") = true)]
              refine iteT ⟨_, rfl, _, rfl, ?_⟩
              refine ⟨p, _, _, _, rfl, rfl, SqT.of hLa2, atI_nat (j := 3) rfl, a, _, _, _, rfl, rfl, SqL.of hT2.1, atn, rdn.1, _, _, _, rfl, rfl, SqL.of hkn2, atI_nat (j := 0) rfl, (by show 2 ≤ sizeLine; decide), fun p3 np3 => ⟨p3, _, rfl, .inr (SqT.of upd_same), rfl, rfl, _, rfl, ?_⟩⟩
              have s23 := same_new (o := .tup [.str "file", .str "link"]) np3
              have s3 := s2.trans s23
              have hT3 := hT2.same s23
              have hLa3 := s23 _ _ hLa2
              have k23 := s23 _ _ k2
              have c3 := (Chg.refl a rds H2).same s23
              generalize upd H2 p3 (.tup [.str "file", .str "link"]) = H3 at s23 s3 hT3 hLa3 k23 c3
              rw [kd_file]
              cases ndn with
              | fol o3 es3 => exact iteT (q1 _ s3)
              | gon o3 b3 => exact iteT (q1 _ s3)
              | fil o3 =>
                have eput : decide (V.str (Dd.put f k n).kd = V.str "put") = true := (by decide +kernel : decide (V.str "put" = V.str "put") = true)
                refine iteF ⟨_, rfl, rfl, _, rfl, ?_⟩
                rw [eput]
                refine iteT ⟨_, rfl, p, _, _, _, rfl, rfl, SqT.of hLa3, atI_nat (j := 3) rfl, _, rfl, _, rfl, p, _, _, _, rfl, rfl, SqT.of hLa3, atI_nat (j := 2) rfl, rd2.2, _, rfl, DPut.k (k := Sum.inr (nm k)) k23 hlk9, ?_⟩
                have hT4 := hfin H3 n hT3 k23
                have c4 := c3.putD (u := .dK (putK (dkv es0) (Sum.inr (nm k)) (.int (n : Nat)))) hdg
                refine ⟨_, rfl, rfl, _, rfl, ?_⟩
                rw [eput]
                refine iteF ⟨_, rfl, ?_⟩
                refine q2 _ _ _ (hch2 _ c4) (.put hF1 hk4 htn hlo) (hT4.tree fun z => ?_)
                have := congrArg List.length z
                rw [add_len hF1] at this
                exact hne (List.length_eq_zero_iff.mp this)
            | mkF f k o =>
              obtain ⟨_, _, ho⟩ := hok
              have hF1 : isF t f = true := hF1
              have eput : decide (V.str (Dd.mkF f k o).kd = V.str "put") = false := (by decide +kernel : decide (V.str "folder" = V.str "put") = false)
              refine iteF ⟨_, rfl, rfl, _, rfl, ?_⟩
              rw [eput]
              refine iteF (iteF ⟨_, rfl, rfl, _, rfl, ?_⟩)
              rw [eput]
              refine iteF ⟨_, rfl, a, _, rfl, .inl (SqL.of hT2.1), _, rfl, _, rfl, p, _, _, _, rfl, rfl, SqT.of hLa2, atI_nat (j := 2) rfl, rd2.2, _, rfl, DPut.k (k := Sum.inr (nm k)) k2 hlk9, ?_⟩
              rw [List.length_map, Plen hT2.2.1]
              have hT4 : LTreeD (upd H2 rd2.2 (.dK (putK (dkv es0) (Sum.inr (nm k)) (.int (t.length : Nat))))) a rds (addEnt t f k t.length) := hfin H2 t.length hT2 k2
              have c4 := (Chg.refl a rds H2).putD (u := .dK (putK (dkv es0) (Sum.inr (nm k)) (.int (t.length : Nat)))) hdg
              have hLa4 := upd_at (o := .dK (putK (dkv es0) (Sum.inr (nm k)) (.int (t.length : Nat)))) hLa2 (show p ≠ rd2.2 from fun z => by rw [z, k2] at hLa2; cases hLa2)
              generalize upd H2 rd2.2 (.dK (putK (dkv es0) (Sum.inr (nm k)) (.int (t.length : Nat)))) = H4 at hT4 c4 hLa4
              refine ⟨_, rfl, rfl, _, rfl, ?_⟩
              rw [eput]
              refine iteT ⟨_, rfl, Or.inl ⟨rfl, _, SqL.of hT4.1⟩, _, rfl, _, rfl, p, _, _, _, rfl, rfl, SqT.of hLa4, atI_nat (j := 3) rfl, fun D nD D2 nD2 => ⟨_, rfl, _, rfl, p, _, _, _, rfl, rfl, SqT.of (snew (o := .dK []) (same_new (o := .dK []) nD) nD2 _ _ hLa4), (rfl : atI [V.str "folder", V.int (f : Nat), V.str (nm k), V.int o] (-1) = some (V.int o)), ?_⟩⟩
              have s5 := snew (o := .dK []) (same_new (o := .dK []) nD) nD2
              have hD : upd (upd H4 D (.dK [])) D2 (.dK []) D = some (.dK []) := upd_at upd_same (ne_of_none upd_same nD2)
              have hD2 : upd (upd H4 D (.dK [])) D2 (.dK []) D2 = some (.dK []) := upd_same
              have nDD : D2 ≠ D := (ne_of_none (show upd H4 D (HO.dK []) D = some (.dK []) from upd_same) nD2).symm
              have nD24 : H4 D2 = none := (same_new (o := .dK []) nD).free nD2
              have hT5 := hT4.same s5
              have c5 := c4.same s5
              have hLa5 := s5 _ _ hLa4
              generalize upd (upd H4 D (.dK [])) D2 (.dK []) = H5 at s5 hD hD2 hT5 c5 hLa5
              refine ⟨hD, [(Sum.inr "folder", .ref D2), (Sum.inr "link", .int o)], rfl, (by show 2 ≤ 15; decide), ?_⟩
              have s6 := (sput s5 nD : Same H4 (upd H5 D (.dK (mergeK [] [(Sum.inr "folder", V.ref D2), (Sum.inr "link", V.int o)]))))
              have hD26 := upd_at (o := .dK (mergeK [] [(Sum.inr "folder", V.ref D2), (Sum.inr "link", V.int o)])) hD2 nDD
              refine ⟨D, rfl, .inl ⟨_, .inl upd_same⟩, _, rfl, some (.ref D2), (DGet.k' (k := Sum.inr "folder") upd_same (mrg2_fol (.ref D2) (.int o)) : DGet _ D (kV (Sum.inr "folder")) (some (V.ref D2))), (by show 3 ≤ sizeLine; decide), fun R nR => ?_⟩
              generalize upd H5 D (.dK (mergeK [] [(Sum.inr "folder", V.ref D2), (Sum.inr "link", V.int o)])) = H6 at s6 hD26 nR
              have s7 := snew (o := .lst [.str "folder", .int o, .ref D2]) s6 nR
              have hT7 := hT4.same s7
              have c7 := c4.same s7
              have nRa : R ≠ a := (ne_of_none (s6 _ _ hT4.1) nR).symm
              have nD2a : D2 ≠ a := (ne_of_none hT4.1 nD24).symm
              have hR : upd H6 R (.lst [.str "folder", .int o, .ref D2]) R = some (.lst [.str "folder", .int o, .ref D2]) := upd_same
              have hD27 := upd_at (o := .lst [.str "folder", .int o, .ref D2]) hD26 (ne_of_none hD26 nR)
              refine ⟨a, _, _, rfl, rfl, hT7.1, ?_, _, rfl, ?_⟩
              · rw [List.length_map, Plen hT7.2.1, add_len hF1]
                exact Nat.lt_of_le_of_lt hlen (by decide)
              · refine q2 _ _ _ (hch2 _ c7.putA) (.mkF hF1 hk4 ho hlo) ?_
                rw [add_snoc hF1]
                exact hT7.app hns (d := D2) ⟨[], hR, hD27, .refl _⟩ nRa nD2a
            | mkL f k o =>
              obtain ⟨_, _, ho⟩ := hok
              have hF1 : isF t f = true := hF1
              have eput : decide (V.str (Dd.mkL f k o).kd = V.str "put") = false := (by decide +kernel : decide (V.str "file" = V.str "put") = false)
              refine iteF ⟨_, rfl, rfl, _, rfl, ?_⟩
              rw [eput]
              refine iteF (iteF ⟨_, rfl, rfl, _, rfl, ?_⟩)
              rw [eput]
              refine iteF ⟨_, rfl, a, _, rfl, .inl (SqL.of hT2.1), _, rfl, _, rfl, p, _, _, _, rfl, rfl, SqT.of hLa2, atI_nat (j := 2) rfl, rd2.2, _, rfl, DPut.k (k := Sum.inr (nm k)) k2 hlk9, ?_⟩
              rw [List.length_map, Plen hT2.2.1]
              have hT4 : LTreeD (upd H2 rd2.2 (.dK (putK (dkv es0) (Sum.inr (nm k)) (.int (t.length : Nat))))) a rds (addEnt t f k t.length) := hfin H2 t.length hT2 k2
              have c4 := (Chg.refl a rds H2).putD (u := .dK (putK (dkv es0) (Sum.inr (nm k)) (.int (t.length : Nat)))) hdg
              have hLa4 := upd_at (o := .dK (putK (dkv es0) (Sum.inr (nm k)) (.int (t.length : Nat)))) hLa2 (show p ≠ rd2.2 from fun z => by rw [z, k2] at hLa2; cases hLa2)
              generalize upd H2 rd2.2 (.dK (putK (dkv es0) (Sum.inr (nm k)) (.int (t.length : Nat)))) = H4 at hT4 c4 hLa4
              refine ⟨_, rfl, rfl, _, rfl, ?_⟩
              rw [eput]
              refine iteT ⟨_, rfl, Or.inl ⟨rfl, _, SqL.of hT4.1⟩, _, rfl, _, rfl, p, _, _, _, rfl, rfl, SqT.of hLa4, atI_nat (j := 3) rfl, fun D nD D2 nD2 => ⟨_, rfl, _, rfl, p, _, _, _, rfl, rfl, SqT.of (snew (o := .dK []) (same_new (o := .dK []) nD) nD2 _ _ hLa4), (rfl : atI [V.str "file", V.int (f : Nat), V.str (nm k), V.int o] (-1) = some (V.int o)), ?_⟩⟩
              have s5 := snew (o := .dK []) (same_new (o := .dK []) nD) nD2
              have hD : upd (upd H4 D (.dK [])) D2 (.dK []) D = some (.dK []) := upd_at upd_same (ne_of_none upd_same nD2)
              have hD2 : upd (upd H4 D (.dK [])) D2 (.dK []) D2 = some (.dK []) := upd_same
              have nDD : D2 ≠ D := (ne_of_none (show upd H4 D (HO.dK []) D = some (.dK []) from upd_same) nD2).symm
              have nD24 : H4 D2 = none := (same_new (o := .dK []) nD).free nD2
              have hT5 := hT4.same s5
              have c5 := c4.same s5
              have hLa5 := s5 _ _ hLa4
              generalize upd (upd H4 D (.dK [])) D2 (.dK []) = H5 at s5 hD hD2 hT5 c5 hLa5
              refine ⟨hD, [(Sum.inr "folder", .ref D2), (Sum.inr "link", .int o)], rfl, (by show 2 ≤ 15; decide), ?_⟩
              have s6 := (sput s5 nD : Same H4 (upd H5 D (.dK (mergeK [] [(Sum.inr "folder", V.ref D2), (Sum.inr "link", V.int o)]))))
              have hD26 := upd_at (o := .dK (mergeK [] [(Sum.inr "folder", V.ref D2), (Sum.inr "link", V.int o)])) hD2 nDD
              refine ⟨D, rfl, .inl ⟨_, .inl upd_same⟩, _, rfl, none, (DGet.k' (k := Sum.inr "file") upd_same (mrg2_fil (.ref D2) (.int o)) : DGet _ D (kV (Sum.inr "file")) none), (by show 3 ≤ sizeLine; decide), fun R nR => ?_⟩
              generalize upd H5 D (.dK (mergeK [] [(Sum.inr "folder", V.ref D2), (Sum.inr "link", V.int o)])) = H6 at s6 hD26 nR
              have s7 := snew (o := .lst [.str "file", .int o, .non]) s6 nR
              have hT7 := hT4.same s7
              have c7 := c4.same s7
              have nRa : R ≠ a := (ne_of_none (s6 _ _ hT4.1) nR).symm
              have nD2a : D2 ≠ a := (ne_of_none hT4.1 nD24).symm
              have hR : upd H6 R (.lst [.str "file", .int o, .non]) R = some (.lst [.str "file", .int o, .non]) := upd_same
              have hD27 := upd_at (o := .lst [.str "file", .int o, .non]) hD26 (ne_of_none hD26 nR)
              refine ⟨a, _, _, rfl, rfl, hT7.1, ?_, _, rfl, ?_⟩
              · rw [List.length_map, Plen hT7.2.1, add_len hF1]
                exact Nat.lt_of_le_of_lt hlen (by decide)
              · refine q2 _ _ _ (hch2 _ c7.putA) (.mkL hF1 hk4 ho hlo) ?_
                rw [add_snoc hF1]
                exact hT7.app hns (d := R) ⟨hR, rfl⟩ nRa nRa
end
end NW
set_option Elab.async false
set_option linter.all false
set_option maxRecDepth 100000
set_option maxHeartbeats 1000000
/-! W35: the law's inner. -/
namespace NW
open PySem PySem.Spec PyProof.Rows L2
section
variable {P : Program} {w : World} {K : Frag} {mg : Str → Option Value} {base : Heap}
def spLInner : Sp := fun vs H Q _ => ∃ (a : Addr) (t : Tr) (n : Nat), vs = [.ref a, .int n] ∧ LTree H a t ∧ WF t ∧ n < t.length ∧ ∀ D H', Same H H' → H D = none → H' D = some (.lst (natV (kids t n))) → Q (.ref D) H'
theorem sc_Linner : FnScope ["_law_nodes", "_law_place", "_law_name"] ["_law_nodes", "_law_place"] (defScope s_Linner) := ⟨rfl, rfl, rfl, by decide +kernel, rfl, by decide +kernel, by decide +kernel⟩
theorem ok_Linner (T : Txt K mg) : Cal P w K mg base 1 "_law_inner" spLInner [] := by
  refine cal T.f_Linner T.g_Linner sc_Linner (fun _ _ _ _ _ _ us hl => match us, hl with | [_, _], _ => rfl) (fun vs H Q E h => ?_) (fun cdv A outer s H vs Q E hr h => ?_)
  · obtain ⟨a, t, n, rfl, _⟩ := h
    rfl
  · obtain ⟨a, t, n, rfl, hT, wf, hn, q⟩ := h
    have nd := sc_Linner.nd
    have hu := hu_of hr
    refine ⟨_, pss_cons (ps_if (pt_cmpR op_ne (pe_ix ix_list (pe_ix ix_list (pv 0) (pv 1) (fun _ _ => rfl)) pe_int (fun _ _ => rfl)) pe_str (nomark _)) (pss_one (ps_ret (pe_lst pa_nil))) pss_nil)
      (pss_one (ps_ret (pe_lc (own := [("_law_name", 2)]) (g := gName 2) (tt := tYes) rfl nd (pi_list (pe_callB (call_sortedD rfl) (by rfl) T.n_sorted (by decide +kernel) (pa_cons (pe_ix ix_list (pe_ix ix_list (pv 0) (pv 1) (fun _ _ => rfl)) pe_int (fun _ _ => rfl)) pa_nil))) (blkOk_by (N := ["_law_nodes", "_law_place", "_law_name"]) (sc := defScope s_Linner) (by decide +kernel))
        (fun _ _ _ _ _ => pg_name (i := 2) nd rfl (Or.inl rfl)) (fun _ _ _ _ _ => pts_nil)
        (fun _ _ _ _ _ => pe_dget hu (pe_ix (ixL (K := K)) (pe_ix (ixL (K := K)) (pv 0) (pv 1) (fun _ _ => rfl)) pe_int (fun _ _ => rfl)) (pv 2) (fun _ _ => rfl))))), ?_⟩
    have htn : t[n]? = some t[n] := List.getElem?_eq_getElem hn
    generalize t[n] = ndn at htn
    have hT' := hT
    obtain ⟨rs, h1, h2, h3⟩ := hT'
    obtain ⟨r0, hr0, hrow⟩ := Pget h3 htn
    have at0 : atI (rs.map V.ref) (n : Int) = some (.ref r0) := atI_nat (by rw [List.getElem?_map, hr0]; rfl)
    obtain ⟨o, x, hk⟩ := hrow.kind
    refine ⟨_, rfl, _, rfl, a, _, _, _, rfl, rfl, SqL.of h1, at0, r0, _, _, _, rfl, rfl, SqL.of hk, atI_nat (j := 0) rfl, rfl, ?_⟩
    rw [kind_fol]
    cases hF : ndn.isF with
    | false =>
      refine ⟨_, rfl, iteT ⟨(by show 0 ≤ sizeLine; decide), fun D nD => q D _ (same_new nD) nD ?_⟩⟩
      rw [kids_none ((isF_at htn).trans hF)]
      exact upd_same
    | true =>
      cases ndn with
      | fil o2 => cases hF
      | gon o2 b2 => cases hF
      | fol o2 es =>
        obtain ⟨d, kvs, k1, k2, k3⟩ := hrow
        obtain ⟨es0, pe0, rfl⟩ := perm_vals k3
        have hes : ents t n = es := ents_at htn
        have hsr : Srt es := by rw [← hes]; exact wf.srt n
        have h4 : ∀ e ∈ es, e.1 < 4 := fun e he => (wf.ent n e.1 e.2 (by rw [hes]; exact he)).1
        have h40 : ∀ e ∈ es0, e.1 < 4 := fun e he => h4 e (pe0.mem_iff.mp he)
        have hnd0 : (es0.map (·.1)).Nodup := (pe0.map _).nodup_iff.mpr (srt_nodup hsr)
        refine ⟨_, rfl, iteF ⟨_, rfl, _, rfl, a, _, _, _, rfl, rfl, SqL.of h1, at0, r0, _, _, _, rfl, rfl, SqL.of k1, atI_nat (j := 2) rfl, d, _, (es0.map (·.1)).map nm, rfl, .inl k2, ?_, ?_, fun ys p hp hs np => ?_⟩⟩
        · unfold dkv
          rw [List.map_map, List.map_map, List.map_map]
          rfl
        · rw [List.length_map, List.length_map, pe0.length_eq]
          exact Nat.lt_of_le_of_lt (srt_len hsr h4) (by decide)
        · have hys := sorted_entries hnd0 h40 hp hs
          rw [rise_extE (srtE_srt hnd0) hsr fun x => (srtE_perm es0).mem_iff.trans pe0.mem_iff] at hys
          subst hys
          have s1 := same_new (o := .lst ((((es.map (·.1)).map nm)).map V.str)) np
          have hp1 : upd H p (.lst (((es.map (·.1)).map nm).map V.str)) p = some (.lst (((es.map (·.1)).map nm).map V.str)) := upd_same
          generalize upd H p (.lst (((es.map (·.1)).map nm).map V.str)) = H1 at s1 hp1
          refine ⟨p, rfl, ⟨_, SqL.of hp1⟩, fun D nD => lc_it walk_list (fun i Hi => Same H1 Hi ∧ Hi D = some (.lst (natV ((es.map (·.2)).take i)))) ⟨same_new nD, upd_same⟩ (fun i Hi _ h => SqL.of (h.1 _ _ hp1)) (fun i v Hx Hi hi hI hy => ?_) (fun Hi hI => ?_)⟩
          · obtain ⟨rfl, hx⟩ := hy
            obtain ⟨sm, hD⟩ := hI
            rw [List.length_map, List.length_map, List.length_map] at hi
            have he := List.getElem?_eq_getElem hi
            generalize es[i] = e at he
            rw [List.getElem?_map, List.getElem?_map, List.getElem?_map, he] at hx
            cases hx
            have hem := List.mem_of_getElem? he
            have hv := valV_dkv h40 (h4 _ hem)
            rw [lookE_perm pe0 (srt_nodup hsr) e.1, lookE_mem hsr hem] at hv
            have sx := s1.trans sm
            refine ⟨rfl, _, rfl, _, rfl, a, _, _, _, rfl, rfl, SqL.of (sx _ _ h1), at0, r0, _, _, _, rfl, rfl, SqL.of (sx _ _ k1), atI_nat (j := 2) rfl, _, rfl, d, .int (e.2 : Nat), rfl, DGet.k' (k := Sum.inr (nm e.1)) (sx _ _ k2) hv, _, hD, ?_, ?_, ?_⟩
            · unfold natV
              rw [List.length_map]
              exact Nat.lt_of_le_of_lt (List.length_take_le _ _) (Nat.lt_of_lt_of_le hi (Nat.le_trans (srt_len hsr h4) (by decide)))
            · exact sput sm nD
            · rw [upd_same, List.take_succ, List.getElem?_map, he]
              unfold natV
              rw [List.map_append]
              rfl
          · refine q D Hi (s1.trans hI.1) (s1.free nD) ?_
            have := hI.2
            rw [List.length_map, List.length_map, List.length_map, List.take_of_length_le (by rw [List.length_map]; exact Nat.le_refl _)] at this
            unfold kids
            rw [hes]
            exact this
end
end NW
set_option Elab.async false
set_option linter.all false
set_option maxRecDepth 100000
set_option maxHeartbeats 1000000
/-! W36: the law's below. -/
namespace NW
open PySem PySem.Spec PyProof.Rows L2
section
variable {P : Program} {w : World} {K : Frag} {mg : Str → Option Value} {base : Heap}
/-- below one folder whose depth is d: at most h steps down -/
def spLBelow (h : Nat) : Sp := fun vs H Q _ => ∃ (a : Addr) (t : Tr) (n d : Nat), vs = [.ref a, .int n] ∧ LTree H a t ∧ WF t ∧ n < t.length ∧ Dep t n d ∧ isF t n = true ∧ t.length ≤ d + h ∧ (below t n).length ≤ 1000000 ∧ ∀ D H', Same H H' → H D = none → H' D = some (.lst (natV (below t n))) → Q (.ref D) H'
theorem sc_Lbelow : FnScope ["_law_nodes", "_law_place", "_law_found", "_law_node"] ["_law_nodes", "_law_place"] (defScope s_Lbelow) := ⟨rfl, rfl, rfl, by decide +kernel, rfl, by decide +kernel, by decide +kernel⟩
theorem ok_Lbelow (T : Txt K mg) : ∀ h, Cal P w K mg base (1 + h) "_law_below" (spLBelow h) [] := by
  intro h
  induction h with
  | zero =>
    refine cal T.f_Lbelow T.g_Lbelow sc_Lbelow (fun _ _ _ _ _ _ us hl => match us, hl with | [_, _], _ => rfl) (fun vs H Q E h => ?_) (fun cdv A outer s H vs Q E hr h => ?_)
    · obtain ⟨a, t, n, d, rfl, _⟩ := h
      rfl
    · obtain ⟨a, t, n, d, rfl, _, wf, _, hd, _, hl, _⟩ := h
      exact absurd (hd.lt wf) (by omega)
  | succ h ih =>
    refine cal T.f_Lbelow T.g_Lbelow sc_Lbelow (fun _ _ _ _ _ _ us hl => match us, hl with | [_, _], _ => rfl) (fun vs H Q E h => ?_) (fun cdv A outer s H vs Q E hr h => ?_)
    · obtain ⟨a, t, n, d, rfl, _⟩ := h
      rfl
    · obtain ⟨a, t, n, d, rfl, hT, wf, hn, hd, hF, hl, hz, q⟩ := h
      have nd := sc_Lbelow.nd
      refine ⟨_, pss_cons (ps_set (i := 2) nd rfl (Or.inl rfl) (pe_lst pa_nil))
        (pss_cons (ps_for PassesOwn.never rfl (pi_list (C8.pe_c (ok_Linner T) hr (Nat.le_add_right 1 h) rfl (pa_cons (pv 0) (pa_cons (pv 1) pa_nil)))) (pg_name (i := 3) nd rfl (Or.inl rfl))
          (pss_one (ps_set (i := 2) nd rfl (Or.inl rfl) (pe_op op_cat (pe_op op_cat (pv 2) (pe_lst (pa_cons (pv 3) pa_nil))) (pe_ifExp (pt_cmpR op_eq (pe_ix ix_list (pe_ix ix_list (pv 0) (pv 3) (fun _ _ => rfl)) pe_int (fun _ _ => rfl)) pe_str (nomark _)) (C8.pe_c ih hr (Nat.le_refl _) rfl (pa_cons (pv 0) (pa_cons (pv 3) pa_nil))) (pe_lst pa_nil))))))
        (pss_one (ps_ret (pv 2)))), ?_⟩
      refine ⟨(by show 0 ≤ sizeLine; decide), fun D0 nD0 => ?_⟩
      have s1 := same_new (o := .lst []) nD0
      have hD0 : upd H D0 (.lst []) D0 = some (.lst []) := upd_same
      generalize upd H D0 (.lst []) = H1 at s1 hD0
      refine ⟨_, rfl, _, rfl, a, t, n, rfl, hT.same s1, wf, hn, fun KL H2 s2 nKL hKL => ?_⟩
      have s12 := s1.trans s2
      refine ⟨KL, rfl, ⟨_, SqL.of hKL⟩, for_it walk_list (fun i σ Hi => Same H2 Hi ∧ ∃ (F : Addr) (x3 : Option V), σ = [some (.ref a), some (.int n), some (.ref F), x3] ∧ H F = none ∧ Hi F = some (.lst (natV (((kids t n).take i).flatMap fun c => c :: below t c)))) ⟨Same.refl _, D0, none, rfl, nD0, s2 _ _ hD0⟩ (fun i σ Hi _ h => SqL.of (h.1 _ _ hKL)) (fun i x σ Hx Hi hi hI hy => ?_) (fun σ Hi hI => ?_)⟩
      · obtain ⟨sm, F, x3, rfl, nF, hFl⟩ := hI
        obtain ⟨rfl, hx⟩ := hy
        unfold natV at hi hx
        rw [List.length_map] at hi
        have hc := List.getElem?_eq_getElem hi
        generalize (kids t n)[i] = c at hc
        rw [List.getElem?_map, hc] at hx
        cases hx
        have hcm := List.mem_of_getElem? hc
        obtain ⟨e, hem, hec⟩ := List.mem_map.mp hcm
        have hem : (e.1, c) ∈ ents t n := by rw [← hec]; exact hem
        obtain ⟨_, _, hcl, _⟩ := wf.ent n e.1 c hem
        have etk : (kids t n).take (i + 1) = (kids t n).take i ++ [c] := by rw [List.take_succ, hc]; rfl
        have hle : ∀ j, (((kids t n).take j).flatMap fun c => c :: below t c).length ≤ 1000000 := fun j => by
          have h2 := hz
          rw [below_eq wf n, ← List.take_append_drop j (kids t n), List.flatMap_append, List.length_append] at h2
          omega
        have hl1 := hle (i + 1)
        rw [etk, List.flatMap_append, List.length_append] at hl1
        have hcb : ([c].flatMap fun c => c :: below t c) = c :: below t c := by simp
        rw [hcb, List.length_cons] at hl1
        generalize hX : (((kids t n).take i).flatMap fun c => c :: below t c) = X at hFl hl1
        have sx := s12.trans sm
        obtain ⟨ndc, hndc⟩ : ∃ nd, t[c]? = some nd := ⟨_, List.getElem?_eq_getElem hcl⟩
        have hXl : (natV X).length = X.length := List.length_map _
        refine ⟨_, rfl, _, rfl, (by show 1 ≤ sizeLine; decide), fun A1 nA => ⟨F, A1, _, _, rfl, rfl, same_new nA _ _ hFl, upd_same, (by rw [hXl]; exact Nat.le_trans (by show X.length + 1 ≤ 1000001; omega) (by decide)), fun B nB => ?_⟩⟩
        have sA := snew (o := .lst (natV X ++ [.int (c : Nat)])) (same_new (o := .lst [.int (c : Nat)]) nA) nB
        have hB : upd (upd Hi A1 (.lst [.int (c : Nat)])) B (.lst (natV X ++ [.int (c : Nat)])) B = some (.lst (natV X ++ [.int (c : Nat)])) := upd_same
        generalize upd (upd Hi A1 (.lst [.int (c : Nat)])) B (.lst (natV X ++ [.int (c : Nat)])) = H5 at sA hB
        have s5 := sx.trans sA
        have hT5 := hT.same s5
        have fin : ∀ (C : Addr) (H6 : Hp) (Z : List Nat), Same H5 H6 → H6 C = some (.lst (natV Z)) → Z = below t c → ∀ G, H6 G = none → Same H2 (upd H6 G (.lst ((natV X ++ [.int (c : Nat)]) ++ natV Z))) ∧ ∃ (F : Addr) (x3 : Option V), [some (V.ref a), some (.int n), some (.ref G), some (.int (c : Nat))] = [some (.ref a), some (.int n), some (.ref F), x3] ∧ H F = none ∧ upd H6 G (.lst ((natV X ++ [.int (c : Nat)]) ++ natV Z)) F = some (.lst (natV (((kids t n).take (i + 1)).flatMap fun c => c :: below t c))) := fun C H6 Z s6 hC hZ G nG => by
          refine ⟨snew ((sm.trans sA).trans s6) nG, G, _, rfl, (s5.trans s6).free nG, ?_⟩
          rw [upd_same, etk, List.flatMap_append, hcb, hX, hZ]
          unfold natV
          rw [List.map_append, List.map_cons, List.append_assoc]
          rfl
        obtain ⟨rs, h1, h2, h3⟩ := id hT5
        obtain ⟨r0, hr0, hrow⟩ := Pget h3 hndc
        obtain ⟨o, xx, hk⟩ := hrow.kind
        refine ⟨_, rfl, _, rfl, a, _, _, _, rfl, rfl, SqL.of h1, atI_nat (by rw [List.getElem?_map, hr0]; rfl), r0, _, _, _, rfl, rfl, SqL.of hk, atI_nat (j := 0) rfl, rfl, _, rfl, ?_⟩
        rw [kind_fol]
        cases hcF : ndc.isF with
        | false =>
          have hb0 : below t c = [] := by rw [below_eq wf c, kids_none ((isF_at hndc).trans hcF)]; rfl
          refine iteF ⟨(by show 0 ≤ sizeLine; decide), fun C nC => ⟨B, C, _, _, rfl, rfl, same_new nC _ _ hB, upd_same, ?_, fun G nG => ?_⟩⟩
          · rw [List.length_append, hXl]
            exact Nat.le_trans (show X.length + 1 + 0 ≤ 1000001 by omega) (by decide)
          · exact fin C _ [] (same_new nC) upd_same hb0.symm G nG
        | true =>
          have hFc : isF t c = true := (isF_at hndc).trans hcF
          refine iteT ⟨_, rfl, _, rfl, a, t, c, d + 1, rfl, hT5, wf, hcl, .step hd hem hFc, hFc, by omega, by omega, fun C H6 s6 nC hC => ⟨B, C, _, _, rfl, rfl, s6 _ _ hB, hC, ?_, fun G nG => ?_⟩⟩
          · rw [List.length_append, hXl, show (natV (below t c)).length = (below t c).length from List.length_map _]
            exact Nat.le_trans (show X.length + 1 + (below t c).length ≤ 1000001 by omega) (by decide)
          · exact fin C H6 _ s6 hC rfl G nG
      · obtain ⟨sm, F, x3, rfl, nF, hFl⟩ := hI
        refine ⟨_, rfl, q F Hi (s12.trans sm) nF ?_⟩
        unfold natV at hFl
        rw [List.length_map, List.take_length, ← below_eq wf n] at hFl
        exact hFl
end
end NW
set_option Elab.async false
set_option linter.all false
set_option maxRecDepth 100000
set_option maxHeartbeats 1000000
/-! W37: the law's deed. -/
namespace NW
open PySem PySem.Spec PyProof.Rows L2
section
variable {P : Program} {w : World} {K : Frag} {mg : Str → Option Value} {base : Heap}
def spLDeed (K : Frag) : Sp := fun vs H Q _ => ∃ (p : Addr) (d : Dd), vs = [.ref p] ∧ LDeed H p d ∧ ∀ x H', Same H H' → PDeed K H' x d → Q (.ref x) H'
theorem sc_Ldeed : FnScope ["_law_row_here", "_law_kind", "_law_folder", "_law_name"] ["_law_row_here"] (defScope s_Ldeed) := ⟨rfl, rfl, rfl, by decide +kernel, rfl, by decide +kernel, by decide +kernel⟩
theorem ok_Ldeed (T : Txt K mg) : Cal P w K mg base 3 "_law_deed" (spLDeed K) [] := by
  refine cal T.f_Ldeed T.g_Ldeed sc_Ldeed (fun _ _ _ _ _ _ us hl => match us, hl with | [_], _ => rfl) (fun vs H Q E h => ?_) (fun cdv A outer s H vs Q E hr h => ?_)
  · obtain ⟨p, d, rfl, _⟩ := h
    rfl
  · obtain ⟨p, d, rfl, hL, q⟩ := h
    have nd := sc_Ldeed.nd
    refine ⟨_, pss_cons (ps_asg (pe_slice sl_tupA (pv 0) po_none (po_some pe_int)) (pg_tup rfl (pgs_cons (pg_name (i := 1) nd rfl (Or.inl rfl)) (pgs_cons (pg_name (i := 2) nd rfl (Or.inl rfl)) (pgs_cons (pg_name (i := 3) nd rfl (Or.inl rfl)) pgs_nil)))))
      (pss_cons (ps_if (pt_cmpR op_eq (pv 1) pe_str (nomark _)) (pss_one (ps_ret (C8.pe_mk (mk_MakeFolder T) hr (by decide) rfl (pa_cons (pv 2) (pa_cons (pv 3) (pa_cons (pe_ix ix_tup (pv 0) pe_int (fun _ _ => rfl)) pa_nil)))))) pss_nil)
      (pss_cons (ps_if (pt_cmpR op_eq (pv 1) pe_str (nomark _)) (pss_one (ps_ret (C8.pe_mk (mk_MakeFile T) hr (by decide) rfl (pa_cons (pv 2) (pa_cons (pv 3) (pa_cons (pe_ix ix_tup (pv 0) pe_int (fun _ _ => rfl)) pa_nil)))))) pss_nil)
      (pss_cons (ps_if (pt_cmpR op_eq (pv 1) pe_str (nomark _)) pss_never pss_nil)
      (pss_cons (ps_if (pt_cmpR op_eq (pv 1) pe_str (nomark _)) (pss_one (ps_ret (C8.pe_mk (mk_Put T) hr (by decide) rfl (pa_cons (pv 2) (pa_cons (pv 3) (pa_cons (pe_ix ix_tup (pv 0) pe_int (fun _ _ => rfl)) pa_nil)))))) pss_nil)
      (pss_one (ps_ret (pe_ifExp (pt_cmpR op_eq (pv 1) pe_str (nomark _)) (C8.pe_mk (mk_Take T) hr (by decide) rfl (pa_cons (pv 2) (pa_cons (pv 3) pa_nil))) (C8.pe_mk (mk_Move T) hr (by decide) rfl (pa_cons (pv 2) (pa_cons (pv 3) (pa_cons (pe_ix ix_tup (pv 0) pe_int (fun _ _ => rfl)) (pa_cons (pe_ix ix_tup (pv 0) pe_int (fun _ _ => rfl)) pa_nil)))))))))))), ?_⟩
    cases d with
    | mkF f k o =>
      have hLt : H p = some (.tup [V.str "folder", V.int (f : Nat), V.str (nm k), V.int o]) := hL
      have hnw : ¬ (HT.sIx ([V.str "folder", V.int (f : Nat), V.str (nm k), V.int o]).length 0 none = 0 ∧ HT.sIx ([V.str "folder", V.int (f : Nat), V.str (nm k), V.int o]).length ([V.str "folder", V.int (f : Nat), V.str (nm k), V.int o]).length (some 3) = ([V.str "folder", V.int (f : Nat), V.str (nm k), V.int o]).length) := fun z => by
        have z2 := z.2
        rw [show (3 : Int) = ((3 : Nat) : Int) from rfl, HT.sIx_nat] at z2
        simp at z2
      refine ⟨_, rfl, 3, rfl, p, _, rfl, SqT.of hLt, fun h => absurd h hnw, fun _ T1 nT1 => ?_⟩
      rw [show cutV [V.str "folder", V.int (f : Nat), V.str (nm k), V.int o] none (some (3 : Int)) = [V.str "folder", V.int (f : Nat), V.str (nm k)] from (cut_to _ 3).trans rfl]
      have s1 := same_new (o := .tup [V.str "folder", V.int (f : Nat), V.str (nm k)]) nT1
      have hT1' : upd H T1 (.tup [V.str "folder", V.int (f : Nat), V.str (nm k)]) T1 = some (.tup [V.str "folder", V.int (f : Nat), V.str (nm k)]) := upd_same
      generalize upd H T1 (.tup [V.str "folder", V.int (f : Nat), V.str (nm k)]) = H1 at s1 hT1'
      have hL1 := s1 _ _ hLt
      refine ⟨T1, _, rfl, SqT.of hT1', rfl, _, _, rfl, _, _, rfl, _, _, rfl, rfl, ?_⟩
      refine ⟨_, rfl, rfl, _, rfl, ?_⟩
      rw [show decide (V.str "folder" = V.str "folder") = true from (by decide +kernel)]
      refine iteT ⟨_, rfl, _, rfl, _, rfl, p, _, _, _, rfl, rfl, SqT.of hL1, atI_nat (j := 3) rfl, fun x dx nx ndx ne => ⟨_, _, x, dx, rfl, rfl, nx, ndx, ne, trivial, fun H2 s2 hr2 => ⟨rfl, q x H2 (s1.trans s2) hr2⟩⟩⟩
    | mkL f k o =>
      have hLt : H p = some (.tup [V.str "file", V.int (f : Nat), V.str (nm k), V.int o]) := hL
      have hnw : ¬ (HT.sIx ([V.str "file", V.int (f : Nat), V.str (nm k), V.int o]).length 0 none = 0 ∧ HT.sIx ([V.str "file", V.int (f : Nat), V.str (nm k), V.int o]).length ([V.str "file", V.int (f : Nat), V.str (nm k), V.int o]).length (some 3) = ([V.str "file", V.int (f : Nat), V.str (nm k), V.int o]).length) := fun z => by
        have z2 := z.2
        rw [show (3 : Int) = ((3 : Nat) : Int) from rfl, HT.sIx_nat] at z2
        simp at z2
      refine ⟨_, rfl, 3, rfl, p, _, rfl, SqT.of hLt, fun h => absurd h hnw, fun _ T1 nT1 => ?_⟩
      rw [show cutV [V.str "file", V.int (f : Nat), V.str (nm k), V.int o] none (some (3 : Int)) = [V.str "file", V.int (f : Nat), V.str (nm k)] from (cut_to _ 3).trans rfl]
      have s1 := same_new (o := .tup [V.str "file", V.int (f : Nat), V.str (nm k)]) nT1
      have hT1' : upd H T1 (.tup [V.str "file", V.int (f : Nat), V.str (nm k)]) T1 = some (.tup [V.str "file", V.int (f : Nat), V.str (nm k)]) := upd_same
      generalize upd H T1 (.tup [V.str "file", V.int (f : Nat), V.str (nm k)]) = H1 at s1 hT1'
      have hL1 := s1 _ _ hLt
      refine ⟨T1, _, rfl, SqT.of hT1', rfl, _, _, rfl, _, _, rfl, _, _, rfl, rfl, ?_⟩
      refine ⟨_, rfl, rfl, _, rfl, ?_⟩
      rw [show decide (V.str "file" = V.str "folder") = false from (by decide +kernel)]
      refine iteF ?_
      refine ⟨_, rfl, rfl, _, rfl, ?_⟩
      rw [show decide (V.str "file" = V.str "file") = true from (by decide +kernel)]
      refine iteT ⟨_, rfl, _, rfl, _, rfl, p, _, _, _, rfl, rfl, SqT.of hL1, atI_nat (j := 3) rfl, fun x dx nx ndx ne => ⟨_, _, x, dx, rfl, rfl, nx, ndx, ne, trivial, fun H2 s2 hr2 => ⟨rfl, q x H2 (s1.trans s2) hr2⟩⟩⟩
    | put f k n =>
      have hLt : H p = some (.tup [V.str "put", V.int (f : Nat), V.str (nm k), V.int (n : Nat)]) := hL
      have hnw : ¬ (HT.sIx ([V.str "put", V.int (f : Nat), V.str (nm k), V.int (n : Nat)]).length 0 none = 0 ∧ HT.sIx ([V.str "put", V.int (f : Nat), V.str (nm k), V.int (n : Nat)]).length ([V.str "put", V.int (f : Nat), V.str (nm k), V.int (n : Nat)]).length (some 3) = ([V.str "put", V.int (f : Nat), V.str (nm k), V.int (n : Nat)]).length) := fun z => by
        have z2 := z.2
        rw [show (3 : Int) = ((3 : Nat) : Int) from rfl, HT.sIx_nat] at z2
        simp at z2
      refine ⟨_, rfl, 3, rfl, p, _, rfl, SqT.of hLt, fun h => absurd h hnw, fun _ T1 nT1 => ?_⟩
      rw [show cutV [V.str "put", V.int (f : Nat), V.str (nm k), V.int (n : Nat)] none (some (3 : Int)) = [V.str "put", V.int (f : Nat), V.str (nm k)] from (cut_to _ 3).trans rfl]
      have s1 := same_new (o := .tup [V.str "put", V.int (f : Nat), V.str (nm k)]) nT1
      have hT1' : upd H T1 (.tup [V.str "put", V.int (f : Nat), V.str (nm k)]) T1 = some (.tup [V.str "put", V.int (f : Nat), V.str (nm k)]) := upd_same
      generalize upd H T1 (.tup [V.str "put", V.int (f : Nat), V.str (nm k)]) = H1 at s1 hT1'
      have hL1 := s1 _ _ hLt
      refine ⟨T1, _, rfl, SqT.of hT1', rfl, _, _, rfl, _, _, rfl, _, _, rfl, rfl, ?_⟩
      refine ⟨_, rfl, rfl, _, rfl, ?_⟩
      rw [show decide (V.str "put" = V.str "folder") = false from (by decide +kernel)]
      refine iteF ?_
      refine ⟨_, rfl, rfl, _, rfl, ?_⟩
      rw [show decide (V.str "put" = V.str "file") = false from (by decide +kernel)]
      refine iteF ?_
      refine ⟨_, rfl, rfl, _, rfl, ?_⟩
      rw [show decide (V.str "put" = V.str "link") = false from (by decide +kernel)]
      refine iteF ?_
      refine ⟨_, rfl, rfl, _, rfl, ?_⟩
      rw [show decide (V.str "put" = V.str "put") = true from (by decide +kernel)]
      refine iteT ⟨_, rfl, _, rfl, _, rfl, p, _, _, _, rfl, rfl, SqT.of hL1, atI_nat (j := 3) rfl, fun x dx nx ndx ne => ⟨_, _, x, dx, rfl, rfl, nx, ndx, ne, trivial, fun H2 s2 hr2 => ⟨rfl, q x H2 (s1.trans s2) hr2⟩⟩⟩
    | take f k =>
      have hLt : H p = some (.tup [V.str "take", V.int (f : Nat), V.str (nm k)]) := hL
      have hwhole : HT.sIx ([V.str "take", V.int (f : Nat), V.str (nm k)]).length 0 none = 0 ∧ HT.sIx ([V.str "take", V.int (f : Nat), V.str (nm k)]).length ([V.str "take", V.int (f : Nat), V.str (nm k)]).length (some 3) = ([V.str "take", V.int (f : Nat), V.str (nm k)]).length := ⟨HT.sIx_none _ _, (HT.sIx_nat _ _ 3).trans rfl⟩
      refine ⟨_, rfl, 3, rfl, p, _, rfl, SqT.of hLt, fun _ => ?_, fun h => absurd hwhole h⟩
      have s1 : Same H H := Same.refl _
      have hL1 := hLt
      refine ⟨p, _, rfl, SqT.of hLt, rfl, _, _, rfl, _, _, rfl, _, _, rfl, rfl, ?_⟩
      refine ⟨_, rfl, rfl, _, rfl, ?_⟩
      rw [show decide (V.str "take" = V.str "folder") = false from (by decide +kernel)]
      refine iteF ?_
      refine ⟨_, rfl, rfl, _, rfl, ?_⟩
      rw [show decide (V.str "take" = V.str "file") = false from (by decide +kernel)]
      refine iteF ?_
      refine ⟨_, rfl, rfl, _, rfl, ?_⟩
      rw [show decide (V.str "take" = V.str "link") = false from (by decide +kernel)]
      refine iteF ?_
      refine ⟨_, rfl, rfl, _, rfl, ?_⟩
      rw [show decide (V.str "take" = V.str "put") = false from (by decide +kernel)]
      refine iteF ?_
      refine ⟨_, rfl, rfl, _, rfl, ?_⟩
      rw [show decide (V.str "take" = V.str "take") = true from (by decide +kernel)]
      refine iteT ⟨_, rfl, _, rfl, fun x dx nx ndx ne => ⟨_, _, x, dx, rfl, rfl, nx, ndx, ne, trivial, fun H2 s2 hr2 => ⟨rfl, q x H2 (s1.trans s2) hr2⟩⟩⟩
    | move f k g j =>
      have hLt : H p = some (.tup [V.str "move", V.int (f : Nat), V.str (nm k), V.int (g : Nat), V.str (nm j)]) := hL
      have hnw : ¬ (HT.sIx ([V.str "move", V.int (f : Nat), V.str (nm k), V.int (g : Nat), V.str (nm j)]).length 0 none = 0 ∧ HT.sIx ([V.str "move", V.int (f : Nat), V.str (nm k), V.int (g : Nat), V.str (nm j)]).length ([V.str "move", V.int (f : Nat), V.str (nm k), V.int (g : Nat), V.str (nm j)]).length (some 3) = ([V.str "move", V.int (f : Nat), V.str (nm k), V.int (g : Nat), V.str (nm j)]).length) := fun z => by
        have z2 := z.2
        rw [show (3 : Int) = ((3 : Nat) : Int) from rfl, HT.sIx_nat] at z2
        simp at z2
      refine ⟨_, rfl, 3, rfl, p, _, rfl, SqT.of hLt, fun h => absurd h hnw, fun _ T1 nT1 => ?_⟩
      rw [show cutV [V.str "move", V.int (f : Nat), V.str (nm k), V.int (g : Nat), V.str (nm j)] none (some (3 : Int)) = [V.str "move", V.int (f : Nat), V.str (nm k)] from (cut_to _ 3).trans rfl]
      have s1 := same_new (o := .tup [V.str "move", V.int (f : Nat), V.str (nm k)]) nT1
      have hT1' : upd H T1 (.tup [V.str "move", V.int (f : Nat), V.str (nm k)]) T1 = some (.tup [V.str "move", V.int (f : Nat), V.str (nm k)]) := upd_same
      generalize upd H T1 (.tup [V.str "move", V.int (f : Nat), V.str (nm k)]) = H1 at s1 hT1'
      have hL1 := s1 _ _ hLt
      refine ⟨T1, _, rfl, SqT.of hT1', rfl, _, _, rfl, _, _, rfl, _, _, rfl, rfl, ?_⟩
      refine ⟨_, rfl, rfl, _, rfl, ?_⟩
      rw [show decide (V.str "move" = V.str "folder") = false from (by decide +kernel)]
      refine iteF ?_
      refine ⟨_, rfl, rfl, _, rfl, ?_⟩
      rw [show decide (V.str "move" = V.str "file") = false from (by decide +kernel)]
      refine iteF ?_
      refine ⟨_, rfl, rfl, _, rfl, ?_⟩
      rw [show decide (V.str "move" = V.str "link") = false from (by decide +kernel)]
      refine iteF ?_
      refine ⟨_, rfl, rfl, _, rfl, ?_⟩
      rw [show decide (V.str "move" = V.str "put") = false from (by decide +kernel)]
      refine iteF ?_
      refine ⟨_, rfl, rfl, _, rfl, ?_⟩
      rw [show decide (V.str "move" = V.str "take") = false from (by decide +kernel)]
      refine iteF ⟨_, rfl, _, rfl, _, rfl, p, _, _, _, rfl, rfl, SqT.of hL1, atI_nat (j := 3) rfl, _, rfl, p, _, _, _, rfl, rfl, SqT.of hL1, atI_nat (j := 4) rfl, fun x dx nx ndx ne => ⟨_, _, x, dx, rfl, rfl, nx, ndx, ne, trivial, fun H2 s2 hr2 => ⟨rfl, q x H2 (s1.trans s2) hr2⟩⟩⟩
end
end NW
set_option Elab.async false
set_option linter.all false
set_option maxRecDepth 100000
set_option maxHeartbeats 1000000
/-! W38: the law's tree. -/
namespace NW
open PySem PySem.Spec PyProof.Rows L2
section
variable {P : Program} {w : World} {K : Frag} {mg : Str → Option Value} {base : Heap}
def spLTree (K : Frag) : Sp := fun vs H Q _ => ∃ (a : Addr) (t : Tr), vs = [.ref a] ∧ LTree H a t ∧ WF t ∧ t.length ≤ 1000 ∧ ∀ x H', Same H H' → PTree K H' x t → Q (.ref x) H'
theorem sc_Ltree : FnScope ["_law_nodes", "_law_found", "_law_kind", "_law_owner", "_law_more"] ["_law_nodes"] (defScope s_Ltree) := ⟨rfl, rfl, rfl, by decide +kernel, rfl, by decide +kernel, by decide +kernel⟩
theorem ok_Ltree (T : Txt K mg) : Cal P w K mg base 6 "_law_tree" (spLTree K) [] := by
  refine cal T.f_Ltree T.g_Ltree sc_Ltree (fun _ _ _ _ _ _ us hl => match us, hl with | [_], _ => rfl) (fun vs H Q E h => ?_) (fun cdv A outer s H vs Q E hr h => ?_)
  · obtain ⟨a, t, rfl, _⟩ := h
    rfl
  · obtain ⟨a, t, rfl, hT, wf, hlen, q⟩ := h
    have nd := sc_Ltree.nd
    refine ⟨_, pss_cons (ps_set (i := 1) nd rfl (Or.inl rfl) (pe_lst pa_nil))
      (pss_cons (ps_for PassesOwn.never rfl (pi_list (pv 0)) (pg_unl rfl (pgs_cons (pg_name (i := 2) nd rfl (Or.inl rfl)) (pgs_cons (pg_name (i := 3) nd rfl (Or.inl rfl)) (pgs_cons (pg_name (i := 4) nd rfl (Or.inl rfl)) pgs_nil))))
        (pss_one (ps_if (pt_cmpR op_eq (pv 2) pe_str (nomark _))
          (pss_one (ps_expr (pe_bm PySem.F.plainAttrs_list PySem.F.slot_list_append PySem.F.type_list_append mt_append (pv 1) (pa_cons (C8.pe_mk (mk_Folder T) hr (by decide) rfl (pa_cons (pv 3) (pa_cons (LiI.pe_listItems rfl (pv 4) (by rfl) T.n_list (by decide +kernel)) pa_nil))) pa_nil))))
          (pss_one (ps_if (pt_cmpR op_eq (pv 2) pe_str (nomark _))
            (pss_one (ps_expr (pe_bm PySem.F.plainAttrs_list PySem.F.slot_list_append PySem.F.type_list_append mt_append (pv 1) (pa_cons (C8.pe_mk (mk_File T) hr (by decide) rfl (pa_cons (pv 3) pa_nil)) pa_nil))))
            (pss_one (ps_expr (pe_bm PySem.F.plainAttrs_list PySem.F.slot_list_append PySem.F.type_list_append mt_append (pv 1) (pa_cons (pe_ifExp (pt_cmpR op_eq (pv 2) pe_str (nomark _)) pe_never (C8.pe_mk (mk_Gone T) hr (by decide) rfl (pa_cons (pv 3) (pa_cons (pv 4) pa_nil)))) pa_nil)))))))))
      (pss_one (ps_ret (C8.pe_mk (mk_Tree T) hr (by decide) rfl (pa_cons (pv 1) pa_nil))))), ?_⟩
    obtain ⟨rs, h1, h2, h3⟩ := id hT
    refine ⟨(by show 0 ≤ sizeLine; decide), fun D nD => ?_⟩
    have s1 := same_new (o := .lst []) nD
    have hD : upd H D (.lst []) D = some (.lst []) := upd_same
    generalize upd H D (.lst []) = H1 at s1 hD
    have hl := Plen h3
    refine ⟨_, rfl, a, rfl, ⟨_, SqL.of (s1 _ _ h1)⟩, for_it walk_list (fun i σ Hi => Same H Hi ∧ NL K Hi D (t.take i) ∧ ∃ x2 x3 x4, σ = [some (.ref a), some (.ref D), x2, x3, x4]) ⟨s1, ⟨[], hD, .nil⟩, none, none, none, rfl⟩ (fun i σ Hi _ h => SqL.of (h.1 _ _ h1)) (fun i x σ Hx Hi hi hI hy => ?_) (fun σ Hi hI => ?_)⟩
    · obtain ⟨sm, ⟨ps, hps, hP⟩, x2, x3, x4, rfl⟩ := hI
      obtain ⟨rfl, hx⟩ := hy
      rw [List.length_map] at hi
      have hr0 := List.getElem?_eq_getElem hi
      generalize rs[i] = r0 at hr0
      rw [List.getElem?_map, hr0] at hx
      cases hx
      obtain ⟨ndd, hnd, hrow⟩ := Pget' h3 hr0
      have etk : t.take (i + 1) = t.take i ++ [ndd] := by rw [List.take_succ, hnd]; rfl
      have lps : (ps.map V.ref).length < sizeLine := by
        have := Plen hP
        rw [List.length_take] at this
        rw [List.length_map]
        exact Nat.lt_of_le_of_lt (show ps.length ≤ 1000 by omega) (by decide)
      have fin : ∀ (X : Addr) (H5 : Hp), Same Hi H5 → PNode K H5 X ndd → ∃ l xs y, V.ref D = .ref l ∧ [V.ref X] = [y] ∧ H5 l = some (.lst xs) ∧ xs.length < sizeLine ∧ Same H (upd H5 l (.lst (xs ++ [y]))) ∧ NL K (upd H5 l (.lst (xs ++ [y]))) D (t.take (i + 1)) := fun X H5 s5 hX => by
        have e5 := s5 _ _ hps
        have f5 : Fx H5 (upd H5 D (.lst (ps.map V.ref ++ [V.ref X]))) := Sb.fx (sb_upd (r := D)) e5
        refine ⟨D, _, _, rfl, rfl, e5, lps, sput (sm.trans s5) nD, ps ++ [X], by rw [upd_same, List.map_append]; rfl, ?_⟩
        rw [etk]
        exact Paired.snoc (Pmap hP fun _ _ h => PNode.fx f5 (PNode.fx (sfx s5) h)) (PNode.fx f5 hX)
      cases ndd with
      | fol o es =>
        obtain ⟨d, kvs, k1, k2, k3⟩ := hrow
        obtain ⟨es0, pe0, rfl⟩ := perm_vals k3
        refine ⟨r0, _, rfl, SqL.of (sm _ _ k1), rfl, _, _, rfl, _, _, rfl, _, _, rfl, rfl, ?_⟩
        refine ⟨_, rfl, rfl, _, rfl, iteT ⟨_, rfl, Or.inl ⟨rfl, _, SqL.of hps⟩, _, rfl, _, rfl, d, _, rfl, sm _ _ k2, fun H5 L qs s5 nL nqs hLq hL5 hqs => ?_⟩⟩
        have hes : ents t i = es := ents_at hnd
        have hsr : Srt es := by rw [← hes]; exact wf.srt i
        have h4 : ∀ e ∈ es, e.1 < 4 := fun e he => (wf.ent i e.1 e.2 (by rw [hes]; exact he)).1
        have hnd0 : (es0.map (·.1)).Nodup := (pe0.map _).nodup_iff.mpr (srt_nodup hsr)
        have hsrt : srtE es0 = es := rise_extE (srtE_srt hnd0) hsr fun x => (srtE_perm es0).mem_iff.trans pe0.mem_iff
        have hpq : ∀ {us : List Addr} {l : List (Nat × Nat)}, Paired (fun (t : Addr) (q : Key × V) => H5 t = some (.tup [kV q.1, q.2])) us (dkv l) → Paired (EPair H5) us l := by
          intro us l
          induction l generalizing us with
          | nil => intro h; cases h; exact .nil
          | cons e r ih => intro h; cases h with
            | cons h1 h2 => exact .cons h1 (ih h2)
        refine fun x dx nx ndx ne => ⟨(o, L, es0), H5, x, dx, rfl, rfl, nx, ndx, ne, ⟨qs, .inl (SqL.of hL5), hpq hqs, hnd0, fun e he => h4 e (pe0.mem_iff.mp he), ?_⟩, fun H2 s2 hr2 => ⟨rfl, ?_⟩⟩
        · rw [pe0.length_eq]
          exact Nat.le_trans (srt_len hsr h4) (by decide)
        · have hr3 : PNode K H2 x (.fol o es) := by
            have h9 : PNode K H2 x (.fol o (srtE es0)) := hr2
            rw [hsrt] at h9
            exact h9
          obtain ⟨l, xs, y, e1, e2, e3, e4, e5, e6⟩ := fin x H2 (Same.trans (fun b o' e => s5 b o' e) s2) hr3
          exact ⟨l, xs, y, e1, e2, e3, e4, e5, e6, _, _, _, rfl⟩
      | fil o =>
        have hrow : H r0 = some (.lst [.str "file", .int o, .non]) := hrow
        refine ⟨r0, _, rfl, SqL.of (sm _ _ hrow), rfl, _, _, rfl, _, _, rfl, _, _, rfl, rfl, ?_⟩
        refine ⟨_, rfl, rfl, _, rfl, iteF ⟨_, rfl, rfl, _, rfl, iteT ⟨_, rfl, Or.inl ⟨rfl, _, SqL.of hps⟩, _, rfl, fun x dx nx ndx ne => ⟨o, _, x, dx, rfl, rfl, nx, ndx, ne, trivial, fun H2 s2 hr2 => ⟨rfl, ?_⟩⟩⟩⟩⟩
        obtain ⟨l, xs, y, e1, e2, e3, e4, e5, e6⟩ := fin x H2 s2 hr2
        exact ⟨l, xs, y, e1, e2, e3, e4, e5, e6, _, _, _, rfl⟩
      | gon o b =>
        have hrow : H r0 = some (.lst [.str "gone", .int o, .int b]) := hrow
        refine ⟨r0, _, rfl, SqL.of (sm _ _ hrow), rfl, _, _, rfl, _, _, rfl, _, _, rfl, rfl, ?_⟩
        refine ⟨_, rfl, rfl, _, rfl, iteF ⟨_, rfl, rfl, _, rfl, iteF ⟨_, rfl, Or.inl ⟨rfl, _, SqL.of hps⟩, _, rfl, rfl, _, rfl, iteF ⟨_, rfl, _, rfl, fun x dx nx ndx ne => ⟨(_, _), _, x, dx, rfl, rfl, nx, ndx, ne, trivial, fun H2 s2 hr2 => ⟨rfl, ?_⟩⟩⟩⟩⟩⟩
        obtain ⟨l, xs, y, e1, e2, e3, e4, e5, e6⟩ := fin x H2 s2 hr2
        exact ⟨l, xs, y, e1, e2, e3, e4, e5, e6, _, _, _, rfl⟩
    · obtain ⟨sm, hN, x2, x3, x4, rfl⟩ := hI
      rw [List.length_map, hl, List.take_length] at hN
      obtain ⟨ps, hps, hP⟩ := hN
      exact ⟨_, rfl, fun x dx nx ndx ne => ⟨(D, t), _, x, dx, rfl, rfl, nx, ndx, ne, ⟨⟨ps, SqL.of hps, hP⟩, wf, hlen⟩, fun H2 s2 hr2 => ⟨rfl, q x H2 (sm.trans s2) hr2⟩⟩⟩
end
end NW
set_option Elab.async false
set_option linter.all false
set_option maxRecDepth 100000
set_option maxHeartbeats 1000000
/-! W39: a draw changes only its own list. -/
namespace NW
open PySem PySem.Spec PyProof.Rows L2
theorem RngAt.neRow {H : Hp} {r p : Addr} {nd : Nd} (hr : RngAt H r) (h : LRow H p nd) : p ≠ r := by
  obtain ⟨x, y, z, e⟩ := hr
  obtain ⟨o, u, hk⟩ := h.kind
  rintro rfl
  rw [e] at hk
  cases hk
theorem LRow.sbR {H H' : Hp} {r p : Addr} {nd : Nd} (hr : RngAt H r) (s : Sb r H H') (h : LRow H p nd) : LRow H' p nd := by
  have hp := hr.neRow h
  cases nd with
  | fol o es =>
    obtain ⟨d, kvs, k1, k2, k3⟩ := h
    refine ⟨d, kvs, s _ _ hp k1, s _ _ ?_ k2, k3⟩
    obtain ⟨x, y, z, e⟩ := hr
    rintro rfl
    rw [e] at k2
    cases k2
  | fil o => exact s _ _ hp h
  | gon o a => exact s _ _ hp h
theorem LTree.neR {H : Hp} {r a : Addr} {t : Tr} (hr : RngAt H r) (h : LTree H a t) : a ≠ r := by
  obtain ⟨x, y, z, e⟩ := hr
  obtain ⟨rs, h1, h2, _⟩ := h
  rintro rfl
  rw [e] at h1
  cases rs with
  | nil => exact h2 rfl
  | cons b rs => cases h1
theorem LTree.sbR {H H' : Hp} {r a : Addr} {t : Tr} (hr : RngAt H r) (s : Sb r H H') (h : LTree H a t) : LTree H' a t := by
  have hn := LTree.neR hr h
  obtain ⟨rs, h1, h2, h3⟩ := h
  exact ⟨rs, s _ _ hn h1, h2, Pmap h3 fun _ _ => LRow.sbR hr s⟩
theorem LDeed.sbR {H H' : Hp} {r p : Addr} {d : Dd} (hr : RngAt H r) (s : Sb r H H') (h : LDeed H p d) : LDeed H' p d := by
  have hp : p ≠ r := by
    obtain ⟨x, y, z, e⟩ := hr
    rintro rfl
    have := h.all
    rw [e] at this
    cases this
  cases d <;> exact s _ _ hp h
/-- what the law's done gives keeps to the names and the places -/
theorem mem_fns_lt {t : Tr} {f : Nat} (h : isF t f = true) : f < t.length := isF_lt h
end NW
set_option Elab.async false
set_option linter.all false
set_option maxRecDepth 100000
set_option maxHeartbeats 1000000
/-! W40: the law's drawn deed. -/
namespace NW
open PySem PySem.Spec PyProof.Rows L2
section
variable {P : Program} {w : World} {K : Frag} {mg : Str → Option Value} {base : Heap}
/-- the law's names, in its order -/
abbrev NmsAt (H : Hp) (b : Addr) : Prop := H b = some (.lst [.str (nm 2), .str (nm 3), .str (nm 0), .str (nm 1)])
def spLDrawnDeed : Sp := fun vs H Q _ => ∃ (r a b : Addr) (t : Tr), vs = [.ref r, .ref a, .ref b] ∧ RngAt H r ∧ LTree H a t ∧ NmsAt H b ∧ WF t ∧ t.length ≤ 1000 ∧ ∀ p d H', Sb r H H' → RngAt H' r → LDeed H' p d → DdOk t d → Q (.ref p) H'
theorem sc_Ldrawn_deed : FnScope ["_law_rng_here", "_law_nodes", "_law_names", "_law_folders", "_law_at", "_law_row_here", "_law_folder", "_law_goal", "_law_way", "_law_kept", "_law_name"] ["_law_rng_here", "_law_nodes", "_law_names"] (defScope s_Ldrawn_deed) := ⟨rfl, rfl, rfl, by decide +kernel, rfl, by decide +kernel, by decide +kernel⟩
theorem ok_Ldrawn_deed (T : Txt K mg) : Cal P w K mg base 3 "_law_drawn_deed" spLDrawnDeed [] := by
  refine cal T.f_Ldrawn_deed T.g_Ldrawn_deed sc_Ldrawn_deed (fun _ _ _ _ _ _ us hl => match us, hl with | [_, _, _], _ => rfl) (fun vs H Q E h => ?_) (fun cdv A outer s H vs Q E hr h => ?_)
  · obtain ⟨r, a, b, t, rfl, _⟩ := h
    rfl
  · obtain ⟨r, a, b, t, rfl, hR, hT, hb, wf, hlen, q⟩ := h
    have nd := sc_Ldrawn_deed.nd
    have hu := hu_of hr
    refine ⟨_, pss_cons (ps_setLc (i := 3) (own := [("_law_at", 4), ("_law_row_here", 5)]) (g := gTup K 2 (gCons (gName 4) (gCons (gName 5) gNil))) (tt := tTest (tOp rEq (tOp (rIxL K) (tVar 5) (tC (.int 0))) (tC (.str "folder")))) rfl nd rfl rfl (sw_true rfl rfl rfl (by decide +kernel)) (pi_enum (by rfl) T.n_enumerate (pa_cons (pv 1) pa_nil)) (blkOk_by (N := ["_law_rng_here", "_law_nodes", "_law_names", "_law_folders", "_law_at", "_law_row_here", "_law_folder", "_law_goal", "_law_way", "_law_kept", "_law_name"]) (sc := defScope s_Ldrawn_deed) (by decide +kernel))
        (fun _ _ _ _ _ => pg_tup rfl (pgs_cons (pg_name (i := 4) nd rfl (Or.inl rfl)) (pgs_cons (pg_name (i := 5) nd rfl (Or.inl rfl)) pgs_nil))) (fun _ _ _ _ _ => pts_one (pt_cmpR op_eq (pe_ix (ixL (K := K)) (pv 5) pe_int (fun _ _ => rfl)) pe_str (nomark _))) (fun _ _ _ _ _ => pv 4))
      (pss_cons (ps_par3 (i := 6) (j := 7) (l := 8) rfl nd rfl rfl rfl (by decide) (by decide) (by decide) rfl rfl rfl (pa_cons (C8.pe_c (ok_Lpick T) hr (by decide) rfl (pa_cons (pv 0) (pa_cons (pv 3) pa_nil))) (pa_cons (C8.pe_c (ok_Lpick T) hr (by decide) rfl (pa_cons (pv 0) (pa_cons (pv 3) pa_nil))) (pa_cons (C8.pe_c (ok_Ldraw T) hr (by decide) rfl (pa_cons (pv 0) (pa_cons pe_int pa_nil))) pa_nil))) (by rfl))
      (pss_cons (ps_par (i := 9) (j := 10) rfl nd rfl rfl (by decide) rfl rfl (pa_cons (pe_callB (call_sortedD rfl) (by rfl) T.n_sorted (by decide +kernel) (pa_cons (pe_ix ix_list (pe_ix ix_list (pv 1) (pv 6) (fun _ _ => rfl)) pe_int (fun _ _ => rfl)) pa_nil)) (pa_cons (C8.pe_c (ok_Lpick T) hr (by decide) rfl (pa_cons (pv 0) (pa_cons (pv 2) pa_nil))) pa_nil)) (by rfl))
      (C8.pss_cut (ps_if (PW.pt (pw_and (pt_cmpR op_lt (pv 8) pe_int (nomark _)) (pw_and1 (pt_cmpR (op_neNil hr.units0) (pv 9) (pe_lst pa_nil) (nomark _))))) (pss_one (ps_ret (pe_tup (pa_cons pe_str (pa_cons (pv 6) (pa_cons (C8.pe_c (ok_Lpick T) hr (by decide) rfl (pa_cons (pv 0) (pa_cons (pv 9) pa_nil))) (pa_cons (pv 7) (pa_cons (pv 10) pa_nil)))))))) pss_nil)
      (C8.pss_cut (ps_if (PW.pt (pw_and (pt_cmpR op_eq (pv 8) pe_int (nomark _)) (pw_and1 (pt_cmpR (op_neNil hr.units0) (pv 9) (pe_lst pa_nil) (nomark _))))) (pss_one (ps_ret (pe_tup (pa_cons pe_str (pa_cons (pv 6) (pa_cons (C8.pe_c (ok_Lpick T) hr (by decide) rfl (pa_cons (pv 0) (pa_cons (pv 9) pa_nil))) pa_nil)))))) pss_nil)
      (pss_cons (ps_if (pt_cmpR op_eq (pv 8) pe_int (nomark _)) (pss_one (ps_ret (pe_tup (pa_cons pe_str (pa_cons (pv 6) (pa_cons (pv 10) (pa_cons (C8.pe_c (ok_Ldraw T) hr (by decide) rfl (pa_cons (pv 0) (pa_cons (pe_callB call_len_seq (by rfl) T.n_len PySem.boot_len (pa_cons (pv 1) pa_nil)) pa_nil))) pa_nil))))))) pss_nil)
      (pss_one (ps_ret (pe_tup (pa_cons (pe_ix ix_list (pe_lst (pa_cons pe_str (pa_cons pe_str pa_nil))) (pe_callTy call_int1 (by rfl) T.n_int (by decide +kernel) (pa_cons (pe_cmpR op_eq (pv 8) pe_int (nomark _)) pa_nil)) (fun _ _ => rfl)) (pa_cons (pv 6) (pa_cons (pv 10) (pa_cons (C8.pe_c (ok_Ldraw T) hr (by decide) rfl (pa_cons (pv 0) (pa_cons pe_int pa_nil))) pa_nil)))))))))))), ?_⟩
    obtain ⟨rs, g1, w2, w3⟩ := id hT
    have lrs := Plen w3
    refine ⟨_, rfl, a, _, rfl, SqL.of g1, fun D nD => lc_it walk_enum (fun i Hi => Same H Hi ∧ Hi D = some (.lst (natV ((List.range i).filter fun f => isF t f)))) ⟨same_new nD, upd_same⟩ (fun i Hi _ h => SqL.of (h.1 _ _ g1)) (fun i v Hi Hj hi hI hy => ?_) (fun Hi hI => ?_)⟩
    · obtain ⟨sm, hD⟩ := hI
      obtain ⟨T1, xx, yy, rfl, nT, rfl, ex, ey⟩ := hy
      cases ex
      dsimp only at ey
      rw [List.getElem?_map] at ey
      rw [List.length_map] at hi
      have hri := List.getElem?_eq_getElem hi
      generalize rs[i] = ri at hri
      rw [hri] at ey
      cases ey
      obtain ⟨ndi, hni, hrow⟩ := Pget' w3 hri
      have s1 := snew (o := .tup [.int (i : Nat), .ref ri]) sm nT
      have hT1 : upd Hi T1 (.tup [.int (i : Nat), .ref ri]) T1 = some (.tup [.int (i : Nat), .ref ri]) := upd_same
      have hD1 := upd_at (o := .tup [.int (i : Nat), .ref ri]) hD (ne_of_none hD nT)
      generalize upd Hi T1 (.tup [.int (i : Nat), .ref ri]) = H1 at s1 hT1 hD1
      obtain ⟨oi, xi, hki⟩ := hrow.kind
      refine ⟨T1, _, rfl, SqT.of hT1, rfl, _, _, rfl, _, _, rfl, rfl, rfl, _, rfl, ri, _, _, _, rfl, rfl, SqL.of (s1 _ _ hki), atI_nat (j := 0) rfl, rfl, ?_⟩
      rw [kind_fol]
      have hFi : isF t i = ndi.isF := isF_at hni
      have lf : ((List.range i).filter fun f => isF t f).length ≤ 1000 := by
        have h1 := List.length_filter_le (fun f => isF t f) (List.range i)
        rw [List.length_range] at h1
        omega
      have esucc : (List.range (i + 1)).filter (fun f => isF t f) = (List.range i).filter (fun f => isF t f) ++ (if isF t i = true then [i] else []) := by
        rw [List.range_succ, List.filter_append]
        congr 1
        by_cases c : isF t i = true <;> simp [c]
      cases hF2 : ndi.isF with
      | false =>
        refine ⟨_, rfl, iteF ⟨s1, ?_⟩⟩
        rw [esucc, if_neg (fun z => by rw [hFi, hF2] at z; cases z), List.append_nil]
        exact hD1
      | true =>
        refine ⟨_, rfl, iteT ⟨_, rfl, _, hD1, ?_, sput s1 nD, ?_⟩⟩
        · unfold natV
          rw [List.length_map]
          exact Nat.lt_of_le_of_lt lf (by decide)
        · rw [upd_same, esucc, if_pos (hFi.trans hF2)]
          unfold natV
          rw [List.map_append]
          rfl
    · obtain ⟨sm, hDl⟩ := hI
      rw [List.length_map, lrs] at hDl
      have hne : (List.range t.length).filter (fun f => isF t f) ≠ [] := fun z => by
        have h0 : 0 ∈ (List.range t.length).filter (fun f => isF t f) := List.mem_filter.mpr ⟨List.mem_range.mpr (isF_lt wf.root), wf.root⟩
        rw [z] at h0
        cases h0
      have hfl : ((List.range t.length).filter (fun f => isF t f)).length ≤ 1000 := by
        have h1 := List.length_filter_le (fun f => isF t f) (List.range t.length)
        rw [List.length_range] at h1
        omega
      have hmem : ∀ f ∈ (List.range t.length).filter (fun f => isF t f), isF t f = true := fun f hf => (List.mem_filter.mp hf).2
      generalize (List.range t.length).filter (fun f => isF t f) = fs at hDl hne hfl hmem
      have hnV : natV fs ≠ [] := fun z => hne (List.map_eq_nil_iff.mp z)
      have hlV : (natV fs).length < 1000000 := by rw [show (natV fs).length = fs.length from List.length_map _]; omega
      have nDr : D ≠ r := by
        obtain ⟨x, y, z, e⟩ := hR
        exact (ne_of_none e nD).symm
      refine ⟨_, rfl, _, rfl, r, D, _, rfl, hR.same sm, hDl, nDr, hnV, hlV, fun x1 H1 hx1 b1 R1 => ?_⟩
      have hD1 := b1 _ _ nDr hDl
      refine ⟨_, rfl, _, rfl, r, D, _, rfl, R1, hD1, nDr, hnV, hlV, fun x2 H2 hx2 b2 R2 => ?_⟩
      refine ⟨_, rfl, r, 8, rfl, R2, by decide, by decide, fun wy H3 hwy b3 R3 => ?_⟩
      refine ⟨_, _, _, rfl, ?_⟩
      obtain ⟨f1, hf1, rfl⟩ := List.mem_map.mp hx1
      obtain ⟨f2, hf2, rfl⟩ := List.mem_map.mp hx2
      have F1 := hmem f1 hf1
      have F2 := hmem f2 hf2
      have hT3 : LTree H3 a t := LTree.sbR R2 b3 (LTree.sbR R1 b2 (LTree.sbR (hR.same sm) b1 (hT.same sm)))
      obtain ⟨o1, ht1⟩ := isF_fol F1
      obtain ⟨rs3, r3, u1, u2, u3, hrow3⟩ := hT3.at' ht1
      obtain ⟨d3, kvs3, k1, k2, k3⟩ := hrow3
      obtain ⟨es3, pe3, rfl⟩ := perm_vals k3
      have wsr := wf.srt f1
      have h4 : ∀ e ∈ es3, e.1 < 4 := fun e he => (wf.ent f1 e.1 e.2 (pe3.mem_iff.mp he)).1
      have hnd3 : (es3.map (·.1)).Nodup := (pe3.map _).nodup_iff.mpr (srt_nodup wsr)
      refine ⟨_, rfl, _, rfl, a, _, _, _, rfl, rfl, SqL.of u1, u3, r3, _, _, _, rfl, rfl, SqL.of k1, atI_nat (j := 2) rfl, d3, _, (es3.map (·.1)).map nm, rfl, .inl k2, ?_, ?_, fun ys p hp hs np => ?_⟩
      · unfold dkv
        rw [List.map_map, List.map_map, List.map_map]
        rfl
      · rw [List.length_map, List.length_map, pe3.length_eq]
        exact Nat.lt_of_le_of_lt (srt_len wsr fun e he => h4 e (pe3.mem_iff.mpr he)) (by decide)
      · have hys := sorted_entries hnd3 h4 hp hs
        rw [rise_extE (srtE_srt hnd3) wsr fun x => (srtE_perm es3).mem_iff.trans pe3.mem_iff] at hys
        subst hys
        have s4 := same_new (o := .lst ((((ents t f1).map (·.1)).map nm).map V.str)) np
        have hp4 : upd H3 p (.lst ((((ents t f1).map (·.1)).map nm).map V.str)) p = some (.lst ((((ents t f1).map (·.1)).map nm).map V.str)) := upd_same
        have hT4 := hT3.same s4
        have R4 := R3.same s4
        have npr : p ≠ r := by
          obtain ⟨x, y, z, e⟩ := R3
          exact (ne_of_none e np).symm
        have nbr : b ≠ r := by
          obtain ⟨x, y, z, e⟩ := hR
          rintro rfl
          have hb : H b = some (.lst _) := hb
          rw [e] at hb
          cases hb
        have hb4 := s4 _ _ (b3 _ _ nbr (b2 _ _ nbr (b1 _ _ nbr (sm _ _ hb))))
        generalize upd H3 p (.lst ((((ents t f1).map (·.1)).map nm).map V.str)) = H4 at s4 hp4 hT4 R4 hb4
        refine ⟨_, rfl, _, rfl, r, b, _, rfl, R4, hb4, nbr, (fun z => by cases z), (by show 4 < 1000000; decide), fun x3 H5 hx3 b5 R5 => ⟨_, _, rfl, ?_⟩⟩
        have hp5 := b5 _ _ npr hp4
        have hT5 := LTree.sbR R4 b5 hT4
        obtain ⟨kn, hkn, rfl⟩ : ∃ kn, kn < 4 ∧ x3 = .str (nm kn) := by
          rcases List.mem_cons.mp hx3 with rfl | h
          · exact ⟨2, by decide, rfl⟩
          rcases List.mem_cons.mp h with rfl | h
          · exact ⟨3, by decide, rfl⟩
          rcases List.mem_cons.mp h with rfl | h
          · exact ⟨0, by decide, rfl⟩
          rcases List.mem_cons.mp h with rfl | h
          · exact ⟨1, by decide, rfl⟩
          · cases h
        have L1 := isF_lt F1
        have L2' := isF_lt F2
        have S5 : Sb r H H5 := fun b o n e => b5 _ _ n (s4 _ _ (b3 _ _ n (b2 _ _ n (b1 _ _ n (sm _ _ e)))))
        refine ⟨fun σ' H' => σ' = [some (.ref r), some (.ref a), some (.ref b), some (.ref D), none, none, some (.int (f1 : Nat)), some (.int (f2 : Nat)), some (.int (wy : Nat)), some (.ref p), some (.str (nm kn))] ∧ Same H5 H', ⟨_, rfl, _, _, rfl, rfl, _, rfl, ?_⟩, ?_⟩
        · by_cases c4 : ((wy : Nat) : Int) < 4
          · rw [decide_eq_true c4]
            refine iteT ⟨_, rfl, (by show 0 ≤ sizeLine; decide), fun N nN => ⟨p, N, _, rfl, rfl, SqL.of (same_new nN _ _ hp5), SqL.of upd_same, _, rfl, ?_⟩⟩
            have s6 := same_new (o := .lst []) nN
            have R6 := R5.same s6
            have hp6 := s6 _ _ hp5
            have S6 : Sb r H (upd H5 N (.lst [])) := fun b o n e => s6 _ _ (S5 b o n e)
            generalize upd H5 N (.lst []) = H6 at s6 R6 hp6 S6
            rw [if_pos rfl]
            cases he : ents t f1 with
            | nil => exact iteF ⟨rfl, s6⟩
            | cons e0 er =>
              rw [he] at hp6
              refine iteT ⟨_, rfl, _, rfl, _, rfl, r, p, _, rfl, R6, hp6, npr, (fun z => by cases z), ?_, fun x4 H7 hx4 b7 R7 => ⟨_, rfl, _, rfl, (by show 5 ≤ sizeLine; decide), fun TT nT => ?_⟩⟩
              · rw [List.length_map, List.length_map, List.length_map, ← he]
                exact Nat.lt_of_le_of_lt (srt_len wsr fun e he' => h4 e (pe3.mem_iff.mpr he')) (by decide)
              · obtain ⟨sx, hsx, rfl⟩ := List.mem_map.mp hx4
                obtain ⟨kx, hkx, rfl⟩ := List.mem_map.mp hsx
                rw [← he] at hkx
                obtain ⟨ex, hex, rfl⟩ := List.mem_map.mp hkx
                have hk4 := h4 ex (pe3.mem_iff.mpr hex)
                have nTr : TT ≠ r := by
                  obtain ⟨x, y, z, e⟩ := R7
                  exact (ne_of_none e nT).symm
                exact q TT (.move f1 ex.1 f2 kn) _ (fun b o n e => same_new nT _ _ (b7 _ _ n (S6 _ _ n e))) (R7.same (same_new nT)) upd_same ⟨L1, hk4, L2', hkn⟩
          · rw [decide_eq_false c4]
            exact iteF (iteF ⟨rfl, Same.refl _⟩)
        · rintro σ' H6 ⟨rfl, s6⟩
          refine ⟨fun σ' H' => σ' = [some (.ref r), some (.ref a), some (.ref b), some (.ref D), none, none, some (.int (f1 : Nat)), some (.int (f2 : Nat)), some (.int (wy : Nat)), some (.ref p), some (.str (nm kn))] ∧ Same H5 H', ⟨_, rfl, rfl, _, rfl, ?_⟩, ?_⟩
          · have hp6 := s6 _ _ hp5
            have R6 := R5.same s6
            have S6 : Sb r H H6 := fun b o n e => s6 _ _ (S5 b o n e)
            by_cases c4 : (V.int (wy : Nat)) = V.int 4
            · rw [decide_eq_true c4]
              refine iteT ⟨_, rfl, (by show 0 ≤ sizeLine; decide), fun N nN => ⟨p, N, _, rfl, rfl, SqL.of (same_new nN _ _ hp6), SqL.of upd_same, _, rfl, ?_⟩⟩
              have s67 := snew (o := .lst []) s6 nN
              have s7 := same_new (o := .lst []) nN
              have R7 := R6.same s7
              have hp7 := s7 _ _ hp6
              have S7 : Sb r H (upd H6 N (.lst [])) := fun b o n e => s7 _ _ (S6 b o n e)
              generalize upd H6 N (.lst []) = H7 at s67 s7 R7 hp7 S7
              rw [if_pos rfl]
              cases he : ents t f1 with
              | nil => exact iteF ⟨rfl, s67⟩
              | cons e0 er =>
                rw [he] at hp7
                refine iteT ⟨_, rfl, _, rfl, _, rfl, r, p, _, rfl, R7, hp7, npr, (fun z => by cases z), ?_, fun x4 H8 hx4 b8 R8 => ⟨(by show 3 ≤ sizeLine; decide), fun TT nT => ?_⟩⟩
                · rw [List.length_map, List.length_map, List.length_map, ← he]
                  exact Nat.lt_of_le_of_lt (srt_len wsr fun e he' => h4 e (pe3.mem_iff.mpr he')) (by decide)
                · obtain ⟨sx, hsx, rfl⟩ := List.mem_map.mp hx4
                  obtain ⟨kx, hkx, rfl⟩ := List.mem_map.mp hsx
                  rw [← he] at hkx
                  obtain ⟨ex, hex, rfl⟩ := List.mem_map.mp hkx
                  have hk4 := h4 ex (pe3.mem_iff.mpr hex)
                  exact q TT (.take f1 ex.1) _ (fun b o n e => same_new nT _ _ (b8 _ _ n (S7 _ _ n e))) (R8.same (same_new nT)) upd_same ⟨L1, hk4⟩
            · rw [decide_eq_false c4]
              exact iteF (iteF ⟨rfl, s6⟩)
          · rintro σ' H7 ⟨rfl, s7⟩
            have R7 := R5.same s7
            have hT7 := hT5.same s7
            have S7 : Sb r H H7 := fun b o n e => s7 _ _ (S5 b o n e)
            refine ⟨_, rfl, rfl, _, rfl, ?_⟩
            by_cases c5 : (V.int (wy : Nat)) = V.int 5
            · rw [decide_eq_true c5]
              obtain ⟨rs7, z1, z2, z3⟩ := id hT7
              refine iteT ⟨_, rfl, _, rfl, _, rfl, _, rfl, a, _, rfl, .inl (SqL.of z1), r, t.length, ?_, R7, ?_, ?_, fun dd H8 hdd b8 R8 => ⟨(by show 4 ≤ sizeLine; decide), fun TT nT => ?_⟩⟩
              · rw [List.length_map, Plen z3]; rfl
              · omega
              · exact Nat.lt_of_le_of_lt hlen (by decide)
              · exact q TT (.put f1 kn dd) _ (fun b o n e => same_new nT _ _ (b8 _ _ n (S7 _ _ n e))) (R8.same (same_new nT)) upd_same ⟨L1, hkn, hdd⟩
            · rw [decide_eq_false c5]
              refine iteF ⟨(by show 2 ≤ sizeLine; decide), fun L nL => ?_⟩
              have s8 := same_new (o := .lst [.str "folder", .str "file"]) nL
              have hL8 : upd H7 L (.lst [.str "folder", .str "file"]) L = some (.lst [.str "folder", .str "file"]) := upd_same
              have R8 := R7.same s8
              have S8 : Sb r H (upd H7 L (.lst [.str "folder", .str "file"])) := fun b o n e => s8 _ _ (S7 b o n e)
              generalize upd H7 L (.lst [.str "folder", .str "file"]) = H8 at s8 hL8 R8 S8
              refine ⟨_, rfl, rfl, ?_⟩
              by_cases c6 : (V.int (wy : Nat)) = V.int 6
              · rw [decide_eq_true c6]
                refine .inr ⟨_, rfl, L, _, _, .str "file", rfl, rfl, SqL.of hL8, atI_nat (j := 1) rfl, _, rfl, _, rfl, _, rfl, r, 3, rfl, R8, by decide, by decide, fun dd H9 hdd b9 R9 => ⟨(by show 4 ≤ sizeLine; decide), fun TT nT => ?_⟩⟩
                exact q TT (.mkL f1 kn (dd : Nat)) _ (fun b o n e => same_new nT _ _ (b9 _ _ n (S8 _ _ n e))) (R9.same (same_new nT)) upd_same ⟨L1, hkn, Int.natCast_nonneg _⟩
              · rw [decide_eq_false c6]
                refine .inr ⟨_, rfl, L, _, _, .str "folder", rfl, rfl, SqL.of hL8, atI_nat (j := 0) rfl, _, rfl, _, rfl, _, rfl, r, 3, rfl, R8, by decide, by decide, fun dd H9 hdd b9 R9 => ⟨(by show 4 ≤ sizeLine; decide), fun TT nT => ?_⟩⟩
                exact q TT (.mkF f1 kn (dd : Nat)) _ (fun b o n e => same_new nT _ _ (b9 _ _ n (S8 _ _ n e))) (R9.same (same_new nT)) upd_same ⟨L1, hkn, Int.natCast_nonneg _⟩
end
end NW
set_option Elab.async false
set_option linter.all false
set_option maxRecDepth 100000
set_option maxHeartbeats 1000000
/-! KM4: how many folders, how long a visit, how many listings; ways. -/
namespace NW
/-! one tree, rows -/
theorem wf_one {o : Int} (ho : 0 ≤ o) : WF [.fol o []] := by
  have e0 : ∀ i, ents [Nd.fol o []] i = [] := fun i => by
    cases i with
    | zero => rfl
    | succ i => rfl
  have f0 : ∀ i, isF [Nd.fol o []] i = true → i = 0 := fun i h => by
    cases i with
    | zero => rfl
    | succ i => cases h
  refine ⟨rfl, fun i nd h => ?_, fun i => (by rw [e0]; exact .nil), fun i k n h => (by rw [e0] at h; cases h), fun i o a h => ?_, fun f k g j n _ h => (by rw [e0] at h; cases h), fun n h => ?_⟩
  · cases i with
    | zero => cases h; exact ho
    | succ i => cases h
  · cases i with
    | zero => cases h
    | succ i => cases h
  · rw [f0 n h]
    exact ⟨0, .root⟩
theorem lastT_snoc (ts : List Tr) (t : Tr) : lastT (ts ++ [t]) = t := by unfold lastT; simp
theorem lastT_cons {t t' : Tr} {ts : List Tr} : lastT (t :: t' :: ts) = lastT (t' :: ts) := by
  unfold lastT
  rw [List.getLastD_eq_getLast?, List.getLastD_eq_getLast?, List.getLast?_cons_cons]
theorem Row.snoc {ts : List Tr} {ds : List Dd} (h : Row ts ds) : ∀ {d : Dd} {t' : Tr}, Step (lastT ts) d t' → Row (ts ++ [t']) (ds ++ [d]) := by
  induction h with
  | one t w =>
    intro d t' s
    exact .cons w s (.one t' (s.wf w))
  | cons w s r ih =>
    intro d t' s'
    rw [lastT_cons] at s'
    exact .cons w s (ih s')
/-! folders below, each once -/
theorem Bel.dep_le {t : Tr} (w : WF t) {a x d e : Nat} (h : Bel t a x) (ha : Dep t a d) (hx : Dep t x e) : d ≤ e := by
  induction h generalizing e with
  | refl => exact Nat.le_of_eq (ha.uniq w hx)
  | @step f k x hb hm hF ih =>
    obtain ⟨e', he'⟩ := hb.dep ha
    have := ih he'
    have := (Dep.step he' hm hF).uniq w hx
    omega
theorem Bel.uniq {t : Tr} (w : WF t) {a b x d : Nat} (h : Bel t a x) (ha : Dep t a d) (hb : Dep t b d) (h2 : Bel t b x) : a = b := by
  induction h with
  | refl =>
    cases h2 with
    | refl => rfl
    | @step f k x hb2 hm hF =>
      obtain ⟨e, he⟩ := hb2.dep hb
      have := hb2.dep_le w hb he
      have := (Dep.step he hm hF).uniq w ha
      omega
  | @step f k x h1 hm hF ih =>
    cases h2 with
    | refl =>
      obtain ⟨e, he⟩ := h1.dep ha
      have := h1.dep_le w ha he
      have := (Dep.step he hm hF).uniq w hb
      omega
    | @step g j x hb2 hm2 hF2 =>
      obtain ⟨rfl, _⟩ := w.one _ _ _ _ _ hF hm hm2
      exact ih hb2
theorem Bel.trans {t : Tr} {a b x : Nat} (h : Bel t a b) (h2 : Bel t b x) : Bel t a x := by
  induction h2 with
  | refl => exact h
  | step _ hm hF ih => exact .step ih hm hF
def fBlw (t : Tr) (m f : Nat) : List Nat := (blw t m f).filter (isF t)
theorem kid_ent {t : Tr} {f c : Nat} (h : c ∈ kids t f) : ∃ k, (k, c) ∈ ents t f := by
  obtain ⟨⟨k, c'⟩, he, rfl⟩ := List.mem_map.mp h
  exact ⟨k, he⟩
theorem fBlw_ok {t : Tr} (w : WF t) : ∀ (m f d : Nat), Dep t f d → (fBlw t m f).Nodup ∧ ∀ x ∈ fBlw t m f, Bel t f x ∧ ∃ e, Dep t x e ∧ d < e
  | 0, f, d, h => ⟨List.nodup_nil, fun x hx => by cases hx⟩
  | m + 1, f, d, h => by
    have e1 : fBlw t (m + 1) f = (kids t f).flatMap fun c => (c :: blw t m c).filter (isF t) := by
      unfold fBlw
      show ((kids t f).flatMap fun c => c :: blw t m c).filter (isF t) = _
      rw [List.filter_flatMap]
    have el : ∀ c ∈ kids t f, ∀ x ∈ (c :: blw t m c).filter (isF t), isF t c = true ∧ Dep t c (d + 1) ∧ Bel t c x ∧ Bel t f x ∧ ∃ e, Dep t x e ∧ d < e := by
      intro c hc x hx
      obtain ⟨k, hk⟩ := kid_ent hc
      cases hF : isF t c with
      | false =>
        rw [blw_none hF, List.filter_cons_of_neg (by rw [hF]; simp)] at hx
        cases hx
      | true =>
        have hdc : Dep t c (d + 1) := .step h hk hF
        rw [List.filter_cons_of_pos hF] at hx
        rcases List.mem_cons.mp hx with rfl | hx
        · exact ⟨rfl, hdc, .refl, .step .refl hk hF, d + 1, hdc, Nat.lt_succ_self d⟩
        · obtain ⟨b, e, he, hde⟩ := (fBlw_ok w m c (d + 1) hdc).2 x hx
          exact ⟨rfl, hdc, b, (Bel.step .refl hk hF).trans b, e, he, by omega⟩
    rw [e1]
    refine ⟨?_, fun x hx => ?_⟩
    · unfold List.Nodup
      rw [List.pairwise_flatMap]
      refine ⟨fun c hc => ?_, ?_⟩
      · obtain ⟨k, hk⟩ := kid_ent hc
        cases hF : isF t c with
        | false =>
          rw [blw_none hF, List.filter_cons_of_neg (by rw [hF]; simp)]
          exact .nil
        | true =>
          have hdc : Dep t c (d + 1) := .step h hk hF
          rw [List.filter_cons_of_pos hF]
          obtain ⟨n1, n2⟩ := fBlw_ok w m c (d + 1) hdc
          refine List.pairwise_cons.mpr ⟨fun x hx => ?_, n1⟩
          obtain ⟨_, e, he, hde⟩ := n2 x hx
          rintro rfl
          have := hdc.uniq w he
          omega
      · unfold kids
        rw [List.pairwise_map]
        refine (w.srt f).imp_of_mem fun {a b} ha hb hab => ?_
        intro x hx y hy hxy
        subst hxy
        obtain ⟨hF1, hd1, b1, _⟩ := el a.2 (List.mem_map.mpr ⟨a, ha, rfl⟩) x hx
        obtain ⟨hF2, hd2, b2, _⟩ := el b.2 (List.mem_map.mpr ⟨b, hb, rfl⟩) x hy
        have e2 := b1.uniq w hd1 hd2 b2
        have := (w.one f a.1 f b.1 a.2 hF1 ha (by rw [e2]; exact hb)).2
        omega
    · obtain ⟨c, hc, hx⟩ := List.mem_flatMap.mp hx
      exact (el c hc x hx).2.2.2
/-- how many folders stand below a folder, with itself -/
def sz (t : Tr) (c : Nat) : Nat := 1 + cntF t (below t c)
theorem sz_le {t : Tr} (w : WF t) {c : Nat} (hc : c < t.length) : sz t c ≤ t.length := by
  unfold sz cntF
  rw [List.countP_eq_length_filter]
  cases hF : isF t c with
  | false =>
    unfold below
    rw [blw_none hF]
    show 1 + 0 ≤ _
    omega
  | true =>
    obtain ⟨d, hd⟩ := w.dep c hF
    obtain ⟨n1, n2⟩ := fBlw_ok w t.length c d hd
    have hn : (c :: fBlw t t.length c).Nodup := List.nodup_cons.mpr ⟨fun z => by
      obtain ⟨_, e, he, hde⟩ := n2 c z
      have := hd.uniq w he
      omega, n1⟩
    have := nodup_len hn fun x hx => by
      rcases List.mem_cons.mp hx with rfl | hx
      · exact hc
      · exact isF_lt (List.mem_filter.mp hx).2
    rw [List.length_cons] at this
    unfold fBlw at this
    unfold below
    omega
/-- how many looks the places of a list ask, in a tree that stays -/
def szp (t : Tr) (cs : List Nat) : Nat := (cs.map fun c => if isP t c = true then sz t c else 0).sum
theorem szp_nil (t : Tr) : szp t [] = 0 := rfl
theorem szp_cons (t : Tr) (c : Nat) (cs : List Nat) : szp t (c :: cs) = (if isP t c = true then sz t c else 0) + szp t cs := by unfold szp; rw [List.map_cons, List.sum_cons]
theorem szp_app (t : Tr) (a b : List Nat) : szp t (a ++ b) = szp t a + szp t b := by unfold szp; rw [List.map_append, List.sum_append]
theorem kid_isP {t : Tr} (w : WF t) {f c : Nat} (h : c ∈ kids t f) : isP t c = isF t c := by
  obtain ⟨k, hk⟩ := kid_ent h
  unfold isP
  rw [(w.ent f k c hk).2.2.2, Bool.or_false]
theorem sz_kids {t : Tr} (w : WF t) (f : Nat) : sz t f = 1 + szp t (kids t f) := by
  unfold sz
  rw [below_eq w f]
  congr 1
  have key : ∀ cs : List Nat, (∀ c ∈ cs, c ∈ kids t f) → cntF t (cs.flatMap fun c => c :: below t c) = szp t cs := by
    intro cs
    induction cs with
    | nil => intro _; rfl
    | cons c cs ih =>
      intro hc
      rw [List.flatMap_cons, szp_cons, ← ih fun x hx => hc x (List.mem_cons_of_mem _ hx), kid_isP w (hc c List.mem_cons_self)]
      unfold cntF sz cntF
      rw [List.countP_append]
      congr 1
      cases hF : isF t c with
      | true => rw [List.countP_cons_of_pos hF, if_pos rfl, Nat.add_comm]
      | false =>
        unfold below
        rw [List.countP_cons_of_neg (by rw [hF]; simp), blw_none hF, if_neg (by simp)]
        rfl
  exact key _ fun c hc => hc
/-! how long a visit is -/
theorem VL.app {ts : List Tr} {cs τs V : List Nat} (h : VL ts cs τs V) : ∀ {cs' τs' V' : List Nat}, VL ts cs' τs' V' → VL ts (cs ++ cs') (τs ++ τs') (V ++ V') := by
  induction h with
  | nil => intro _ _ _ h; exact h
  | file hp _ ih => intro _ _ _ h; exact .file hp (ih h)
  | place hp h1 _ _ ih2 =>
    intro _ _ _ h
    have := VL.place hp h1 (ih2 h)
    rw [List.cons_append, List.cons_append, List.cons_append, List.append_assoc, List.append_assoc]
    exact this
theorem VL.vlen {ts : List Tr} (hW : ∀ t ∈ ts, WF t) {cs τs V : List Nat} (h : VL ts cs τs V) : V.length ≤ cs.length + 4 * τs.length := by
  induction h with
  | nil => exact Nat.zero_le _
  | file _ _ ih => simp only [List.length_cons]; omega
  | @place c τ cs τs V τs' V' _ _ _ ih1 ih2 =>
    have hk : (kids (at_ ts τ) c).length ≤ 4 := by
      by_cases hτ : τ < ts.length
      · exact kids_len (hW _ (at_mem hτ)) c
      · unfold at_
        rw [List.getD_eq_getElem?_getD, List.getElem?_eq_none (by omega)]
        show (kids [] c).length ≤ 4
        rw [kids_none (by unfold isF; simp)]
        exact Nat.zero_le _
    have : (kids (ts.getD τ []) c).length ≤ 4 := hk
    simp only [List.length_cons, List.length_append]
    omega
theorem VL.tlen {ts : List Tr} {ds : List Dd} (hR : Row ts ds) {B : Nat} (hB : ∀ t ∈ ts, t.length ≤ B) (hB1 : 1 ≤ B) {cs τs V : List Nat} (h : VL ts cs τs V) : ∀ k, k < ts.length → (k :: τs).Pairwise (· ≤ ·) → (∀ τ ∈ τs, τ < ts.length) → (∀ c ∈ cs, c < (at_ ts k).length) → τs.length ≤ szp (at_ ts k) cs * B ^ (ts.length - 1 - k) := by
  induction h with
  | nil => intros; exact Nat.zero_le _
  | @file c cs τs V hp _ ih =>
    intro k hk hs ht hc
    rw [szp_cons, ← hR.plL hk (hc c List.mem_cons_self), hp, if_neg (by simp), Nat.zero_add]
    exact ih k hk hs ht fun x hx => hc x (List.mem_cons_of_mem _ hx)
  | @place c τ cs τs V τs' V' hp _ _ ih1 ih2 =>
    intro k hk hs ht hc
    have hcl := hc c List.mem_cons_self
    have hτ := ht τ List.mem_cons_self
    obtain ⟨h1, h2⟩ := List.pairwise_cons.mp hs
    obtain ⟨h3, h4⟩ := List.pairwise_cons.mp h2
    obtain ⟨h5, h6, _⟩ := List.pairwise_append.mp h4
    have hkτ := h1 τ List.mem_cons_self
    have a1 := ih1 τ hτ (List.pairwise_cons.mpr ⟨fun x hx => h3 x (List.mem_append_left _ hx), h5⟩) (fun x hx => ht x (List.mem_cons_of_mem _ (List.mem_append_left _ hx))) (fun x hx => (hR.kid hτ hx).1)
    have a2 := ih2 k hk (List.pairwise_cons.mpr ⟨fun x hx => h1 x (List.mem_cons_of_mem _ (List.mem_append_right _ hx)), h6⟩) (fun x hx => ht x (List.mem_cons_of_mem _ (List.mem_append_right _ hx))) (fun x hx => hc x (List.mem_cons_of_mem _ hx))
    rw [szp_cons, ← hR.plL hk hcl, hp, if_pos rfl, Nat.add_mul]
    have wτ := hR.wf _ (at_mem hτ)
    have hcτ : c < (at_ ts τ).length := by have := (hR.mono hkτ hτ).1; omega
    have p1 : 1 ≤ B ^ (ts.length - 1 - τ) := Nat.pos_of_ne_zero fun z => by
      have := Nat.pow_eq_zero.mp z
      omega
    have a3 : 1 + τs.length ≤ sz (at_ ts τ) c * B ^ (ts.length - 1 - τ) := by
      rw [sz_kids wτ c, Nat.add_mul, Nat.one_mul]
      have : szp (at_ ts τ) (kids (ts.getD τ []) c) = szp (at_ ts τ) (kids (at_ ts τ) c) := rfl
      rw [this] at a1
      omega
    have a4 : sz (at_ ts τ) c * B ^ (ts.length - 1 - τ) ≤ sz (at_ ts k) c * B ^ (ts.length - 1 - k) := by
      by_cases e : τ = k
      · subst e; exact Nat.le_refl _
      · have e1 : ts.length - 1 - k = (ts.length - 1 - τ) + 1 + (τ - k - 1) := by omega
        have h1 : sz (at_ ts τ) c ≤ B := Nat.le_trans (sz_le wτ hcτ) (hB _ (at_mem hτ))
        have h2 : sz (at_ ts τ) c * B ^ (ts.length - 1 - τ) ≤ B * B ^ (ts.length - 1 - τ) := Nat.mul_le_mul_right _ h1
        have h3 : B * B ^ (ts.length - 1 - τ) ≤ B ^ (ts.length - 1 - k) := by
          rw [e1, Nat.pow_add B _ (τ - k - 1), Nat.pow_succ, Nat.mul_comm B]
          exact Nat.le_mul_of_pos_right _ (Nat.pos_of_ne_zero fun z => by have := Nat.pow_eq_zero.mp z; omega)
        have h4 : B ^ (ts.length - 1 - k) ≤ sz (at_ ts k) c * B ^ (ts.length - 1 - k) := Nat.le_mul_of_pos_left _ (by unfold sz; omega)
        omega
    simp only [List.length_cons, List.length_append]
    omega
end NW
set_option Elab.async false
set_option linter.all false
set_option maxRecDepth 100000
set_option maxHeartbeats 1000000
/-! KM5: how many listings a row of at most three trees has; ways. -/
namespace NW
/-! listings -/
theorem Lst.up {ts : List Tr} {W : List Nat} {k c z c' z' : Nat} (h : Lst ts W k c z) (hc : c ≤ c') (hz : z ≤ z') : Lst ts W k c' z' := by
  cases h with
  | done a b => exact .done (Nat.le_trans a hc) (Nat.le_trans b hz)
  | more fc fz hW hL h1 h2 => exact .more fc fz hW hL (Nat.le_trans h1 hc) (Nat.le_trans h2 hz)
theorem sumR_front (f : Nat → Nat) (k : Nat) : ∀ m, sumR f k (m + 1) = f k + sumR f (k + 1) m
  | 0 => by
    show sumR f k 0 + f (k + 0) = f k + sumR f (k + 1) 0
    show 0 + f k = f k + 0
    omega
  | m + 1 => by
    show sumR f k (m + 1) + f (k + (m + 1)) = f k + (sumR f (k + 1) m + f (k + 1 + m))
    rw [sumR_front f k m, show k + 1 + m = k + (m + 1) from by omega]
    omega
theorem sumR_congr {f g : Nat → Nat} {k : Nat} : ∀ {m}, (∀ i, i < m → f (k + i) = g (k + i)) → sumR f k m = sumR g k m
  | 0, _ => rfl
  | m + 1, h => by
    show sumR f k m + f (k + m) = sumR g k m + g (k + m)
    rw [sumR_congr fun i hi => h i (Nat.lt_succ_of_lt hi), h m (Nat.lt_succ_self m)]
def rowC (h : Nat → Nat) (a b : Nat) : Nat → Nat
  | 0 => 1
  | S + 1 => a + rowC h a b S + h (b * (S + 4))
theorem rowC_pos (h : Nat → Nat) (a b : Nat) : ∀ S, 1 ≤ rowC h a b S
  | 0 => Nat.le_refl _
  | S + 1 => by show 1 ≤ a + rowC h a b S + _; have := rowC_pos h a b S; omega
def Good (ts : List Tr) (k : Nat) (W : List Nat) : Prop := (W = [] ∨ ∃ p r, W = p :: r ∧ plL ts p = true) ∧ ∀ c ∈ W, c < (at_ ts k).length
theorem settle_head {pl : Nat → Bool} : ∀ (W N : List Nat), (settle pl N W).2 = [] ∨ ∃ p r, (settle pl N W).2 = p :: r ∧ pl p = true
  | [], N => .inl rfl
  | c :: W, N => by
    have e : settle pl N (c :: W) = if pl c = true then (N ++ [c], c :: W) else settle pl (N ++ [c]) W := rfl
    rw [e]
    by_cases h : pl c = true
    · rw [if_pos h]; exact .inr ⟨c, W, rfl, h⟩
    · rw [if_neg h]; exact settle_head W _
/-- how many places -/
def npl (pl : Nat → Bool) (W : List Nat) : Nat := W.countP pl
theorem settle_npl {pl : Nat → Bool} : ∀ (W N : List Nat), npl pl (settle pl N W).2 = npl pl W
  | [], N => rfl
  | c :: W, N => by
    have e : settle pl N (c :: W) = if pl c = true then (N ++ [c], c :: W) else settle pl (N ++ [c]) W := rfl
    rw [e]
    by_cases h : pl c = true
    · rw [if_pos h]
    · rw [if_neg h, settle_npl W]
      unfold npl
      rw [List.countP_cons_of_neg h]
theorem szp_npl {ts : List Tr} {ds : List Dd} (hR : Row ts ds) {B k : Nat} (hk : k < ts.length) (hB : (at_ ts k).length ≤ B) : ∀ {W : List Nat}, (∀ c ∈ W, c < (at_ ts k).length) → szp (at_ ts k) W ≤ B * npl (plL ts) W ∧ npl (plL ts) W ≤ szp (at_ ts k) W
  | [], _ => ⟨Nat.zero_le _, Nat.zero_le _⟩
  | c :: W, h => by
    obtain ⟨a, b⟩ := szp_npl hR hk hB (W := W) fun x hx => h x (List.mem_cons_of_mem _ hx)
    have hc := h c List.mem_cons_self
    have hs := sz_le (hR.wf _ (at_mem hk)) hc
    rw [szp_cons, ← hR.plL hk hc]
    unfold npl at a b ⊢
    by_cases hp : plL ts c = true
    · rw [if_pos hp, List.countP_cons_of_pos hp, Nat.mul_add, Nat.mul_one]
      have : 1 ≤ sz (at_ ts k) c := by unfold sz; omega
      omega
    · rw [if_neg hp, List.countP_cons_of_neg hp]
      omega
theorem settle_szp {ts : List Tr} {ds : List Dd} (hR : Row ts ds) {k : Nat} (hk : k < ts.length) : ∀ {W : List Nat} (N : List Nat), (∀ c ∈ W, c < (at_ ts k).length) → szp (at_ ts k) (settle (plL ts) N W).2 = szp (at_ ts k) W
  | [], N, _ => rfl
  | c :: W, N, h => by
    have e : settle (plL ts) N (c :: W) = if plL ts c = true then (N ++ [c], c :: W) else settle (plL ts) (N ++ [c]) W := rfl
    rw [e]
    by_cases hp : plL ts c = true
    · rw [if_pos hp]
    · rw [if_neg hp, settle_szp hR hk _ fun x hx => h x (List.mem_cons_of_mem _ hx), szp_cons, ← hR.plL hk (h c List.mem_cons_self), if_neg hp, Nat.zero_add]
theorem lst_stage {ts : List Tr} {ds : List Dd} (hR : Row ts ds) {B : Nat} (hB : ∀ t ∈ ts, t.length ≤ B) {k : Nat} (hk : k < ts.length) (cf zf : Nat → Nat → Nat)
    (hl : ∀ τ, k < τ → τ < ts.length → ∀ W S, Good ts τ W → szp (at_ ts τ) W ≤ S → Lst ts W τ (cf τ S) (zf τ S)) {hc hz : Nat → Nat} (h1 : ∀ X, sumR (fun τ => cf τ X) (k + 1) (ts.length - 1 - k) ≤ hc X) (h2 : ∀ X, sumR (fun τ => zf τ X) (k + 1) (ts.length - 1 - k) ≤ hz X) :
    ∀ S W, Good ts k W → szp (at_ ts k) W ≤ S → Lst ts W k (rowC hc 0 B S) (rowC hz 1 B S)
  | 0, W, ⟨hg, hW⟩, hs => by
    rcases hg with rfl | ⟨p, r, rfl, hp⟩
    · exact .done (Nat.le_refl _) (Nat.le_refl _)
    · rw [szp_cons, ← hR.plL hk (hW p List.mem_cons_self), if_pos hp] at hs
      unfold sz at hs
      omega
  | S + 1, W, ⟨hg, hW⟩, hs => by
    rcases hg with rfl | ⟨p, r, rfl, hp⟩
    · exact .done (rowC_pos _ _ _ _) (rowC_pos _ _ _ _)
    · have hpl := hW p List.mem_cons_self
      have em : ts.length - k = (ts.length - 1 - k) + 1 := by omega
      refine .more (fun τ => if τ = k then rowC hc 0 B S else cf τ (B * (S + 4))) (fun τ => if τ = k then rowC hz 1 B S else zf τ (B * (S + 4))) (by simp) (fun τ hkτ hτ => ?_) ?_ ?_
      · have ek : ∀ c ∈ kids (at_ ts τ) p ++ r, c < (at_ ts τ).length := fun c hc => by
          rcases List.mem_append.mp hc with h | h
          · exact (hR.kid hτ h).1
          · have := hW c (List.mem_cons_of_mem _ h)
            have := (hR.mono hkτ hτ).1
            omega
        have el : (lookAt ts τ [] (p :: r)).2 = (settle (plL ts) [] (kids (at_ ts τ) p ++ r)).2 := rfl
        have gd : Good ts τ (lookAt ts τ [] (p :: r)).2 := by
          rw [el]
          exact ⟨settle_head _ _, fun c hc => ek c (settle_mem hc)⟩
        by_cases e : τ = k
        · subst e
          rw [if_pos rfl, if_pos rfl]
          refine lst_stage hR hB hk cf zf hl h1 h2 S _ gd ?_
          rw [el, settle_szp hR hk _ ek, szp_app]
          rw [szp_cons, ← hR.plL hk hpl, if_pos hp, sz_kids (hR.wf _ (at_mem hk))] at hs
          omega
        · rw [if_neg e, if_neg e]
          refine hl τ (by omega) hτ _ _ gd ?_
          rw [el, settle_szp hR hτ _ ek]
          have a := (szp_npl hR hτ (hB _ (at_mem hτ)) ek).1
          have b := (szp_npl hR hk (hB _ (at_mem hk)) (W := r) fun c hc => hW c (List.mem_cons_of_mem _ hc)).2
          rw [szp_cons, ← hR.plL hk hpl, if_pos hp] at hs
          have c1 : npl (plL ts) (kids (at_ ts τ) p ++ r) ≤ S + 4 := by
            have : npl (plL ts) (kids (at_ ts τ) p ++ r) = npl (plL ts) (kids (at_ ts τ) p) + npl (plL ts) r := List.countP_append
            rw [this]
            have h3 : npl (plL ts) (kids (at_ ts τ) p) ≤ (kids (at_ ts τ) p).length := List.countP_le_length
            have h4 := kids_len (hR.wf _ (at_mem hτ)) p
            unfold sz at hs
            omega
          exact Nat.le_trans a (Nat.mul_le_mul_left B c1)
      · rw [em, sumR_front, if_pos rfl]
        rw [sumR_congr (g := fun τ => cf τ (B * (S + 4))) fun i _ => if_neg (by omega)]
        have := h1 (B * (S + 4))
        show _ ≤ 0 + rowC hc 0 B S + hc (B * (S + 4))
        omega
      · rw [em, sumR_front, if_pos rfl]
        rw [sumR_congr (g := fun τ => zf τ (B * (S + 4))) fun i _ => if_neg (by omega)]
        have := h2 (B * (S + 4))
        show _ ≤ 1 + rowC hz 1 B S + hz (B * (S + 4))
        omega
def c0 (B : Nat) : Nat → Nat := rowC (fun _ => 0) 0 B
def z0 (B : Nat) : Nat → Nat := rowC (fun _ => 0) 1 B
def c1 (B : Nat) : Nat → Nat := rowC (c0 B) 0 B
def z1 (B : Nat) : Nat → Nat := rowC (z0 B) 1 B
def c2 (B : Nat) : Nat → Nat := rowC (fun x => c1 B x + c0 B x) 0 B
def z2 (B : Nat) : Nat → Nat := rowC (fun x => z1 B x + z0 B x) 1 B
theorem lst_0 {ts : List Tr} {ds : List Dd} (hR : Row ts ds) {B : Nat} (hB : ∀ t ∈ ts, t.length ≤ B) {k : Nat} (hk : k + 1 = ts.length) : ∀ W S, Good ts k W → szp (at_ ts k) W ≤ S → Lst ts W k (c0 B S) (z0 B S) := fun W S g h =>
  lst_stage hR hB (by omega) (fun _ _ => 0) (fun _ _ => 0) (fun τ a b => by omega) (fun X => by rw [show ts.length - 1 - k = 0 from by omega]; exact Nat.le_refl _) (fun X => by rw [show ts.length - 1 - k = 0 from by omega]; exact Nat.le_refl _) S W g h
theorem lst_1 {ts : List Tr} {ds : List Dd} (hR : Row ts ds) {B : Nat} (hB : ∀ t ∈ ts, t.length ≤ B) {k : Nat} (hk : k + 2 = ts.length) : ∀ W S, Good ts k W → szp (at_ ts k) W ≤ S → Lst ts W k (c1 B S) (z1 B S) := fun W S g h =>
  lst_stage hR hB (by omega) (fun _ => c0 B) (fun _ => z0 B) (fun τ a b W S g h => lst_0 hR hB (by omega) W S g h) (fun X => by rw [show ts.length - 1 - k = 0 + 1 from by omega, sumR_front]; exact Nat.le_refl _) (fun X => by rw [show ts.length - 1 - k = 0 + 1 from by omega, sumR_front]; exact Nat.le_refl _) S W g h
theorem lst_2 {ts : List Tr} {ds : List Dd} (hR : Row ts ds) {B : Nat} (hB : ∀ t ∈ ts, t.length ≤ B) {k : Nat} (hk : k + 3 = ts.length) : ∀ W S, Good ts k W → szp (at_ ts k) W ≤ S → Lst ts W k (c2 B S) (z2 B S) := fun W S g h =>
  lst_stage hR hB (by omega) (fun τ => if τ = k + 1 then c1 B else c0 B) (fun τ => if τ = k + 1 then z1 B else z0 B) (fun τ a b W S g h => by
    by_cases e : τ = k + 1
    · rw [if_pos e, if_pos e]; exact lst_1 hR hB (by omega) W S g h
    · rw [if_neg e, if_neg e]; exact lst_0 hR hB (by omega) W S g h)
    (fun X => by rw [show ts.length - 1 - k = 0 + 1 + 1 from by omega, sumR_front, sumR_front, if_pos rfl, if_neg (by omega)]; exact Nat.le_refl _) (fun X => by rw [show ts.length - 1 - k = 0 + 1 + 1 from by omega, sumR_front, sumR_front, if_pos rfl, if_neg (by omega)]; exact Nat.le_refl _) S W g h
theorem good_one {ts : List Tr} {ds : List Dd} (hR : Row ts ds) {p : Nat} (hp : isP (at_ ts 0) p = true) (h0 : p < (at_ ts 0).length) (hl : 0 < ts.length) : Good ts 0 [p] := ⟨.inr ⟨p, [], rfl, by rw [hR.plL hl h0]; exact hp⟩, fun c hc => by rw [List.mem_singleton.mp hc]; exact h0⟩
theorem szp_one {t : Tr} (w : WF t) {p : Nat} (h0 : p < t.length) : szp t [p] ≤ t.length := by
  rw [szp_cons, szp_nil]
  have := sz_le w h0
  split <;> omega
theorem rowC_le {h : Nat → Nat} {a b : Nat} : ∀ {S S' : Nat}, S ≤ S' → rowC h a b S ≤ rowC h a b S'
  | S, 0, hs => by have : S = 0 := by omega
                   subst this; exact Nat.le_refl _
  | S, S' + 1, hs => by
    by_cases e : S = S' + 1
    · subst e; exact Nat.le_refl _
    · have := rowC_le (h := h) (a := a) (b := b) (S := S) (S' := S') (by omega)
      show _ ≤ a + rowC h a b S' + _
      omega
theorem c0_one (B : Nat) : ∀ S, c0 B S = 1
  | 0 => rfl
  | S + 1 => by
    show 0 + rowC (fun _ => 0) 0 B S + 0 = 1
    have : rowC (fun _ => 0) 0 B S = 1 := c0_one B S
    omega
theorem z0_eq (B : Nat) : ∀ S, z0 B S = 1 + S
  | 0 => rfl
  | S + 1 => by
    show 1 + rowC (fun _ => 0) 1 B S + 0 = 1 + (S + 1)
    have : rowC (fun _ => 0) 1 B S = 1 + S := z0_eq B S
    omega
theorem lst_row {ts : List Tr} {ds : List Dd} (hR : Row ts ds) (hd : ds.length < 3) (h9 : (at_ ts 0).length ≤ 9) (h11 : ∀ t ∈ ts, t.length ≤ 11) {p : Nat} (hp : isP (at_ ts 0) p = true) (h0 : p < (at_ ts 0).length) : Lst ts [p] 0 5000 1000000 := by
  have hlen := hR.len
  have hl : 0 < ts.length := by omega
  have g := good_one hR hp h0 hl
  have hs := Nat.le_trans (szp_one (hR.wf _ (at_mem hl)) h0) h9
  have h : ds.length = 0 ∨ ds.length = 1 ∨ ds.length = 2 := by omega
  rcases h with h | h | h
  · exact (lst_0 hR h11 (k := 0) (by omega) [p] 9 g hs).up (by decide +kernel) (by decide +kernel)
  · exact (lst_1 hR h11 (k := 0) (by omega) [p] 9 g hs).up (by decide +kernel) (by decide +kernel)
  · exact (lst_2 hR h11 (k := 0) (by omega) [p] 9 g hs).up (by decide +kernel) (by decide +kernel)
theorem lst_still {t : Tr} (w : WF t) (hl : t.length ≤ 1000) {p : Nat} (hp : isP t p = true) (h0 : p < t.length) : Lst [t] [p] 0 1 1000000 := by
  have hR : Row [t] [] := .one t w
  have g := good_one hR (p := p) hp h0 Nat.one_pos
  have := lst_0 hR (B := t.length) (fun x hx => by rw [List.mem_singleton.mp hx]; exact Nat.le_refl _) (k := 0) rfl [p] t.length g (szp_one w h0)
  rw [c0_one, z0_eq] at this
  exact this.up (Nat.le_refl _) (by omega)
/-! the listings of visits -/
theorem VL.rc {ts : List Tr} {p τ : Nat} {τs V : List Nat} (h : VL ts (kids (at_ ts τ) p) τs V) (hs : (τ :: τs).Pairwise (· ≤ ·)) (ht : ∀ x ∈ τ :: τs, x < ts.length) : Rc ts [] [p] 0 V := ⟨τ :: τs, hs, fun x hx => ⟨Nat.zero_le _, ht x hx⟩, run_top h⟩
theorem rc_below {t : Tr} (w : WF t) (p : Nat) : Rc [t] [] [p] 0 (below t p) := ⟨List.replicate (1 + cntF t (below t p)) 0, List.pairwise_replicate.mpr (.inr (Nat.le_refl _)), fun x hx => by rw [List.eq_of_mem_replicate hx]; exact ⟨Nat.le_refl _, Nat.one_pos⟩, run_const (.one t w) (τ := 0) Nat.one_pos p⟩
/-- counted at most once in all: one listing, once -/
theorem cnt_single {D : Cnt} {V : List Nat} (h1 : ∀ e ∈ D, 1 ≤ e.2) (h2 : (D.map (·.2)).sum ≤ 1) (h3 : V ∈ D.map (·.1)) : D = [(V, 1)] := by
  cases D with
  | nil => cases h3
  | cons e r =>
    have a := h1 e List.mem_cons_self
    rw [List.map_cons, List.sum_cons] at h2
    cases r with
    | nil =>
      have h3 : V = e.1 := by simpa using h3
      subst h3
      have : e.2 = 1 := by have : (List.map (fun x : List Nat × Nat => x.2) []).sum = 0 := rfl
                           omega
      obtain ⟨x, y⟩ := e
      cases this
      rfl
    | cons f r =>
      have b := h1 f (List.mem_cons_of_mem _ List.mem_cons_self)
      rw [List.map_cons, List.sum_cons] at h2
      omega
/-! ways -/
theorem Dep.way {t : Tr} {n d : Nat} (h : Dep t n d) : ∃ l, Way t n l ∧ l.length = d := by
  induction h with
  | root => exact ⟨[], .root, rfl⟩
  | @step f k x d _ hm hF ih =>
    obtain ⟨l, hl, e⟩ := ih
    exact ⟨l ++ [k], .step hl hm hF, by rw [List.length_append, e]; rfl⟩
theorem WF.way {t : Tr} (w : WF t) {n : Nat} (h : isF t n = true) : ∃ l, Way t n l ∧ l.length < t.length := by
  obtain ⟨d, hd⟩ := w.dep n h
  obtain ⟨l, hl, e⟩ := hd.way
  exact ⟨l, hl, by rw [e]; exact hd.lt w⟩
theorem Way.go {t : Tr} (w : WF t) {n : Nat} {l : List Nat} (h : Way t n l) : ∀ {r : List Nat} {m : Nat}, GoT t n r m → GoT t 0 (l ++ r) m := by
  induction h with
  | root => intro r m g; exact g
  | @step f k x l hw hm hF ih =>
    intro r m g
    rw [List.append_assoc]
    exact ih (.fol (isF_of_ent hm) (w.ent f k x hm).1 (lookE_mem (w.srt f) hm) hF g)
theorem Way.goT {t : Tr} (w : WF t) {n : Nat} {l : List Nat} (h : Way t n l) : GoT t 0 l n := by
  have := h.go w (r := []) (.nil (h.isF w))
  rwa [List.append_nil] at this
theorem Way.goE {t : Tr} (w : WF t) {n k c : Nat} {l : List Nat} (h : Way t n l) (hm : (k, c) ∈ ents t n) : GoT t 0 (l ++ [k]) c := by
  have hF := h.isF w
  obtain ⟨h4, h0, hl, hg⟩ := w.ent n k c hm
  have hlk := lookE_mem (w.srt n) hm
  cases hFc : NW.isF t c with
  | true => exact h.go w (.fol hF h4 hlk hFc (.nil hFc))
  | false =>
    obtain ⟨nd, hnd⟩ : ∃ nd, t[c]? = some nd := ⟨_, List.getElem?_eq_getElem hl⟩
    unfold NW.isF at hFc
    unfold isG at hg
    rw [hnd] at hFc hg
    cases nd with
    | fol o es => cases hFc
    | gon o a => cases hg
    | fil o => exact h.go w (.fil hF h4 hlk hnd)
end NW
set_option Elab.async false
set_option linter.all false
set_option maxRecDepth 100000
set_option maxHeartbeats 1000000
/-! W41: the law's drawn tree. -/
namespace NW
open PySem PySem.Spec PyProof.Rows L2
section
variable {P : Program} {w : World} {K : Frag} {mg : Str → Option Value} {base : Heap}
theorem RngAt.ne {H : Hp} {r p : Addr} (h : RngAt H r) (n : H p = none) : p ≠ r := by
  obtain ⟨x, y, z, e⟩ := h
  exact (ne_of_none e n).symm
theorem NmsAt.neR {H : Hp} {r b : Addr} (h : NmsAt H b) (hr : RngAt H r) : b ≠ r := by
  obtain ⟨x, y, z, e⟩ := hr
  rintro rfl
  have h : H b = _ := h
  rw [e] at h
  cases h
theorem nms_mem {x : V} (h : x ∈ [V.str (nm 2), V.str (nm 3), V.str (nm 0), V.str (nm 1)]) : ∃ k, k < 4 ∧ x = .str (nm k) := by
  rcases List.mem_cons.mp h with rfl | h
  · exact ⟨2, by decide, rfl⟩
  rcases List.mem_cons.mp h with rfl | h
  · exact ⟨3, by decide, rfl⟩
  rcases List.mem_cons.mp h with rfl | h
  · exact ⟨0, by decide, rfl⟩
  rcases List.mem_cons.mp h with rfl | h
  · exact ⟨1, by decide, rfl⟩
  · cases h
theorem fns_ne {t : Tr} (wf : WF t) : fns t ≠ [] := fun z => by
  have h0 : 0 ∈ fns t := mem_fns.mpr wf.root
  rw [z] at h0
  cases h0
theorem fns_len (t : Tr) : (fns t).length ≤ t.length := by
  have h1 := List.length_filter_le (fun f => isF t f) (List.range t.length)
  rw [List.length_range] at h1
  exact h1
/-- the reading of the comprehension of a law tree's folders -/
theorem lc_fns {a : Addr} {t : Tr} {H : Hp} {σ : L2.St} {g : TG} {tt : TT} {te : TE} {vs : List Nat} {Qd : Hp → Prop} {rs : List Addr} {D : Addr} (nD : H D = none) (g1 : H a = some (.lst (rs.map V.ref))) (w3 : Paired (LRow H) rs t) (hlen : t.length ≤ 1000)
    (hg : ∀ (H' : Hp) (T : Addr) (n : Nat) (r : Addr) (nd : Nd) (R : L2.St → Hp → Prop), H' T = some (.tup [.int (n : Nat), .ref r]) → LRow H' r nd → (∀ σ2, wipe σ2 vs = wipe σ vs → (∀ Q2 : Bool → Hp → Prop, Q2 nd.isF H' → tt σ2 H' Q2) → (∀ Q3 : V → Hp → Prop, Q3 (.int (n : Nat)) H' → te σ2 H' Q3) → R σ2 H') → g (.ref T) (wipe σ vs) H' R)
    (q : ∀ H', Same H H' → H' D = some (.lst (natV (fns t))) → Qd H') : ∃ W : Nat → Nat → Hp → Prop, (∃ m, W 0 m (upd H D (.lst []))) ∧ ∀ i m H, W i m H → ((Ite K a).stop i H ∧ Qd H) ∨ ((Ite K a).go i H ∧ ∃ Nx : Hp → Prop, (∀ H', Nx H' → ∃ m', m' < m ∧ W (i + 1) m' H') ∧ ∀ x H', (Ite K a).yld i H x H' → g x (wipe σ vs) H' fun σ2 H2 => wipe σ2 vs = wipe σ vs ∧ tt σ2 H2 fun b H3 => if b = true then te σ2 H3 fun y H4 => ∃ acc, H4 D = some (.lst acc) ∧ acc.length < sizeLine ∧ Nx (upd H4 D (.lst (acc ++ [y]))) else Nx H3) := by
  have lrs := Plen w3
  refine lc_it walk_enum (fun i Hi => Same H Hi ∧ Hi D = some (.lst (natV ((List.range i).filter fun f => isF t f)))) ⟨same_new nD, upd_same⟩ (fun i Hi _ h => SqL.of (h.1 _ _ g1)) (fun i v Hi Hj hi hI hy => ?_) (fun Hi hI => ?_)
  · obtain ⟨sm, hD⟩ := hI
    obtain ⟨T1, xx, yy, rfl, nT, rfl, ex, ey⟩ := hy
    cases ex
    dsimp only at ey
    rw [List.getElem?_map] at ey
    rw [List.length_map] at hi
    have hri := List.getElem?_eq_getElem hi
    generalize rs[i] = ri at hri
    rw [hri] at ey
    cases ey
    obtain ⟨ndi, hni, hrow⟩ := Pget' w3 hri
    have s1 := snew (o := .tup [.int (i : Nat), .ref ri]) sm nT
    have hT1 : upd Hi T1 (.tup [.int (i : Nat), .ref ri]) T1 = some (.tup [.int (i : Nat), .ref ri]) := upd_same
    have hD1 := upd_at (o := .tup [.int (i : Nat), .ref ri]) hD (ne_of_none hD nT)
    generalize upd Hi T1 (.tup [.int (i : Nat), .ref ri]) = H1 at s1 hT1 hD1
    refine hg H1 T1 i ri ndi _ hT1 (hrow.gx (sgx s1)) fun σ2 hw htt hte => ⟨hw, htt _ ?_⟩
    have hFi : isF t i = ndi.isF := isF_at hni
    have lf : ((List.range i).filter fun f => isF t f).length ≤ 1000 := by
      have h1 := List.length_filter_le (fun f => isF t f) (List.range i)
      rw [List.length_range] at h1
      omega
    have esucc : (List.range (i + 1)).filter (fun f => isF t f) = (List.range i).filter (fun f => isF t f) ++ (if isF t i = true then [i] else []) := by
      rw [List.range_succ, List.filter_append]
      congr 1
      by_cases c : isF t i = true <;> simp [c]
    cases hF2 : ndi.isF with
    | false =>
      refine iteF ⟨s1, ?_⟩
      rw [esucc, if_neg (fun z => by rw [hFi, hF2] at z; cases z), List.append_nil]
      exact hD1
    | true =>
      refine iteT (hte _ ⟨_, hD1, ?_, sput s1 nD, ?_⟩)
      · unfold natV
        rw [List.length_map]
        exact Nat.lt_of_le_of_lt lf (by decide)
      · rw [upd_same, esucc, if_pos (hFi.trans hF2)]
        unfold natV
        rw [List.map_append]
        rfl
  · obtain ⟨sm, hDl⟩ := hI
    rw [List.length_map, lrs] at hDl
    exact q Hi sm hDl
def spLDrawnTree : Sp := fun vs H Q _ => ∃ (r b : Addr) (m : Nat), vs = [.ref r, .int m, .ref b] ∧ RngAt H r ∧ NmsAt H b ∧ m ≤ 100 ∧ ∀ a t H', Sb r H H' → RngAt H' r → LTree H' a t → WF t → t.length ≤ m + 1 → Q (.ref a) H'
theorem sc_Ldrawn_tree : FnScope ["_law_rng_here", "_law_many", "_law_names", "_law_nodes", "_law_turn", "_law_folder", "_law_kind", "_law_name", "_law_at", "_law_row_here"] ["_law_rng_here", "_law_many", "_law_names"] (defScope s_Ldrawn_tree) := ⟨rfl, rfl, rfl, by decide +kernel, rfl, by decide +kernel, by decide +kernel⟩
theorem ok_Ldrawn_tree (T : Txt K mg) : Cal P w K mg base 5 "_law_drawn_tree" spLDrawnTree [] := by
  refine cal T.f_Ldrawn_tree T.g_Ldrawn_tree sc_Ldrawn_tree (fun _ _ _ _ _ _ us hl => match us, hl with | [_, _, _], _ => rfl) (fun vs H Q E h => ?_) (fun cdv A outer s H vs Q E hr h => ?_)
  · obtain ⟨r, b, m, rfl, _⟩ := h
    rfl
  · obtain ⟨r, b, m, rfl, hR, hb, hm, q⟩ := h
    have nd := sc_Ldrawn_tree.nd
    have hu := hu_of hr
    refine ⟨_, pss_cons (ps_set (i := 3) nd rfl (Or.inl rfl) (pe_lst (pa_cons (pe_lst (pa_cons pe_str (pa_cons (C8.pe_c (ok_Ldraw T) hr (by decide) rfl (pa_cons (pv 0) (pa_cons pe_int pa_nil))) (pa_cons pe_dnewK pa_nil)))) pa_nil)))
      (pss_cons (ps_for PassesOwn.never rfl (pi_range1 (by rfl) T.n_range (pa_cons (pv 1) pa_nil)) (pg_name (i := 4) nd rfl (Or.inl rfl))
        (pss_cons (ps_set (i := 5) nd rfl (Or.inl rfl) (C8.pe_c (ok_Lpick T) hr (by decide) rfl (pa_cons (pv 0) (pa_cons
          (pe_lc (own := [("_law_at", 8), ("_law_row_here", 9)]) (g := gTup K 2 (gCons (gName 8) (gCons (gName 9) gNil))) (tt := tTest (tOp rEq (tOp (rIxL K) (tVar 9) (tC (.int 0))) (tC (.str "folder")))) rfl nd (pi_enum (by rfl) T.n_enumerate (pa_cons (pv 3) pa_nil)) (blkOk_by (N := ["_law_rng_here", "_law_many", "_law_names", "_law_nodes", "_law_turn", "_law_folder", "_law_kind", "_law_name", "_law_at", "_law_row_here"]) (sc := defScope s_Ldrawn_tree) (by decide +kernel))
            (fun _ _ _ _ _ => pg_tup rfl (pgs_cons (pg_name (i := 8) nd rfl (Or.inl rfl)) (pgs_cons (pg_name (i := 9) nd rfl (Or.inl rfl)) pgs_nil))) (fun _ _ _ _ _ => pts_one (pt_cmpR op_eq (pe_ix (ixL (K := K)) (pv 9) pe_int (fun _ _ => rfl)) pe_str (nomark _))) (fun _ _ _ _ _ => pv 8)) pa_nil))))
        (pss_cons (ps_par (i := 6) (j := 7) rfl nd rfl rfl (by decide) rfl rfl (pa_cons (C8.pe_c (ok_Lpick T) hr (by decide) rfl (pa_cons (pv 0) (pa_cons (pe_lst (pa_cons pe_str (pa_cons pe_str (pa_cons pe_str (pa_cons pe_str pa_nil))))) pa_nil))) (pa_cons (C8.pe_c (ok_Lpick T) hr (by decide) rfl (pa_cons (pv 0) (pa_cons (pv 2) pa_nil))) pa_nil)) (by rfl))
        (pss_one (ps_set (i := 3) nd rfl (Or.inl rfl) (pe_orT (C8.pe_c (ok_Ldone T) hr (by decide) rfl (pa_cons (pv 3) (pa_cons (pe_tup (pa_cons (pv 6) (pa_cons (pv 5) (pa_cons (pv 7) (pa_cons (C8.pe_c (ok_Ldraw T) hr (by decide) rfl (pa_cons (pv 0) (pa_cons pe_int pa_nil))) pa_nil))))) pa_nil))) (pe_one (pv 3))))))))
      (pss_one (ps_ret (pv 3)))), ?_⟩
    refine ⟨_, rfl, r, 3, rfl, hR, by decide, by decide, fun o0 H1 ho0 b1 R1 => fun D nD => ⟨(by show 3 ≤ sizeLine; decide), fun L nL => ⟨(by show 1 ≤ sizeLine; decide), fun A nA => ?_⟩⟩⟩
    have s1 := snew (o := .lst [.ref L]) (snew (o := .lst [.str "folder", .int (o0 : Nat), .ref D]) (same_new (o := .dK []) nD) nL) nA
    have hT0 : LTree (upd (upd (upd H1 D (.dK [])) L (.lst [.str "folder", .int (o0 : Nat), .ref D])) A (.lst [.ref L])) A [.fol (o0 : Nat) []] := by
      refine ⟨[L], upd_same, by simp, .cons ⟨D, [], ?_, ?_, .nil⟩ .nil⟩
      · exact upd_at upd_same (ne_of_none (upd_same (o := .lst [.str "folder", .int (o0 : Nat), .ref D])) nA)
      · have e1 := upd_at (o := .lst [.str "folder", .int (o0 : Nat), .ref D]) (upd_same (H := H1) (a := D) (o := .dK [])) (ne_of_none (upd_same (H := H1) (a := D) (o := .dK [])) nL)
        exact upd_at e1 (ne_of_none e1 nA)
    generalize upd (upd (upd H1 D (.dK [])) L (.lst [.str "folder", .int (o0 : Nat), .ref D])) A (.lst [.ref L]) = H2 at s1 hT0
    have nbr := hb.neR hR
    have b02 : Sb r H H2 := fun b o n e => s1 _ _ (b1 _ _ n e)
    refine ⟨_, rfl, (m : Int), rfl, by omega, by omega, for_it walk_range (fun i σ Hi => ∃ (a : Addr) (t : Tr) (x4 x5 x6 x7 : Option V), σ = [some (.ref r), some (.int m), some (.ref b), some (.ref a), x4, x5, x6, x7, none, none] ∧ Sb r H Hi ∧ RngAt Hi r ∧ LTree Hi a t ∧ WF t ∧ t.length ≤ i + 1) ⟨A, _, _, _, _, _, rfl, b02, R1.same s1, hT0, wf_one (Int.natCast_nonneg _), Nat.le_refl _⟩ (fun _ _ _ _ _ => True.intro) (fun i v σ Hx Hi hi hI hy => ?_) (fun σ Hi hI => ?_)⟩
    · obtain ⟨a, t, x4, x5, x6, x7, rfl, sb, R, hT, wf, hl⟩ := hI
      obtain ⟨rfl, rfl⟩ := hy
      have hi' : i < m := hi
      have hl1000 : t.length ≤ 1000 := by omega
      obtain ⟨rs, g1, w2, w3⟩ := id hT
      refine ⟨_, rfl, _, rfl, a, _, rfl, SqL.of g1, fun D3 nD3 => lc_fns nD3 g1 w3 hl1000 (fun H' T1 n rr ndd RR hT1 hrow k => ?_) (fun H3 s3 hD3 => ?_)⟩
      · obtain ⟨oi, xi, hki⟩ := hrow.kind
        refine ⟨T1, _, rfl, SqT.of hT1, rfl, _, _, rfl, _, _, rfl, rfl, k _ rfl (fun Q2 q2 => ⟨_, rfl, rr, _, _, _, rfl, rfl, SqL.of hki, atI_nat (j := 0) rfl, rfl, ?_⟩) (fun Q3 q3 => ⟨_, rfl, q3⟩)⟩
        rw [kind_fol]
        exact ⟨_, rfl, q2⟩
      · have hDr : D3 ≠ r := R.ne nD3
        have hnV : natV (fns t) ≠ [] := fun z => fns_ne wf (List.map_eq_nil_iff.mp z)
        have hlV : (natV (fns t)).length < 1000000 := by
          rw [show (natV (fns t)).length = (fns t).length from List.length_map _]
          have := fns_len t
          omega
        refine ⟨r, D3, _, rfl, R.same s3, hD3, hDr, hnV, hlV, fun x1 H4 hx1 b4 R4 => ?_⟩
        obtain ⟨f1, hf1, rfl⟩ := List.mem_map.mp hx1
        have F1 := mem_fns.mp hf1
        have hT4 := LTree.sbR (R.same s3) b4 (hT.same s3)
        have sb4 : Sb r H H4 := fun b o n e => b4 _ _ n (s3 _ _ (sb _ _ n e))
        refine ⟨_, rfl, (by show 4 ≤ sizeLine; decide), fun L2 nL2 => ?_⟩
        have s5 := same_new (o := .lst [.str "folder", .str "folder", .str "folder", .str "file"]) nL2
        have hL2 : upd H4 L2 (.lst [.str "folder", .str "folder", .str "folder", .str "file"]) L2 = some (.lst [.str "folder", .str "folder", .str "folder", .str "file"]) := upd_same
        have hLr : L2 ≠ r := R4.ne nL2
        generalize upd H4 L2 (.lst [.str "folder", .str "folder", .str "folder", .str "file"]) = H5 at s5 hL2
        refine ⟨r, L2, _, rfl, R4.same s5, hL2, hLr, (fun z => by cases z), (by show 4 < 1000000; decide), fun x2 H6 hx2 b6 R6 => ?_⟩
        have hT6 := LTree.sbR (R4.same s5) b6 (hT4.same s5)
        have sb6 : Sb r H H6 := fun b o n e => b6 _ _ n (s5 _ _ (sb4 _ _ n e))
        refine ⟨_, rfl, _, rfl, r, b, _, rfl, R6, sb6 _ _ nbr hb, nbr, (fun z => by cases z), (by show 4 < 1000000; decide), fun x3 H7 hx3 b7 R7 => ⟨_, _, rfl, ?_⟩⟩
        have hT7 := LTree.sbR R6 b7 hT6
        have sb7 : Sb r H H7 := fun b o n e => b7 _ _ n (sb6 _ _ n e)
        obtain ⟨kn, hkn, rfl⟩ := nms_mem hx3
        refine ⟨_, rfl, _, rfl, _, rfl, _, rfl, _, rfl, r, 3, rfl, R7, by decide, by decide, fun oo H8 hoo b8 R8 => ⟨(by show 4 ≤ sizeLine; decide), fun TT nT => ?_⟩⟩
        have hT8 := LTree.sbR R7 b8 hT7
        have sb8 : Sb r H H8 := fun b o n e => b8 _ _ n (sb7 _ _ n e)
        have F1l := isF_lt F1
        obtain ⟨d, hd, hok⟩ : ∃ d, LDeed (upd H8 TT (.tup [x2, .int (f1 : Nat), .str (nm kn), .int (oo : Nat)])) TT d ∧ DdOk t d := by
          have k1 : x2 = .str "folder" → ∃ d, LDeed (upd H8 TT (.tup [x2, .int (f1 : Nat), .str (nm kn), .int (oo : Nat)])) TT d ∧ DdOk t d := fun e => ⟨.mkF f1 kn (oo : Nat), by rw [e]; exact upd_same, F1l, hkn, Int.natCast_nonneg _⟩
          rcases List.mem_cons.mp hx2 with e | h
          · exact k1 e
          rcases List.mem_cons.mp h with e | h
          · exact k1 e
          rcases List.mem_cons.mp h with e | h
          · exact k1 e
          rcases List.mem_cons.mp h with e | h
          · exact ⟨.mkL f1 kn (oo : Nat), by rw [e]; exact upd_same, F1l, hkn, Int.natCast_nonneg _⟩
          · cases h
        have s9 := same_new (o := .tup [x2, .int (f1 : Nat), .str (nm kn), .int (oo : Nat)]) nT
        generalize upd H8 TT (.tup [x2, .int (f1 : Nat), .str (nm kn), .int (oo : Nat)]) = H9 at hd s9
        have hT9 := hT8.same s9
        have R9 := R8.same s9
        have sb9 : Sb r H H9 := fun b o n e => s9 _ _ (sb8 _ _ n e)
        refine ⟨a, TT, t, d, rfl, hT9, hd, hok, wf, by omega, fun Ha sa => ⟨false, rfl, ?_⟩, fun a' t' Ha sa hst hTa => ⟨true, ?_, ?_⟩⟩
        · rw [if_neg (by simp)]
          exact ⟨_, rfl, a, t, _, _, _, _, rfl, fun b o n e => sa _ _ (sb9 _ _ n e), R9.same sa, hT9.same sa, wf, by omega⟩
        · obtain ⟨rs', z1, z2, z3⟩ := hTa
          refine .inl ⟨_, SqL.of z1, ?_⟩
          cases rs' with
          | nil => exact absurd rfl z2
          | cons _ _ => rfl
        · rw [if_pos rfl]
          have hl2 := hst.len.2
          exact ⟨a', t', _, _, _, _, rfl, fun b o n e => sa _ _ (sb9 _ _ n e), R9.same sa, hTa, hst.wf wf, by omega⟩
    · obtain ⟨a, t, x4, x5, x6, x7, rfl, sb, R, hT, wf, hl⟩ := hI
      exact ⟨_, rfl, q a t Hi sb R hT wf (by omega)⟩
end
end NW
set_option Elab.async false
set_option linter.all false
set_option maxRecDepth 100000
set_option maxHeartbeats 1000000
/-! W42: the law's row. -/
namespace NW
open PySem PySem.Spec PyProof.Rows L2
section
variable {P : Program} {w : World} {K : Frag} {mg : Str → Option Value} {base : Heap}
/-- at X stands nothing of a law's tree -/
def NoT (H : Hp) (X : Addr) : Prop := (∀ kvs, H X ≠ some (.dK kvs)) ∧ (∀ s xs, H X ≠ some (.lst (.str s :: xs))) ∧ ∀ q qs, H X = some (.lst (.ref q :: qs)) → ∀ s xs, H q ≠ some (.lst (.str s :: xs))
theorem LRow.sbX {H H' : Hp} {X p : Addr} {nd : Nd} (hX : NoT H X) (s : Sb X H H') (h : LRow H p nd) : LRow H' p nd := by
  have hp : p ≠ X := by
    obtain ⟨o, u, hk⟩ := h.kind
    rintro rfl
    exact hX.2.1 _ _ hk
  cases nd with
  | fol o es =>
    obtain ⟨d, kvs, k1, k2, k3⟩ := h
    refine ⟨d, kvs, s _ _ hp k1, s _ _ ?_ k2, k3⟩
    rintro rfl
    exact hX.1 _ k2
  | fil o => exact s _ _ hp h
  | gon o a => exact s _ _ hp h
theorem LTree.neX {H : Hp} {X a : Addr} {t : Tr} (hX : NoT H X) (h : LTree H a t) : a ≠ X := by
  obtain ⟨rs, h1, h2, h3⟩ := h
  rintro rfl
  cases h3 with
  | nil => exact h2 rfl
  | cons r _ =>
    obtain ⟨o, u, hk⟩ := LRow.kind r
    exact hX.2.2 _ _ h1 _ _ hk
theorem LTree.sbX {H H' : Hp} {X a : Addr} {t : Tr} (hX : NoT H X) (s : Sb X H H') (h : LTree H a t) : LTree H' a t := by
  have hn := LTree.neX hX h
  obtain ⟨rs, h1, h2, h3⟩ := h
  exact ⟨rs, s _ _ hn h1, h2, Pmap h3 fun _ _ => LRow.sbX hX s⟩
/-- a law's trees of a row -/
def LShp (H : Hp) (S : Addr) (ts : List Tr) : Prop := ∃ qs : List Addr, H S = some (.lst (qs.map V.ref)) ∧ Paired (LTree H) qs ts
/-- a law's deeds of a row -/
def LDds (H : Hp) (D : Addr) (ds : List Dd) : Prop := ∃ ps : List Addr, H D = some (.lst (ps.map V.ref)) ∧ Paired (LDeed H) ps ds
theorem LTree.noStr {H : Hp} {q : Addr} {t : Tr} (h : LTree H q t) : ∀ s xs, H q ≠ some (.lst (.str s :: xs)) := fun s xs e => by
  obtain ⟨rs, h1, h2, _⟩ := h
  rw [e] at h1
  cases rs with
  | nil => exact h2 rfl
  | cons _ _ => cases h1
theorem LShp.noT {H : Hp} {S : Addr} {ts : List Tr} (h : LShp H S ts) : NoT H S := by
  obtain ⟨qs, h1, h2⟩ := h
  refine ⟨fun kvs e => (by rw [h1] at e; cases e), fun s xs e => ?_, fun q qs' e => ?_⟩
  · rw [h1] at e
    cases qs with
    | nil => cases e
    | cons _ _ => cases e
  · rw [h1] at e
    cases h2 with
    | nil => cases e
    | cons r _ => cases e; exact r.noStr
theorem LDds.noT {H : Hp} {S : Addr} {ds : List Dd} (h : LDds H S ds) : NoT H S := by
  obtain ⟨qs, h1, h2⟩ := h
  refine ⟨fun kvs e => (by rw [h1] at e; cases e), fun s xs e => ?_, fun q qs' e => ?_⟩
  · rw [h1] at e
    cases qs with
    | nil => cases e
    | cons _ _ => cases e
  · rw [h1] at e
    cases h2 with
    | nil => cases e
    | cons r _ =>
      cases e
      intro s xs e2
      have := LDeed.all r
      rw [e2] at this
      cases this
theorem RngAt.noT {H : Hp} {r : Addr} (h : RngAt H r) : NoT H r := by
  obtain ⟨x, y, z, e⟩ := h
  exact ⟨fun _ e2 => (by rw [e] at e2; cases e2), fun _ _ e2 => (by rw [e] at e2; cases e2), fun _ _ e2 => (by rw [e] at e2; cases e2)⟩
theorem LShp.sbX {H H' : Hp} {X S : Addr} {ts : List Tr} (hX : NoT H X) (n : S ≠ X) (s : Sb X H H') (h : LShp H S ts) : LShp H' S ts := let ⟨qs, h1, h2⟩ := h; ⟨qs, s _ _ n h1, Pmap h2 fun _ _ => LTree.sbX hX s⟩
theorem LShp.same {H H' : Hp} {S : Addr} {ts : List Tr} (s : Same H H') (h : LShp H S ts) : LShp H' S ts := let ⟨qs, h1, h2⟩ := h; ⟨qs, s _ _ h1, Pmap h2 fun _ _ => LTree.same s⟩
theorem LDds.same {H H' : Hp} {S : Addr} {ds : List Dd} (s : Same H H') (h : LDds H S ds) : LDds H' S ds := let ⟨qs, h1, h2⟩ := h; ⟨qs, s _ _ h1, Pmap h2 fun _ _ => LDeed.same s⟩
theorem LDds.sbX {H H' : Hp} {X S : Addr} {ds : List Dd} {xs : List V} (hX : H X = some (.lst xs)) (n : S ≠ X) (s : Sb X H H') (h : LDds H S ds) : LDds H' S ds := let ⟨qs, h1, h2⟩ := h; ⟨qs, s _ _ n h1, Pmap h2 fun _ _ => LDeed.fx (Sb.fx s hX)⟩
theorem LShp.last {H : Hp} {S : Addr} {ts : List Tr} (h : LShp H S ts) (hn : ts ≠ []) : ∃ (qs : List Addr) (q : Addr), H S = some (.lst (qs.map V.ref)) ∧ atI (qs.map V.ref) (-1) = some (.ref q) ∧ LTree H q (lastT ts) := by
  obtain ⟨qs, h1, h2⟩ := h
  obtain ⟨ts0, tl, rfl⟩ : ∃ ts0 tl, ts = ts0 ++ [tl] := ⟨_, _, (List.dropLast_concat_getLast hn).symm⟩
  obtain ⟨rs0, r, rfl, h3, h4⟩ := Psplit h2
  exact ⟨_, r, h1, by rw [List.map_append]; exact atI_last _ _, by rw [lastT_snoc]; exact h4⟩
theorem LShp.at' {H : Hp} {S : Addr} {ts : List Tr} {i : Nat} (h : LShp H S ts) (hi : i < ts.length) : ∃ (qs : List Addr) (q : Addr), H S = some (.lst (qs.map V.ref)) ∧ atI (qs.map V.ref) (i : Int) = some (.ref q) ∧ LTree H q (at_ ts i) := by
  obtain ⟨qs, h1, h2⟩ := h
  obtain ⟨q, e, hq⟩ := Pget h2 (at_get hi)
  exact ⟨qs, q, h1, atI_nat (by rw [List.getElem?_map, e]; rfl), hq⟩
theorem sb_put {r S : Addr} {H Hi : Hp} {o : HO} (s : Sb r H Hi) (n : H S = none) : Sb r H (upd Hi S o) := fun b u nb e => by
  rw [upd_ne (ne_of_none e n)]
  exact s b u nb e
def spLRow : Sp := fun vs H Q _ => ∃ (r a b : Addr) (t : Tr) (m : Nat), vs = [.ref r, .ref a, .ref b, .int m] ∧ RngAt H r ∧ NmsAt H b ∧ LTree H a t ∧ WF t ∧ t.length + m ≤ 500 ∧ m ≤ 90 ∧
  ∀ u S D ts ds H', Sb r H H' → RngAt H' r → H' u = some (.tup [.ref S, .ref D]) → LShp H' S (t :: ts) → LDds H' D ds → S ≠ r → D ≠ r → S ≠ D → Row (t :: ts) ds → ds.length ≤ m → Q (.ref u) H'
theorem sc_Lrow : FnScope ["_law_rng_here", "_law_nodes", "_law_names", "_law_many", "_law_shapes", "_law_deeds", "_law_turn", "_law_deed_here", "_law_later"] ["_law_rng_here", "_law_nodes", "_law_names", "_law_many"] (defScope s_Lrow) := ⟨rfl, rfl, rfl, by decide +kernel, rfl, by decide +kernel, by decide +kernel⟩
theorem ok_Lrow (T : Txt K mg) : Cal P w K mg base 5 "_law_row" spLRow [] := by
  refine cal T.f_Lrow T.g_Lrow sc_Lrow (fun _ _ _ _ _ _ us hl => match us, hl with | [_, _, _, _], _ => rfl) (fun vs H Q E h => ?_) (fun cdv A outer s H vs Q E hr h => ?_)
  · obtain ⟨r, a, b, t, m, rfl, _⟩ := h
    rfl
  · obtain ⟨r, a, b, t, m, rfl, hR, hb, hT, wf, hl, hm, q⟩ := h
    have nd := sc_Lrow.nd
    refine ⟨_, pss_cons (ps_par (i := 4) (j := 5) rfl nd rfl rfl (by decide) rfl rfl (pa_cons (pe_lst (pa_cons (pv 1) pa_nil)) (pa_cons (pe_lst pa_nil) pa_nil)) (by rfl))
      (pss_cons (ps_for PassesOwn.never rfl (pi_range1 (by rfl) T.n_range (pa_cons (pv 3) pa_nil)) (pg_name (i := 6) nd rfl (Or.inl rfl))
        (pss_cons (ps_set (i := 7) nd rfl (Or.inl rfl) (C8.pe_c (ok_Ldrawn_deed T) hr (by decide) rfl (pa_cons (pv 0) (pa_cons (pe_ix (r := rIxL K) ix_list (pv 4) (pe_un un_neg pe_int) (fun _ _ => rfl)) (pa_cons (pv 2) pa_nil)))))
        (pss_cons (ps_set (i := 8) nd rfl (Or.inl rfl) (C8.pe_c (ok_Ldone T) hr (by decide) rfl (pa_cons (pe_ix (r := rIxL K) ix_list (pv 4) (pe_un un_neg pe_int) (fun _ _ => rfl)) (pa_cons (pv 7) pa_nil))))
        (pss_one (ps_if (pt_cmpR op_notN (pv 8) pe_non (nomark _))
          (pss_cons (ps_expr (pe_bm PySem.F.plainAttrs_list PySem.F.slot_list_append PySem.F.type_list_append mt_append (pv 4) (pa_cons (pv 8) pa_nil)))
          (pss_one (ps_expr (pe_bm PySem.F.plainAttrs_list PySem.F.slot_list_append PySem.F.type_list_append mt_append (pv 5) (pa_cons (pv 7) pa_nil))))) pss_nil)))))
      (pss_one (ps_ret (pe_tup (pa_cons (pv 4) (pa_cons (pv 5) pa_nil)))))), ?_⟩
    have nbr := hb.neR hR
    refine ⟨_, rfl, (by show 1 ≤ sizeLine; decide), fun S nS => ⟨(by show 0 ≤ sizeLine; decide), fun D nD => ⟨_, _, rfl, ?_⟩⟩⟩
    have s1 := snew (o := .lst []) (same_new (o := .lst [.ref a]) nS) nD
    have hSD : S ≠ D := ne_of_none (upd_same (H := H) (a := S) (o := .lst [.ref a])) nD
    have n0D : H D = none := (same_new (o := .lst [.ref a]) nS).free nD
    have hS0 : LShp (upd (upd H S (.lst [.ref a])) D (.lst [])) S [t] := ⟨[a], upd_at upd_same hSD, .cons (hT.same s1) .nil⟩
    have hD0 : LDds (upd (upd H S (.lst [.ref a])) D (.lst [])) D [] := ⟨[], upd_same, .nil⟩
    have hSr : S ≠ r := hR.ne nS
    have hDr : D ≠ r := hR.ne n0D
    generalize upd (upd H S (.lst [.ref a])) D (.lst []) = H1 at s1 hS0 hD0
    refine ⟨_, rfl, (m : Int), rfl, by omega, by omega, for_it walk_range (fun i σ Hi => ∃ (ts : List Tr) (ds : List Dd) (x6 x7 x8 : Option V), σ = [some (.ref r), some (.ref a), some (.ref b), some (.int m), some (.ref S), some (.ref D), x6, x7, x8] ∧ Sb r H Hi ∧ RngAt Hi r ∧ LShp Hi S (t :: ts) ∧ LDds Hi D ds ∧ Row (t :: ts) ds ∧ ds.length ≤ i) ⟨[], [], _, _, _, rfl, fun b o n e => s1 _ _ e, hR.same s1, hS0, hD0, .one t wf, Nat.le_refl _⟩ (fun _ _ _ _ _ => True.intro) (fun i v σ Hx Hi hi hI hy => ?_) (fun σ Hi hI => ?_)⟩
    · obtain ⟨ts, ds, x6, x7, x8, rfl, sb, R, hS, hD, hRow, hdl⟩ := hI
      obtain ⟨rfl, rfl⟩ := hy
      have hi' : i < m := hi
      have hlen := hRow.len
      have hmono : ∀ t' ∈ t :: ts, t'.length ≤ 500 := fun t' ht' => by
        obtain ⟨j, hj, rfl⟩ := List.mem_iff_getElem.mp ht'
        have h1 := (hRow.mono (i := 0) (j := j) (Nat.zero_le _) hj).2.1
        have e1 : at_ (t :: ts) j = (t :: ts)[j] := by
          unfold at_
          rw [List.getD_eq_getElem?_getD, List.getElem?_eq_getElem hj]
          rfl
        rw [e1] at h1
        have e0 : at_ (t :: ts) 0 = t := rfl
        rw [e0] at h1
        omega
      have hll : (lastT (t :: ts)).length ≤ 500 := by
        rw [last_at (by simp)]
        exact hmono _ (at_mem (by simp))
      have wl : WF (lastT (t :: ts)) := by
        rw [last_at (by simp)]
        exact hRow.wf _ (at_mem (by simp))
      obtain ⟨qs, ql, g1, g2, g3⟩ := hS.last (by simp)
      refine ⟨_, rfl, _, rfl, _, rfl, S, _, _, _, rfl, rfl, SqL.of g1, g2, _, rfl, r, ql, b, _, rfl, R, g3, sb _ _ nbr hb, wl, by omega, fun p d H2 b2 R2 hd hok => ?_⟩
      have hS2 := hS.sbX R.noT hSr b2
      obtain ⟨xr, yr, zr, er⟩ := id R
      have hD2 := hD.sbX er hDr b2
      have g3' := LTree.sbR R b2 g3
      have g1' := b2 _ _ hSr g1
      have sb2 : Sb r H H2 := fun b o n e => b2 _ _ n (sb _ _ n e)
      refine ⟨_, rfl, _, rfl, S, _, _, _, rfl, rfl, SqL.of g1', g2, _, rfl, ql, p, _, d, rfl, g3', hd, hok, wl, by omega, fun H3 s3 => ?_, fun a' t' H3 s3 hst hTa => ?_⟩
      · refine ⟨_, rfl, rfl, _, rfl, iteF ⟨ts, ds, _, _, _, rfl, fun b o n e => s3 _ _ (sb2 _ _ n e), R2.same s3, hS2.same s3, hD2.same s3, hRow, by omega⟩⟩
      · have hS3 := hS2.same s3
        have hD3 := hD2.same s3
        have sb3 : Sb r H H3 := fun b o n e => s3 _ _ (sb2 _ _ n e)
        obtain ⟨qs3, k1, k2⟩ := id hS3
        have lq := Plen k2
        refine ⟨_, rfl, rfl, _, rfl, iteT ⟨_, rfl, .inl ⟨rfl, _, SqL.of k1⟩, _, rfl, S, _, _, rfl, rfl, k1, ?_, ?_⟩⟩
        · rw [List.length_map, lq]
          exact Nat.lt_of_le_of_lt (show (t :: ts).length ≤ 1000 by omega) (by decide)
        have bS : Sb S H3 (upd H3 S (.lst (qs3.map V.ref ++ [.ref a']))) := sb_upd
        have hS4 : LShp (upd H3 S (.lst (qs3.map V.ref ++ [.ref a']))) S ((t :: ts) ++ [t']) := ⟨qs3 ++ [a'], by rw [upd_same, List.map_append]; rfl, Paired.snoc (Pmap k2 fun _ _ => LTree.sbX hS3.noT bS) (LTree.sbX hS3.noT bS hTa)⟩
        have hD4 := hD3.sbX k1 hSD.symm bS
        have R4 : RngAt (upd H3 S (.lst (qs3.map V.ref ++ [.ref a']))) r := let ⟨x, y, z, e⟩ := R2.same s3; ⟨x, y, z, upd_at e hSr.symm⟩
        have sb4 : Sb r H (upd H3 S (.lst (qs3.map V.ref ++ [.ref a']))) := sb_put sb3 nS
        have hd4 : LDeed (upd H3 S (.lst (qs3.map V.ref ++ [.ref a']))) p d := LDeed.fx (Sb.fx bS k1) (hd.same s3)
        generalize upd H3 S (.lst (qs3.map V.ref ++ [.ref a'])) = H4 at hS4 hD4 R4 sb4 hd4
        obtain ⟨ps4, m1, m2⟩ := id hD4
        have lp := Plen m2
        refine ⟨_, rfl, .inl ⟨rfl, _, SqL.of m1⟩, _, rfl, D, _, _, rfl, rfl, m1, ?_, ?_⟩
        · rw [List.length_map, lp]
          exact Nat.lt_of_le_of_lt (show ds.length ≤ 1000 by omega) (by decide)
        have bD : Sb D H4 (upd H4 D (.lst (ps4.map V.ref ++ [.ref p]))) := sb_upd
        refine ⟨ts ++ [t'], ds ++ [d], _, _, _, rfl, sb_put sb4 n0D, let ⟨x, y, z, e⟩ := R4; ⟨x, y, z, upd_at e hDr.symm⟩, hS4.sbX hD4.noT hSD bD, ⟨ps4 ++ [p], by rw [upd_same, List.map_append]; rfl, Paired.snoc (Pmap m2 fun _ _ => LDeed.fx (Sb.fx bD m1)) (LDeed.fx (Sb.fx bD m1) hd4)⟩, hRow.snoc hst, ?_⟩
        rw [List.length_append, List.length_singleton]
        omega
    · obtain ⟨ts, ds, x6, x7, x8, rfl, sb, R, hS, hD, hRow, hdl⟩ := hI
      refine ⟨_, rfl, _, rfl, (by show 2 ≤ sizeLine; decide), fun u nu => ?_⟩
      have su := same_new (o := .tup [.ref S, .ref D]) nu
      exact q u S D ts ds _ (fun b o n e => su _ _ (sb _ _ n e)) (R.same su) upd_same (hS.same su) (hD.same su) hSr hDr hSD hRow hdl
end
end NW
set_option Elab.async false
set_option linter.all false
set_option maxRecDepth 100000
set_option maxHeartbeats 1000000
/-! KM6: what a drawn visit may cost. -/
namespace NW
theorem sz_mono {ts : List Tr} {ds : List Dd} (hR : Row ts ds) {B : Nat} (hB : ∀ t ∈ ts, t.length ≤ B) (hB1 : 1 ≤ B) {k τ c : Nat} (hkτ : k ≤ τ) (hτ : τ < ts.length) (hc : c < (at_ ts k).length) :
    sz (at_ ts τ) c * B ^ (ts.length - 1 - τ) ≤ sz (at_ ts k) c * B ^ (ts.length - 1 - k) := by
  have wτ := hR.wf _ (at_mem hτ)
  have hcτ : c < (at_ ts τ).length := by have := (hR.mono hkτ hτ).1; omega
  by_cases e : τ = k
  · subst e; exact Nat.le_refl _
  · have e1 : ts.length - 1 - k = (ts.length - 1 - τ) + 1 + (τ - k - 1) := by omega
    have h1 : sz (at_ ts τ) c ≤ B := Nat.le_trans (sz_le wτ hcτ) (hB _ (at_mem hτ))
    have h2 : sz (at_ ts τ) c * B ^ (ts.length - 1 - τ) ≤ B * B ^ (ts.length - 1 - τ) := Nat.mul_le_mul_right _ h1
    have h3 : B * B ^ (ts.length - 1 - τ) ≤ B ^ (ts.length - 1 - k) := by
      rw [e1, Nat.pow_add B _ (τ - k - 1), Nat.pow_succ, Nat.mul_comm B]
      exact Nat.le_mul_of_pos_right _ (Nat.pos_of_ne_zero fun z => by have := Nat.pow_eq_zero.mp z; omega)
    have h4 : B ^ (ts.length - 1 - k) ≤ sz (at_ ts k) c * B ^ (ts.length - 1 - k) := Nat.le_mul_of_pos_left _ (by unfold sz; omega)
    omega
theorem szp_take {t : Tr} {cs : List Nat} {i c : Nat} (h : cs[i]? = some c) : szp t (cs.take i) + (if isP t c = true then sz t c else 0) ≤ szp t cs := by
  have e : cs = cs.take i ++ (c :: cs.drop (i + 1)) := by
    obtain ⟨hi, hx⟩ := List.getElem?_eq_some_iff.mp h
    rw [← hx, List.getElem_cons_drop, List.take_append_drop]
  have e2 : szp t cs = szp t (cs.take i ++ (c :: cs.drop (i + 1))) := congrArg (szp t) e
  rw [e2, szp_app, szp_cons]
  omega
/-- the weight of a visit -/
def wgt (ts : List Tr) (k p : Nat) : Nat := sz (at_ ts k) p * 13 ^ (ts.length - 1 - k)
theorem visit_cost {ts : List Tr} {ds : List Dd} (hR : Row ts ds) (hB : ∀ t ∈ ts, t.length ≤ 13) {k τ pl i c : Nat} (hkτ : k ≤ τ) (hτ : τ < ts.length) (hpl : pl < (at_ ts k).length) (hc : (kids (at_ ts τ) pl)[i]? = some c)
    {τs V : List Nat} (hV : VL ts ((kids (at_ ts τ) pl).take i) τs V) (hs : (τ :: τs).Pairwise (· ≤ ·)) (ht : ∀ x ∈ τs, x < ts.length) :
    V.length ≤ 4 + 4 * τs.length ∧ 1 + τs.length ≤ wgt ts k pl ∧ (plL ts c = true → ∀ ki, τ ≤ ki → ki < ts.length → 1 + τs.length + wgt ts ki c ≤ wgt ts k pl ∧ V.length + 1 + 4 * wgt ts ki c ≤ 4 * wgt ts k pl) := by
  have wτ := hR.wf _ (at_mem hτ)
  have hcm := List.mem_of_getElem? hc
  obtain ⟨hi, _⟩ := List.getElem?_eq_some_iff.mp hc
  have h4 := kids_len wτ pl
  obtain ⟨hcl, _, hplc⟩ := hR.kid hτ hcm
  have v1 := hV.vlen hR.wf
  have hti : ((kids (at_ ts τ) pl).take i).length ≤ i := by rw [List.length_take]; omega
  have v2 := hV.tlen hR hB (by decide) τ hτ hs ht (fun x hx => (hR.kid hτ (List.mem_of_mem_take hx)).1)
  have s1 := szp_take (t := at_ ts τ) hc
  have s2 := sz_kids wτ pl
  have s3 := sz_mono hR hB (by decide) hkτ hτ hpl
  have p1 : 1 ≤ 13 ^ (ts.length - 1 - τ) := Nat.pos_of_ne_zero fun z => by
    have := Nat.pow_eq_zero.mp z
    omega
  have s4 : ∀ ki, τ ≤ ki → ki < ts.length → sz (at_ ts ki) c * 13 ^ (ts.length - 1 - ki) ≤ sz (at_ ts τ) c * 13 ^ (ts.length - 1 - τ) := fun ki h1 h2 => sz_mono hR hB (by decide) h1 h2 hcl
  unfold wgt
  generalize 13 ^ (ts.length - 1 - τ) = p at v2 s3 p1 s4
  have m1 : szp (at_ ts τ) ((kids (at_ ts τ) pl).take i) * p + (if isP (at_ ts τ) c = true then sz (at_ ts τ) c else 0) * p + p ≤ sz (at_ ts τ) pl * p := by
    rw [← Nat.add_mul, s2, Nat.add_comm 1, Nat.add_mul (szp (at_ ts τ) (kids (at_ ts τ) pl)) 1 p, Nat.one_mul]
    have := Nat.mul_le_mul_right p s1
    omega
  refine ⟨by omega, by omega, fun hp ki h1 h2 => ?_⟩
  have s4 := s4 ki h1 h2
  have hp2 : isP (at_ ts τ) c = true := by rw [← hR.plL hτ hcl]; exact hp
  rw [if_pos hp2] at m1
  generalize sz (at_ ts ki) c * 13 ^ (ts.length - 1 - ki) = w at s4
  omega
theorem visit_level {ts : List Tr} {ds : List Dd} (hR : Row ts ds) (hB : ∀ t ∈ ts, t.length ≤ 13) {k τ ki pl c m : Nat} (hkτ : k ≤ τ) (hτk : τ ≤ ki) (hki : ki < ts.length) (hc : c ∈ kids (at_ ts τ) pl)
    (h1 : (ts.length - 1 - k) * 14 < m + 1) (h2 : ∀ d, Dep (at_ ts k) pl d → (ts.length - 1 - k) * 14 + (13 - d) < m + 1) : (ts.length - 1 - ki) * 14 < m ∧ ∀ d, Dep (at_ ts ki) c d → (ts.length - 1 - ki) * 14 + (13 - d) < m := by
  by_cases e : ki = k
  · subst e
    have : τ = ki := by omega
    subst this
    obtain ⟨j, hj⟩ := kid_ent hc
    have wτ := hR.wf _ (at_mem hki)
    obtain ⟨d, hd⟩ := wτ.dep pl (isF_of_ent hj)
    have a := h2 d hd
    have b := hd.lt wτ
    have c1 := hB _ (at_mem hki)
    refine ⟨by omega, fun d' hd' => ?_⟩
    have := (Dep.step hd hj (dep_isF wτ hd')).uniq wτ hd'
    omega
  · have : (ts.length - 1 - ki) * 14 + 14 ≤ (ts.length - 1 - k) * 14 := by
      have := Nat.mul_le_mul_right 14 (show (ts.length - 1 - ki) + 1 ≤ ts.length - 1 - k by omega)
      omega
    exact ⟨by omega, fun d _ => by omega⟩
theorem last_snoc (R : List Nat) (x : Nat) : (R ++ [x]).getLastD 0 = x := by simp
theorem last_split (τ : Nat) (τs : List Nat) : ∃ l x, τ :: τs = l ++ [x] := ⟨_, _, (List.dropLast_concat_getLast (l := τ :: τs) (by simp)).symm⟩
theorem last_app (R : List Nat) (τ : Nat) (τs : List Nat) : (R ++ τ :: τs).getLastD 0 = (τ :: τs).getLastD 0 := by
  obtain ⟨l, x, e⟩ := last_split τ τs
  rw [e, ← List.append_assoc, last_snoc, last_snoc]
theorem last_mem (τ : Nat) (τs : List Nat) : (τ :: τs).getLastD 0 ∈ τ :: τs := by
  obtain ⟨l, x, e⟩ := last_split τ τs
  rw [e, last_snoc]
  exact List.mem_append_right _ (List.mem_singleton.mpr rfl)
theorem last_le {τ : Nat} {τs : List Nat} (h : (τ :: τs).Pairwise (· ≤ ·)) : ∀ x ∈ τ :: τs, x ≤ (τ :: τs).getLastD 0 := by
  intro x hx
  obtain ⟨l, y, e⟩ := last_split τ τs
  rw [e] at h hx ⊢
  rw [last_snoc]
  rcases List.mem_append.mp hx with hx | hx
  · exact (List.pairwise_append.mp h).2.2 x hx _ (List.mem_singleton.mpr rfl)
  · exact Nat.le_of_eq (List.mem_singleton.mp hx)
end NW
set_option Elab.async false
set_option linter.all false
set_option maxRecDepth 100000
set_option maxHeartbeats 1000000
/-! W43: the law's visit. -/
namespace NW
open PySem PySem.Spec PyProof.Rows L2
section
variable {P : Program} {w : World} {K : Frag} {mg : Str → Option Value} {base : Heap}
/-- all but three is kept -/
def Sb3 (r a b : Addr) (H H' : Hp) : Prop := ∀ x o, x ≠ r → x ≠ a → x ≠ b → H x = some o → H' x = some o
theorem Sb3.refl (r a b : Addr) (H : Hp) : Sb3 r a b H H := fun _ _ _ _ _ e => e
theorem Sb3.same {r a b : Addr} {H H1 H2 : Hp} (k : Sb3 r a b H H1) (s : Same H1 H2) : Sb3 r a b H H2 := fun x o n1 n2 n3 e => s _ _ (k x o n1 n2 n3 e)
theorem Sb3.trans {r a b : Addr} {H H1 H2 : Hp} (k : Sb3 r a b H H1) (s : Sb3 r a b H1 H2) : Sb3 r a b H H2 := fun x o n1 n2 n3 e => s x o n1 n2 n3 (k x o n1 n2 n3 e)
theorem Sb3.sbr {r a b : Addr} {H H1 H2 : Hp} (k : Sb3 r a b H H1) (s : Sb r H1 H2) : Sb3 r a b H H2 := fun x o n1 n2 n3 e => s x o n1 (k x o n1 n2 n3 e)
theorem Sb3.puta {r a b : Addr} {H H1 : Hp} {o : HO} (k : Sb3 r a b H H1) : Sb3 r a b H (upd H1 a o) := fun x u n1 n2 n3 e => by rw [upd_ne n2]; exact k x u n1 n2 n3 e
theorem Sb3.putb {r a b : Addr} {H H1 : Hp} {o : HO} (k : Sb3 r a b H H1) : Sb3 r a b H (upd H1 b o) := fun x u n1 n2 n3 e => by rw [upd_ne n3]; exact k x u n1 n2 n3 e
theorem nat_bad (N : List Nat) : good (.lst (natV N)) = false := by cases N <;> rfl
theorem Sb3.gx {r a b : Addr} {H H' : Hp} {N R : List Nat} (hr : RngAt H r) (ha : H a = some (.lst (natV N))) (hb : H b = some (.lst (natV R))) (s : Sb3 r a b H H') : Gx H H' := fun x o e g => by
  refine s x o (fun z => ?_) (fun z => ?_) (fun z => ?_) e
  · obtain ⟨u, v, y, er⟩ := hr
    subst z
    rw [er] at e
    cases e
    cases g
  · subst z
    rw [ha] at e
    cases e
    rw [nat_bad] at g
    cases g
  · subst z
    rw [hb] at e
    cases e
    rw [nat_bad] at g
    cases g
theorem LShp.gx {H H' : Hp} {S : Addr} {ts : List Tr} (s : Gx H H') (hn : ts ≠ []) (h : LShp H S ts) : LShp H' S ts := by
  obtain ⟨qs, h1, h2⟩ := h
  exact ⟨qs, s _ _ h1 (good_refs fun z => hn (by rw [z] at h2; cases h2; rfl)), Pmap h2 fun _ _ => LTree.gx s⟩
theorem kd_place (nd : Nd) : inV (.str nd.kind) [.str "folder", .str "gone"] = (nd.isF || nd.isG) := by
  cases nd with
  | fol o es => exact (by decide +kernel : inV (.str "folder") [.str "folder", .str "gone"] = true)
  | fil o => exact (by decide +kernel : inV (.str "file") [.str "folder", .str "gone"] = false)
  | gon o a => exact (by decide +kernel : inV (.str "gone") [.str "folder", .str "gone"] = true)
theorem natV_last {R : List Nat} (h : R ≠ []) : atI (natV R) (-1) = some (.int (R.getLastD 0 : Nat)) := by
  obtain ⟨l, x, rfl⟩ : ∃ l x, R = l ++ [x] := ⟨_, _, (List.dropLast_concat_getLast h).symm⟩
  rw [last_snoc]
  unfold natV
  rw [List.map_append]
  exact atI_last _ _
theorem natV_app (a : List Nat) (x : Nat) : natV a ++ [V.int (x : Nat)] = natV (a ++ [x]) := by
  unfold natV
  rw [List.map_append]
  rfl
def spLVisit (m : Nat) : Sp := fun vs H Q _ => ∃ (r S nN nR : Addr) (ts : List Tr) (ds : List Dd) (pl k : Nat) (N R : List Nat), vs = [.ref r, .ref S, .int pl, .ref nN, .ref nR] ∧ RngAt H r ∧ LShp H S ts ∧ Row ts ds ∧ ts.length ≤ 100 ∧ (∀ t ∈ ts, t.length ≤ 13) ∧ H nN = some (.lst (natV N)) ∧ H nR = some (.lst (natV R)) ∧ nN ≠ r ∧ nR ≠ r ∧ nN ≠ nR ∧
  R.getLastD 0 = k ∧ k < ts.length ∧ pl < (at_ ts k).length ∧ (ts.length - 1 - k) * 14 < m ∧ (∀ d, Dep (at_ ts k) pl d → (ts.length - 1 - k) * 14 + (13 - d) < m) ∧ R.length + wgt ts k pl ≤ 2000000 ∧ N.length + 4 * wgt ts k pl ≤ 8000000 ∧
  ∀ H' τ τs V, Sb3 r nN nR H H' → RngAt H' r → VL ts (kids (at_ ts τ) pl) τs V → (k :: τ :: τs).Pairwise (· ≤ ·) → (∀ x ∈ τ :: τs, x < ts.length) → H' nN = some (.lst (natV (N ++ V))) → H' nR = some (.lst (natV (R ++ τ :: τs))) → Q .non H'
theorem sc_Lvisit : FnScope ["_law_rng_here", "_law_shapes", "_law_place", "_law_noted", "_law_row_here", "_law_least", "_law_child"] ["_law_rng_here", "_law_shapes", "_law_place", "_law_noted", "_law_row_here"] (defScope s_Lvisit) := ⟨rfl, rfl, rfl, by decide +kernel, rfl, by decide +kernel, by decide +kernel⟩
theorem ok_Lvisit (T : Txt K mg) : ∀ m, Cal P w K mg base (2 + m) "_law_visit" (spLVisit m) [] := by
  intro m
  induction m with
  | zero =>
    refine cal T.f_Lvisit T.g_Lvisit sc_Lvisit (fun _ _ _ _ _ _ us hl => match us, hl with | [_, _, _, _, _], _ => rfl) (fun vs H Q E h => ?_) (fun cdv A outer s H vs Q E hr h => ?_)
    · obtain ⟨r, S, nN, nR, ts, ds, pl, k, N, R, rfl, _⟩ := h
      rfl
    · obtain ⟨r, S, nN, nR, ts, ds, pl, k, N, R, rfl, _, _, _, _, _, _, _, _, _, _, _, _, _, h, _⟩ := h
      exact absurd h (by omega)
  | succ m ih =>
    refine cal T.f_Lvisit T.g_Lvisit sc_Lvisit (fun _ _ _ _ _ _ us hl => match us, hl with | [_, _, _, _, _], _ => rfl) (fun vs H Q E h => ?_) (fun cdv A outer s H vs Q E hr h => ?_)
    · obtain ⟨r, S, nN, nR, ts, ds, pl, k, N, R, rfl, _⟩ := h
      rfl
    · obtain ⟨r, S, nN, nR, ts, ds, pl, k, N, R, rfl, hRg, hS, hRow, hL100, hB, hN, hR, nNr, nRr, nNR, hk, hkL, hpl, hm1, hm2, hb1, hb2, q⟩ := h
      have nd := sc_Lvisit.nd
      refine ⟨_, C8.pss_cut (ps_set (i := 5) nd rfl (Or.inl rfl) (pe_ifExp (pt_cmpR (op_neNil hr.units0) (pv 4) (pe_lst pa_nil) (nomark _)) (pe_ix (r := rIxL K) ix_list (pv 4) (pe_un un_neg pe_int) (fun _ _ => rfl)) pe_int))
        (pss_cons (ps_expr (pe_bm PySem.F.plainAttrs_list PySem.F.slot_list_append PySem.F.type_list_append mt_append (pv 4) (pa_cons (pe_op op_add (pv 5) (C8.pe_c (ok_Ldraw T) hr (Nat.le_trans (by decide : 1 ≤ 2) (Nat.le_add_right 2 m)) rfl (pa_cons (pv 0) (pa_cons (pe_op op_sub (pe_callB call_len_seq (by rfl) T.n_len PySem.boot_len (pa_cons (pv 1) pa_nil)) (pv 5)) pa_nil)))) pa_nil)))
        (pss_one (ps_for PassesOwn.never rfl (pi_list (C8.pe_c (ok_Linner T) hr (Nat.le_trans (by decide : 1 ≤ 2) (Nat.le_add_right 2 m)) rfl (pa_cons (pe_ix (r := rIxL K) ix_list (pv 1) (pe_ix (r := rIxL K) ix_list (pv 4) (pe_un un_neg pe_int) (fun _ _ => rfl)) (fun _ _ => rfl)) (pa_cons (pv 2) pa_nil)))) (pg_name (i := 6) nd rfl (Or.inl rfl))
          (pss_cons (ps_expr (pe_bm PySem.F.plainAttrs_list PySem.F.slot_list_append PySem.F.type_list_append mt_append (pv 3) (pa_cons (pv 6) pa_nil)))
          (pss_one (ps_if (pt_cmpR op_in_seq (pe_ix (r := rIxL K) ix_list (pe_ix (r := rIxL K) ix_list (pe_ix (r := rIxL K) ix_list (pv 1) (pe_un un_neg pe_int) (fun _ _ => rfl)) (pv 6) (fun _ _ => rfl)) pe_int (fun _ _ => rfl)) (pe_tup (pa_cons pe_str (pa_cons pe_str pa_nil))) (by rfl))
            (pss_one (ps_expr (C8.pe_c ih hr (Nat.le_refl _) rfl (pa_cons (pv 0) (pa_cons (pv 1) (pa_cons (pv 6) (pa_cons (pv 3) (pa_cons (pv 4) pa_nil)))))))) pss_nil)))))), ?_⟩
      have hne := hRow.ne
      have hw1 : 1 ≤ wgt ts k pl := by
        unfold wgt sz
        exact Nat.mul_pos (by omega) (Nat.pos_of_ne_zero fun z => by
          have := Nat.pow_eq_zero.mp z
          omega)
      -- the least moment
      refine ⟨fun σ' H' => σ' = [some (.ref r), some (.ref S), some (.int pl), some (.ref nN), some (.ref nR), some (.int (k : Nat)), none] ∧ Same H H', ⟨_, rfl, (by show 0 ≤ sizeLine; decide), fun E0 nE0 => ⟨nR, E0, _, rfl, rfl, SqL.of (same_new nE0 _ _ hR), SqL.of upd_same, _, rfl, ?_⟩⟩, ?_⟩
      · rw [if_pos rfl]
        cases hRc : R with
        | nil =>
          rw [hRc] at hk
          have hk : 0 = k := hk
          subst hk
          exact iteF ⟨rfl, same_new nE0⟩
        | cons x R' =>
          have e1 := natV_last (R := R) (by rw [hRc]; simp)
          rw [hk] at e1
          exact iteT ⟨_, rfl, _, rfl, nR, _, _, _, rfl, rfl, SqL.of (same_new nE0 _ _ hR), e1, rfl, same_new nE0⟩
      rintro σ' H1 ⟨rfl, s1⟩
      have R1 := hRg.same s1
      have hS1 := hS.same s1
      have hN1 := s1 _ _ hN
      have hR1 := s1 _ _ hR
      obtain ⟨qs, g1, g2⟩ := id hS1
      have lq := Plen g2
      have eL : ((qs.map V.ref).length : Int) - (k : Nat) = ((ts.length - k : Nat) : Int) := by rw [List.length_map, lq]; omega
      refine ⟨_, rfl, .inl ⟨rfl, _, SqL.of hR1⟩, _, rfl, _, rfl, _, rfl, S, _, rfl, .inl (SqL.of g1), _, rfl, _, _, rfl, rfl, r, ts.length - k, (by show [V.ref r, V.int (((qs.map V.ref).length : Int) - (k : Nat))] = _; rw [eL]), R1, by omega, by omega, fun d H2 hd b2 R2 => ?_⟩
      have hτ : k + d < ts.length := by omega
      have hN2 := b2 _ _ nNr hN1
      have hR2 := b2 _ _ nRr hR1
      have sb2 : Sb3 r nN nR H H2 := ((Sb3.refl r nN nR H).same s1).sbr b2
      refine ⟨_, _, rfl, rfl, nR, _, _, rfl, rfl, hR2, by rw [natV_len]; exact Nat.lt_of_le_of_lt (show R.length ≤ 2000000 by omega) (by decide), ?_⟩
      rw [show natV R ++ [(fun i j : Int => V.int (i + j)) ((k : Nat) : Int) ((d : Nat) : Int)] = natV (R ++ [k + d]) from natV_app R (k + d)]
      generalize hτe : k + d = τ at hτ
      have hkτ : k ≤ τ := by omega
      have hR3 : upd H2 nR (.lst (natV (R ++ [τ]))) nR = some (.lst (natV (R ++ [τ]))) := upd_same
      have hN3 := upd_at (o := .lst (natV (R ++ [τ]))) hN2 nNR
      have R3 : RngAt (upd H2 nR (.lst (natV (R ++ [τ])))) r := let ⟨x, y, z, e⟩ := R2; ⟨x, y, z, upd_at e nRr.symm⟩
      have sb3 : Sb3 r nN nR H (upd H2 nR (.lst (natV (R ++ [τ])))) := sb2.putb
      generalize upd H2 nR (.lst (natV (R ++ [τ]))) = H3 at hR3 hN3 R3 sb3
      have hS3 := hS.gx (sb3.gx hRg hN hR) hne
      obtain ⟨qs3, q3, k1, k2, k3⟩ := hS3.at' hτ
      have wτ := hRow.wf _ (at_mem hτ)
      have hplτ : pl < (at_ ts τ).length := by have := (hRow.mono hkτ hτ).1; omega
      have el := natV_last (R := R ++ [τ]) (by simp)
      rw [last_snoc] at el
      refine ⟨_, rfl, _, rfl, _, rfl, nR, _, _, _, rfl, rfl, SqL.of hR3, el, S, _, _, _, rfl, rfl, SqL.of k1, k2, _, rfl, q3, at_ ts τ, pl, rfl, k3, wτ, hplτ, fun KL H4 s4 nKL hKL => ?_⟩
      have sb4 := sb3.same s4
      have nKr := R3.ne nKL
      have nKN : KL ≠ nN := (ne_of_none hN3 nKL).symm
      have nKR : KL ≠ nR := (ne_of_none hR3 nKL).symm
      have hL4 : ∀ Hi, Sb3 r nN nR H4 Hi → Hi KL = some (.lst (natV (kids (at_ ts τ) pl))) := fun Hi sb => sb _ _ nKr nKN nKR hKL
      have hS4 := hS3.same s4
      have hN4 := s4 _ _ hN3
      have hR4 := s4 _ _ hR3
      have R4 := R3.same s4
      refine ⟨KL, rfl, ⟨_, SqL.of hKL⟩, for_it walk_list (fun i σ Hi => Sb3 r nN nR H4 Hi ∧ RngAt Hi r ∧ ∃ (τs V : List Nat) (x6 : Option L2.V), σ = [some (.ref r), some (.ref S), some (.int pl), some (.ref nN), some (.ref nR), some (.int (k : Nat)), x6] ∧ VL ts ((kids (at_ ts τ) pl).take i) τs V ∧ (τ :: τs).Pairwise (· ≤ ·) ∧ (∀ x ∈ τs, x < ts.length) ∧ Hi nN = some (.lst (natV (N ++ V))) ∧ Hi nR = some (.lst (natV (R ++ τ :: τs)))) ⟨Sb3.refl _ _ _ _, R4, [], [], none, rfl, .nil, List.pairwise_singleton _ _, fun x hx => (by cases hx), by rw [List.append_nil]; exact hN4, hR4⟩ (fun i σ Hi _ h => SqL.of (hL4 _ h.1)) (fun i x σ Hx Hi hi hI hy => ?_) (fun σ Hi hI => ?_)⟩
      · obtain ⟨sbi, Ri, τs, Vi, x6, rfl, hV, hs, ht, hNi, hRi⟩ := hI
        obtain ⟨rfl, hx⟩ := hy
        unfold natV at hi hx
        rw [List.length_map] at hi
        have hc := List.getElem?_eq_getElem hi
        generalize (kids (at_ ts τ) pl)[i] = c at hc
        rw [List.getElem?_map, hc] at hx
        cases hx
        have hcm := List.mem_of_getElem? hc
        obtain ⟨hcl, hc0, hplc⟩ := hRow.kid hτ hcm
        obtain ⟨cost1, cost2, cost3⟩ := visit_cost hRow hB hkτ hτ hpl hc hV hs ht
        have etk : (kids (at_ ts τ) pl).take (i + 1) = (kids (at_ ts τ) pl).take i ++ [c] := by rw [List.take_succ, hc]; rfl
        refine ⟨_, rfl, .inl ⟨rfl, _, SqL.of hNi⟩, _, rfl, nN, _, _, rfl, rfl, hNi, ?_, ?_⟩
        · rw [natV_len, List.length_append]
          exact Nat.lt_of_le_of_lt (show N.length + Vi.length ≤ 16000004 by omega) (by decide)
        rw [natV_app, List.append_assoc]
        have hN5 : upd Hi nN (.lst (natV (N ++ (Vi ++ [c])))) nN = some (.lst (natV (N ++ (Vi ++ [c])))) := upd_same
        have hR5 := upd_at (o := .lst (natV (N ++ (Vi ++ [c])))) hRi nNR.symm
        have R5 : RngAt (upd Hi nN (.lst (natV (N ++ (Vi ++ [c]))))) r := let ⟨x, y, z, e⟩ := Ri; ⟨x, y, z, upd_at e nNr.symm⟩
        have sb5 : Sb3 r nN nR H4 (upd Hi nN (.lst (natV (N ++ (Vi ++ [c]))))) := sbi.puta
        generalize upd Hi nN (.lst (natV (N ++ (Vi ++ [c])))) = H5 at hN5 hR5 R5 sb5
        have hS5 := hS4.gx (sb5.gx R4 hN4 hR4) hne
        obtain ⟨qs5, q5, a1, a2, a3⟩ := hS5.last hne
        have hll : c < (lastT ts).length := by
          have := hRow.len_last hτ
          omega
        have hnc : (lastT ts)[c]? = some (lastT ts)[c] := List.getElem?_eq_getElem hll
        generalize (lastT ts)[c] = ndc at hnc
        obtain ⟨rs5, r5, u1, u2, u3, hrow5⟩ := a3.at' hnc
        obtain ⟨o5, x5, hk5⟩ := hrow5.kind
        have hpc : plL ts c = (ndc.isF || ndc.isG) := by
          show (isF (lastT ts) c || isG (lastT ts) c) = _
          unfold isF isG
          rw [hnc]
        refine ⟨_, rfl, _, rfl, S, _, _, _, rfl, rfl, SqL.of a1, a2, _, rfl, q5, _, _, _, rfl, rfl, SqL.of u1, u3, r5, _, _, _, rfl, rfl, SqL.of hk5, atI_nat (j := 0) rfl, (by show 2 ≤ sizeLine; decide), fun p2 np => ⟨p2, _, rfl, .inr (SqT.of upd_same), rfl, rfl, _, rfl, ?_⟩⟩
        rw [show (if false = true then !inV (V.str ndc.kind) [.str "folder", .str "gone"] else inV (V.str ndc.kind) [.str "folder", .str "gone"]) = plL ts c from ((if_neg (fun z => by cases z)).trans (kd_place ndc)).trans hpc.symm]
        have s6 := same_new (o := .tup [.str "folder", .str "gone"]) np
        have hN6 := s6 _ _ hN5
        have hR6 := s6 _ _ hR5
        have R6 := R5.same s6
        have sb6 := sb5.same s6
        have hS6 := hS5.same s6
        generalize upd H5 p2 (.tup [.str "folder", .str "gone"]) = H6 at s6 hN6 hR6 R6 sb6 hS6
        cases hpl2 : plL ts c with
        | false =>
          refine iteF ⟨sb6, R6, τs, Vi ++ [c], _, rfl, ?_, hs, ht, hN6, hR6⟩
          have := hV.app (VL.file hpl2 .nil)
          rw [List.append_nil] at this
          rw [etk]
          exact this
        | true =>
          have hki := last_mem τ τs
          have hkl := last_le hs
          generalize hkie : (τ :: τs).getLastD 0 = ki at hki hkl
          have hτki := hkl τ List.mem_cons_self
          have hkiL : ki < ts.length := by
            rcases List.mem_cons.mp hki with e | h
            · omega
            · exact ht _ h
          obtain ⟨c1, c2⟩ := cost3 hpl2 ki hτki hkiL
          obtain ⟨l1, l2⟩ := visit_level hRow hB hkτ hτki hkiL hcm hm1 hm2
          refine iteT ⟨_, rfl, _, rfl, _, rfl, _, rfl, _, rfl, r, S, nN, nR, ts, ds, c, ki, N ++ (Vi ++ [c]), R ++ τ :: τs, rfl, R6, hS6, hRow, hL100, hB, hN6, hR6, nNr, nRr, nNR, (last_app _ _ _).trans hkie, hkiL, ?_, l1, l2, ?_, ?_, fun H7 τ' τs' V' sb7 R7 hV' hs' ht' hN7 hR7 => ?_⟩
          · have := (hRow.mono hτki hkiL).1
            omega
          · rw [List.length_append, List.length_cons]
            omega
          · rw [List.length_append, List.length_append, List.length_singleton]
            omega
          · refine ⟨sb6.trans sb7, R7, τs ++ τ' :: τs', (Vi ++ [c]) ++ V', _, rfl, ?_, ?_, ?_, ?_, ?_⟩
            · have := hV.app (VL.place hpl2 hV' .nil)
              rw [List.append_nil, List.append_nil] at this
              rw [etk, List.append_assoc]
              exact this
            · obtain ⟨h1, h2⟩ := List.pairwise_cons.mp hs'
              refine (List.pairwise_append (l₁ := τ :: τs)).mpr ⟨hs, h2, fun a ha b hb => ?_⟩
              have := hkl a ha
              have := h1 b hb
              omega
            · intro x hx
              rcases List.mem_append.mp hx with h | h
              · exact ht x h
              · exact ht' x h
            · rw [List.append_assoc] at hN7
              exact hN7
            · rw [List.append_assoc] at hR7
              exact hR7
      · obtain ⟨sbi, Ri, τs, Vi, x6, rfl, hV, hs, ht, hNi, hRi⟩ := hI
        rw [natV_len, List.take_length] at hV
        refine q Hi τ τs Vi (sb4.trans sbi) Ri hV (List.pairwise_cons.mpr ⟨fun x hx => ?_, hs⟩) (fun x hx => ?_) hNi hRi
        · rcases List.mem_cons.mp hx with e | h
          · omega
          · have := (List.pairwise_cons.mp hs).1 x h
            omega
        · rcases List.mem_cons.mp hx with e | h
          · omega
          · exact ht x h
end
end NW
set_option Elab.async false
set_option linter.all false
set_option maxRecDepth 100000
set_option maxHeartbeats 1000000
/-! W44: the law's below, of any node. -/
namespace NW
open PySem PySem.Spec PyProof.Rows L2
theorem below_len {t : Tr} (w : WF t) {n : Nat} (hn : n < t.length) : (below t n).length ≤ 4 * t.length := by
  have h := VL_const (ts := [t]) (.one t w) (τ := 0) Nat.one_pos t.length n fun hF => by
    obtain ⟨d, hd⟩ := w.dep n hF
    exact ⟨d, hd, Nat.sub_le _ _⟩
  have h1 := h.vlen fun x hx => by rw [List.mem_singleton.mp hx]; exact w
  rw [List.length_replicate] at h1
  have h2 := kids_len w n
  have h3 := sz_le w hn
  unfold sz below at h3
  have h1 : (blw t t.length n).length ≤ (kids t n).length + 4 * cntF t (blw t t.length n) := h1
  unfold below
  omega
section
variable {P : Program} {w : World} {K : Frag} {mg : Str → Option Value} {base : Heap}
def spLBelowA (h : Nat) : Sp := fun vs H Q _ => ∃ (a : Addr) (t : Tr) (n : Nat), vs = [.ref a, .int n] ∧ LTree H a t ∧ WF t ∧ n < t.length ∧ t.length ≤ h ∧ (below t n).length ≤ 1000000 ∧ ∀ D H', Same H H' → H D = none → H' D = some (.lst (natV (below t n))) → Q (.ref D) H'
theorem ok_LbelowA (T : Txt K mg) (h : Nat) : Cal P w K mg base (1 + h + 1) "_law_below" (spLBelowA h) [] := by
  refine cal T.f_Lbelow T.g_Lbelow sc_Lbelow (fun _ _ _ _ _ _ us hl => match us, hl with | [_, _], _ => rfl) (fun vs H Q E h => ?_) (fun cdv A outer s H vs Q E hr h => ?_)
  · obtain ⟨a, t, n, rfl, _⟩ := h
    rfl
  · obtain ⟨a, t, n, rfl, hT, wf, hn, hl, hz, q⟩ := h
    have nd := sc_Lbelow.nd
    refine ⟨_, pss_cons (ps_set (i := 2) nd rfl (Or.inl rfl) (pe_lst pa_nil))
      (pss_cons (ps_for PassesOwn.never rfl (pi_list (C8.pe_c (ok_Linner T) hr (Nat.le_add_right 1 h) rfl (pa_cons (pv 0) (pa_cons (pv 1) pa_nil)))) (pg_name (i := 3) nd rfl (Or.inl rfl))
        (pss_one (ps_set (i := 2) nd rfl (Or.inl rfl) (pe_op op_cat (pe_op op_cat (pv 2) (pe_lst (pa_cons (pv 3) pa_nil))) (pe_ifExp (pt_cmpR op_eq (pe_ix ix_list (pe_ix ix_list (pv 0) (pv 3) (fun _ _ => rfl)) pe_int (fun _ _ => rfl)) pe_str (nomark _)) (C8.pe_c (ok_Lbelow T h) hr (Nat.le_refl _) rfl (pa_cons (pv 0) (pa_cons (pv 3) pa_nil))) (pe_lst pa_nil))))))
      (pss_one (ps_ret (pv 2)))), ?_⟩
    refine ⟨(by show 0 ≤ sizeLine; decide), fun D0 nD0 => ?_⟩
    have s1 := same_new (o := .lst []) nD0
    have hD0 : upd H D0 (.lst []) D0 = some (.lst []) := upd_same
    generalize upd H D0 (.lst []) = H1 at s1 hD0
    refine ⟨_, rfl, _, rfl, a, t, n, rfl, hT.same s1, wf, hn, fun KL H2 s2 nKL hKL => ?_⟩
    have s12 := s1.trans s2
    refine ⟨KL, rfl, ⟨_, SqL.of hKL⟩, for_it walk_list (fun i σ Hi => Same H2 Hi ∧ ∃ (F : Addr) (x3 : Option V), σ = [some (.ref a), some (.int n), some (.ref F), x3] ∧ H F = none ∧ Hi F = some (.lst (natV (((kids t n).take i).flatMap fun c => c :: below t c)))) ⟨Same.refl _, D0, none, rfl, nD0, s2 _ _ hD0⟩ (fun i σ Hi _ h => SqL.of (h.1 _ _ hKL)) (fun i x σ Hx Hi hi hI hy => ?_) (fun σ Hi hI => ?_)⟩
    · obtain ⟨sm, F, x3, rfl, nF, hFl⟩ := hI
      obtain ⟨rfl, hx⟩ := hy
      unfold natV at hi hx
      rw [List.length_map] at hi
      have hc := List.getElem?_eq_getElem hi
      generalize (kids t n)[i] = c at hc
      rw [List.getElem?_map, hc] at hx
      cases hx
      have hcm := List.mem_of_getElem? hc
      obtain ⟨e, hem, hec⟩ := List.mem_map.mp hcm
      have hem : (e.1, c) ∈ ents t n := by rw [← hec]; exact hem
      obtain ⟨_, _, hcl, _⟩ := wf.ent n e.1 c hem
      obtain ⟨d, hd⟩ := wf.dep n (isF_of_ent hem)
      have etk : (kids t n).take (i + 1) = (kids t n).take i ++ [c] := by rw [List.take_succ, hc]; rfl
      have hle : ∀ j, (((kids t n).take j).flatMap fun c => c :: below t c).length ≤ 1000000 := fun j => by
        have h2 := hz
        rw [below_eq wf n, ← List.take_append_drop j (kids t n), List.flatMap_append, List.length_append] at h2
        omega
      have hl1 := hle (i + 1)
      rw [etk, List.flatMap_append, List.length_append] at hl1
      have hcb : ([c].flatMap fun c => c :: below t c) = c :: below t c := by simp
      rw [hcb, List.length_cons] at hl1
      generalize hX : (((kids t n).take i).flatMap fun c => c :: below t c) = X at hFl hl1
      have sx := s12.trans sm
      obtain ⟨ndc, hndc⟩ : ∃ nd, t[c]? = some nd := ⟨_, List.getElem?_eq_getElem hcl⟩
      have hXl : (natV X).length = X.length := List.length_map _
      refine ⟨_, rfl, _, rfl, (by show 1 ≤ sizeLine; decide), fun A1 nA => ⟨F, A1, _, _, rfl, rfl, same_new nA _ _ hFl, upd_same, (by rw [hXl]; exact Nat.le_trans (by show X.length + 1 ≤ 1000001; omega) (by decide)), fun B nB => ?_⟩⟩
      have sA := snew (o := .lst (natV X ++ [.int (c : Nat)])) (same_new (o := .lst [.int (c : Nat)]) nA) nB
      have hB : upd (upd Hi A1 (.lst [.int (c : Nat)])) B (.lst (natV X ++ [.int (c : Nat)])) B = some (.lst (natV X ++ [.int (c : Nat)])) := upd_same
      generalize upd (upd Hi A1 (.lst [.int (c : Nat)])) B (.lst (natV X ++ [.int (c : Nat)])) = H5 at sA hB
      have s5 := sx.trans sA
      have hT5 := hT.same s5
      have fin : ∀ (C : Addr) (H6 : Hp) (Z : List Nat), Same H5 H6 → H6 C = some (.lst (natV Z)) → Z = below t c → ∀ G, H6 G = none → Same H2 (upd H6 G (.lst ((natV X ++ [.int (c : Nat)]) ++ natV Z))) ∧ ∃ (F : Addr) (x3 : Option V), [some (V.ref a), some (.int n), some (.ref G), some (.int (c : Nat))] = [some (.ref a), some (.int n), some (.ref F), x3] ∧ H F = none ∧ upd H6 G (.lst ((natV X ++ [.int (c : Nat)]) ++ natV Z)) F = some (.lst (natV (((kids t n).take (i + 1)).flatMap fun c => c :: below t c))) := fun C H6 Z s6 hC hZ G nG => by
        refine ⟨snew ((sm.trans sA).trans s6) nG, G, _, rfl, (s5.trans s6).free nG, ?_⟩
        rw [upd_same, etk, List.flatMap_append, hcb, hX, hZ]
        unfold natV
        rw [List.map_append, List.map_cons, List.append_assoc]
        rfl
      obtain ⟨rs, h1, h2, h3⟩ := id hT5
      obtain ⟨r0, hr0, hrow⟩ := Pget h3 hndc
      obtain ⟨o, xx, hk⟩ := hrow.kind
      refine ⟨_, rfl, _, rfl, a, _, _, _, rfl, rfl, SqL.of h1, atI_nat (by rw [List.getElem?_map, hr0]; rfl), r0, _, _, _, rfl, rfl, SqL.of hk, atI_nat (j := 0) rfl, rfl, _, rfl, ?_⟩
      rw [kind_fol]
      cases hcF : ndc.isF with
      | false =>
        have hb0 : below t c = [] := by rw [below_eq wf c, kids_none ((isF_at hndc).trans hcF)]; rfl
        refine iteF ⟨(by show 0 ≤ sizeLine; decide), fun C nC => ⟨B, C, _, _, rfl, rfl, same_new nC _ _ hB, upd_same, ?_, fun G nG => ?_⟩⟩
        · rw [List.length_append, hXl]
          exact Nat.le_trans (show X.length + 1 + 0 ≤ 1000001 by omega) (by decide)
        · exact fin C _ [] (same_new nC) upd_same hb0.symm G nG
      | true =>
        have hFc : isF t c = true := (isF_at hndc).trans hcF
        refine iteT ⟨_, rfl, _, rfl, a, t, c, d + 1, rfl, hT5, wf, hcl, .step hd hem hFc, hFc, by omega, by omega, fun C H6 s6 nC hC => ⟨B, C, _, _, rfl, rfl, s6 _ _ hB, hC, ?_, fun G nG => ?_⟩⟩
        · rw [List.length_append, hXl, show (natV (below t c)).length = (below t c).length from List.length_map _]
          exact Nat.le_trans (show X.length + 1 + (below t c).length ≤ 1000001 by omega) (by decide)
        · exact fin C H6 _ s6 hC rfl G nG
    · obtain ⟨sm, F, x3, rfl, nF, hFl⟩ := hI
      refine ⟨_, rfl, q F Hi (s12.trans sm) nF ?_⟩
      unfold natV at hFl
      rw [List.length_map, List.take_length, ← below_eq wf n] at hFl
      exact hFl
end
end NW
set_option Elab.async false
set_option linter.all false
set_option maxRecDepth 100000
set_option maxHeartbeats 1000000
/-! W45: the law's still_right. -/
namespace NW
open PySem PySem.Spec PyProof.Rows L2
/-! data -/
def dI (l : List Nat) : PyData := .list (l.map fun x => PyData.int (x : Nat))
theorem dI_all (K : Frag) (H : Hp) : ∀ l : List Nat, DpAll K H (natV l) (l.map fun x => PyData.int (x : Nat))
  | [] => .nil
  | x :: l => .cons (.int _) (dI_all K H l)
theorem dI_at {K : Frag} {H : Hp} {a : Addr} {l : List Nat} (h : SqL K H a (natV l)) : Dp K H (.ref a) (dI l) := .lst h (dI_all K H l)
theorem dI_lay : ∀ l : List Nat, PyData.canLayAll0 (l.map fun x => PyData.int (x : Nat)) = true
  | [] => rfl
  | x :: l => by
    rw [List.map_cons]
    simp only [PyData.canLayAll0, PyData.canLay0, Bool.true_and]
    exact dI_lay l
theorem dI_dep : ∀ l : List Nat, PyData.depthAll (l.map fun x => PyData.int (x : Nat)) = 0
  | [] => rfl
  | x :: l => by
    rw [List.map_cons]
    simp only [PyData.depthAll, PyData.depth]
    rw [dI_dep l]
    rfl
theorem dI_can (l : List Nat) : (dI l).canLay0 = true := by
  unfold dI
  simp only [PyData.canLay0]
  exact dI_lay l
theorem dI_dep1 (l : List Nat) : (dI l).depth = 1 := by
  unfold dI
  simp only [PyData.depth]
  rw [dI_dep]
theorem dI_shp (l : List Nat) : SeqAt.shaped (dI l) = true := by
  unfold SeqAt.shaped
  rw [dI_can, dI_dep1]
  rfl
theorem dI_refl (l : List Nat) : PyData.eqv (dI l) (dI l) = true := SeqAt.eqv_refl _ (dI_can l)
/-- one listing, once -/
def dOne (l : List Nat) : PyData := .list [.tuple [dI l, .int 1]]
theorem dOne_can (l : List Nat) : (dOne l).canLay0 = true := by
  unfold dOne
  simp only [PyData.canLay0, PyData.canLayAll0]
  rw [dI_can]
  rfl
theorem dOne_shp (l : List Nat) : SeqAt.shaped (dOne l) = true := by
  have hd : (dOne l).depth = 3 := by
    unfold dOne
    simp only [PyData.depth, PyData.depthAll]
    rw [dI_dep1]
    rfl
  unfold SeqAt.shaped
  rw [dOne_can, hd]
  rfl
theorem dOne_refl (l : List Nat) : PyData.eqv (dOne l) (dOne l) = true := SeqAt.eqv_refl _ (dOne_can l)
/-! two rules for one operator -/
theorem op_alt {X : Cx} {f : Value → Value → Sem Value} {r1 r2 : R2} (h1 : OpR X f r1) (h2 : OpR X f r2) : OpR X f (fun x y H Q => r1 x y H Q ∨ r2 x y H Q) := by
  intro pins s σ H x y v u Q I rx ry h
  rcases h with h | h
  · exact h1 pins s σ H x y v u Q I rx ry h
  · exact h2 pins s σ H x y v u Q I rx ry h
theorem op_neCame {X : Cx} {j : Nat} (T : Txt X.K X.mg) (hr : Room j X.A) (hk : 3 ≤ j) : OpR X (compareOp .NotEq) (rNeI (He.ga X.K "Came") (spSme X.K)) := by
  obtain ⟨fd, F, b⟩ := ok_Thing_eq (P := X.prog) (w := X.w) (base := X.base) T
  obtain ⟨e1, e2⟩ := He.ba T.q_Came
  obtain ⟨e3, e4⟩ := He.ba T.i_Came
  exact op_neI F b hr hk (He.eqO_ok e2) (of_decide_eq_true e4) (He.eqO_ok e1) (He.ba (T.moreI 1 (f := fEqF))).1
theorem op_neRef {X : Cx} {j : Nat} (T : Txt X.K X.mg) (hr : Room j X.A) (hk : 3 ≤ j) : OpR X (compareOp .NotEq) (rNeI (He.ga X.K "Refused") (spSme X.K)) := by
  obtain ⟨fd, F, b⟩ := ok_Thing_eq (P := X.prog) (w := X.w) (base := X.base) T
  obtain ⟨e1, e2⟩ := He.ba T.q_Refused
  obtain ⟨e3, e4⟩ := He.ba T.i_Refused
  exact op_neI F b hr hk (He.eqO_ok e2) (of_decide_eq_true e4) (He.eqO_ok e1) (He.ba (T.moreI 1 (f := fEqF))).1
/-! locks -/
theorem unlock {H Hi : Hp} {d : Addr} {u : HO} {od : Obj} (h : H d = some u) (s : Same (upd H d (.frz od u)) Hi) : Same H (upd Hi d u) := fun b o e => by
  by_cases c : b = d
  · subst c
    rw [h] at e
    cases e
    exact upd_same
  · rw [upd_ne c]
    exact s _ _ (by rw [upd_ne c]; exact e)
theorem fx_upd {H : Hp} {d : Addr} {o : HO} {kvs : List (Key × V)} (h : H d = some (.dK kvs)) : Fx H (upd H d o) :=
  ⟨fun b C dx fs e => upd_at e (fun z => by subst z; rw [h] at e; cases e), fun b xs e => upd_at e (fun z => by subst z; rw [h] at e; cases e)⟩
/-! texts of paths -/
theorem orN_some (l : List Nat) : ∃ c r, orN l = c :: r ∧ r.length ≤ l.length ∧ (∀ k, some k ∈ c :: r → k ∈ l) ∧ (c :: r).filterMap id = l ∧ ((c :: r).getLastD none = none ↔ l = []) := by
  cases l with
  | nil => exact ⟨none, [], rfl, Nat.le_refl _, fun k h => by simp at h, rfl, by simp⟩
  | cons a l =>
    refine ⟨some a, l.map some, rfl, by simp, fun k h => by simpa using h, orN_ks (a :: l), ?_⟩
    have : (some a :: l.map some).getLastD none = ((a :: l).map some).getLastD none := rfl
    rw [this]
    obtain ⟨l0, x, e⟩ : ∃ l0 x, a :: l = l0 ++ [x] := ⟨_, _, (List.dropLast_concat_getLast (l := a :: l) (by simp)).symm⟩
    rw [e]
    simp
theorem read_up {l : List Nat} (h4 : ∀ k ∈ l, k < 4) (hl : l.length ≤ 80) : ∃ c r, [V.str (up l)] = [V.str (ptx (none :: c :: r))] ∧ (∀ k, some k ∈ c :: r → k < 4) ∧ r.length ≤ 90 ∧ ∀ {K : Frag} {H : Hp} {x : Addr}, PPath K H x ((c :: r).filterMap id) (decide ((c :: r).getLastD none = none)) → PPath K H x l (decide (l = [])) := by
  obtain ⟨c, r, e1, e2, e3, e4, e5⟩ := orN_some l
  refine ⟨c, r, by show [V.str (ptx (none :: orN l))] = _; rw [e1], fun k hk => h4 k (e3 k hk), by omega, fun {K H p} hp => ?_⟩
  rw [e4] at hp
  rw [show decide ((c :: r).getLastD none = none) = decide (l = []) from decide_eq_decide.mpr e5] at hp
  exact hp
theorem read_upE {l : List Nat} {k : Nat} (h4 : ∀ k ∈ l, k < 4) (hk : k < 4) (hl : l.length ≤ 80) : ∃ c r, [V.str (up l ++ "/" ++ nm k)] = [V.str (ptx (none :: c :: r))] ∧ (∀ k, some k ∈ c :: r → k < 4) ∧ r.length ≤ 90 ∧ ∀ {K : Frag} {H : Hp} {x : Addr}, PPath K H x ((c :: r).filterMap id) (decide ((c :: r).getLastD none = none)) → PPath K H x (l ++ [k]) (decide (l ++ [k] = [])) := by
  obtain ⟨c, r, e1, e2, e3, e4, e5⟩ := orN_some l
  have e0 : up l ++ "/" ++ nm k = ptx (none :: c :: (r ++ [some k])) := by
    unfold up
    rw [ptx_snoc _ _ (by simp), e1]
    rfl
  have ef : (c :: (r ++ [some k])).filterMap id = l ++ [k] := by
    rw [← List.cons_append, List.filterMap_append, e4]
    rfl
  refine ⟨c, r ++ [some k], by rw [e0], fun j hj => ?_, by rw [List.length_append, List.length_singleton]; omega, fun {K H p} hp => ?_⟩
  · rw [← List.cons_append] at hj
    rcases List.mem_append.mp hj with h | h
    · exact h4 j (e3 j h)
    · have : j = k := by simpa using h
      omega
  · rw [ef] at hp
    rw [show decide (l ++ [k] = []) = decide ((c :: (r ++ [some k])).getLastD none = none) from decide_eq_decide.mpr (by
      have e : (c :: (r ++ [some k])).getLastD none = some k := by rw [← List.cons_append, List.getLastD_eq_getLast?, List.getLast?_concat]; rfl
      rw [e]
      simp)]
    exact hp
theorem up_len (l : List Nat) : (up l).length ≤ 4 * l.length + 8 := by
  unfold up
  have h1 := ptx_len (none :: orN l)
  have h2 := orN_len l
  rw [List.length_cons] at h1
  omega
section
variable {P : Program} {w : World} {K : Frag} {mg : Str → Option Value} {base : Heap}
def spLStill (K : Frag) : Sp := fun vs H Q _ => ∃ (a b : Addr) (t : Tr), vs = [.ref a, .ref b] ∧ LTree H a t ∧ PTree K H b t ∧ WF t ∧ t.length ≤ 13 ∧ ∀ H', Same H H' → Q (.bl true) H'
theorem sc_Lstill_right : FnScope ["_law_nodes", "_law_tree_here", "_law_look", "_law_node", "_law_place", "_law_due", "_law_rows", "_law_text", "_law_name", "_law_at"] ["_law_nodes", "_law_tree_here"] (defScope s_Lstill_right) := ⟨rfl, rfl, rfl, by decide +kernel, rfl, by decide +kernel, by decide +kernel⟩
theorem ok_Lstill_right (T : Txt K mg) : Cal P w K mg base 16 "_law_still_right" (spLStill K) [] := by
  refine cal T.f_Lstill_right T.g_Lstill_right sc_Lstill_right (fun _ _ _ _ _ _ us hl => match us, hl with | [_, _], _ => rfl) (fun vs H Q E h => ?_) (fun cdv A outer s H vs Q E hr h => ?_)
  · obtain ⟨a, b, t, rfl, _⟩ := h
    rfl
  · obtain ⟨a, b, t, rfl, hT, hP, wf, hlen, q⟩ := h
    have nd := sc_Lstill_right.nd
    refine ⟨_, pss_cons (ps_set (i := 2) nd rfl (Or.inl rfl) (C8.pe_mk (mk_Look T) hr (by decide) rfl (pa_cons pe_bl (pa_cons pe_bl (pa_cons pe_non pa_nil)))))
      (pss_cons (ps_for PassesOwn.never rfl (pi_list (pe_lc (own := [("_law_at", 9), ("_law_node", 3)]) (g := gTup K 2 (gCons (gName 9) (gCons (gName 3) gNil))) (tt := tTest (tOp rEq (tOp (rIxL K) (tVar 3) (tC (.int 0))) (tC (.str "folder")))) rfl nd (pi_enum (by rfl) T.n_enumerate (pa_cons (pv 0) pa_nil)) (blkOk_by (N := ["_law_nodes", "_law_tree_here", "_law_look", "_law_node", "_law_place", "_law_due", "_law_rows", "_law_text", "_law_name", "_law_at"]) (sc := defScope s_Lstill_right) (by decide +kernel))
            (fun _ _ _ _ _ => pg_tup rfl (pgs_cons (pg_name (i := 9) nd rfl (Or.inl rfl)) (pgs_cons (pg_name (i := 3) nd rfl (Or.inl rfl)) pgs_nil))) (fun _ _ _ _ _ => pts_one (pt_cmpR op_eq (pe_ix (ixL (K := K)) (pv 3) pe_int (fun _ _ => rfl)) pe_str (nomark _))) (fun _ _ _ _ _ => pv 9))) (pg_name (i := 4) nd rfl (Or.inl rfl))
        (pss_cons (ps_set (i := 5) nd rfl (Or.inl rfl) (C8.pe_c (ok_LbelowA T 13) hr (by decide) rfl (pa_cons (pv 0) (pa_cons (pv 4) pa_nil))))
        (pss_cons (ps_if (pt_cmpR (op_neD hr.units) (C8.pe_c (ok_listings T) hr (by decide) rfl (pa_cons (pv 1) (pa_cons (pe_lst pa_nil) (pa_cons (pv 4) pa_nil)))) (pe_lst (pa_cons (pe_tup (pa_cons (pv 5) (pa_cons pe_int pa_nil))) pa_nil)) (nomark _)) pss_never pss_nil)
        (pss_cons (ps_set (i := 6) nd rfl (Or.inl rfl) (C8.pe_c (ok_climbs T) hr (by decide) rfl (pa_cons (pv 1) (pa_cons (pe_lst pa_nil) (pa_cons (pv 4) pa_nil)))))
        (pss_cons (ps_if (PW.pt (pw_or (pt_cmpR op_ne (pe_callB call_len_seq (by rfl) T.n_len PySem.boot_len (pa_cons (pv 6) pa_nil)) pe_int (nomark _))
            (pw_or (pt_cmpR (op_neD hr.units) (pe_slice sl_tup (pe_ix (r := rIxL K) ix_list (pv 6) pe_int (fun _ _ => rfl)) (po_some pe_int) po_none) (pe_tup (pa_cons pe_int (pa_cons pe_bl pa_nil))) (nomark _))
            (pw_or1 (pt_cmpR op_ne (C8.pe_c (ok_path_text T) hr (by decide) rfl (pa_cons (C8.pe_c (ok_read_path T) hr (by decide) rfl (pa_cons (pe_ix ix_tup (pe_ix (r := rIxL K) ix_list (pv 6) pe_int (fun _ _ => rfl)) pe_int (fun _ _ => rfl)) pa_nil)) pa_nil)) (pe_ix ix_tup (pe_ix (r := rIxL K) ix_list (pv 6) pe_int (fun _ _ => rfl)) pe_int (fun _ _ => rfl)) (nomark _)))))) pss_never pss_nil)
        (pss_cons (ps_set (i := 7) nd rfl (Or.inl rfl) (pe_ix ix_tup (pe_ix (r := rIxL K) ix_list (pv 6) pe_int (fun _ _ => rfl)) pe_int (fun _ _ => rfl)))
        (pss_cons (ps_if (pt_cmpR (op_neCame T hr (by decide)) (C8.pe_c (ok_walk T) hr (by decide) rfl (pa_cons (pv 1) (pa_cons pe_int (pa_cons (C8.pe_c (ok_read_path T) hr (by decide) rfl (pa_cons (pv 7) pa_nil)) (pa_cons (pv 2) pa_nil))))) (C8.pe_mk (mk_Came T) hr (by decide) rfl (pa_cons (pv 4) pa_nil)) (nomark _)) pss_never pss_nil)
        (pss_one (ps_lock (ps_for PassesOwn.never rfl (pi_items (pe_ix (r := rIxL K) ix_list (pe_ix (r := rIxL K) ix_list (pv 0) (pv 4) (fun _ _ => rfl)) pe_int (fun _ _ => rfl))) (pg_tup rfl (pgs_cons (pg_name (i := 8) nd rfl (Or.inl rfl)) (pgs_cons (pg_name (i := 3) nd rfl (Or.inl rfl)) pgs_nil)))
          (pss_one (ps_if (pt_cmpR (op_neCame T hr (by decide)) (C8.pe_c (ok_walk T) hr (by decide) rfl (pa_cons (pv 1) (pa_cons (pv 4) (pa_cons (C8.pe_c (ok_read_path T) hr (by decide) rfl (pa_cons (pe_op op_add_str (pe_op op_add_str (pv 7) pe_str) (pv 8)) pa_nil)) (pa_cons (pv 2) pa_nil))))) (C8.pe_mk (mk_Came T) hr (by decide) rfl (pa_cons (pv 3) pa_nil)) (nomark _)) pss_never pss_nil))))))))))))
      (pss_one (ps_ret pe_bl))), ?_⟩
    refine fun lk dlk nlk ndlk nelk => ⟨(), _, lk, dlk, rfl, rfl, nlk, ndlk, nelk, True.intro, fun H1 s1 hLk => ⟨rfl, ?_⟩⟩
    have hT1 := hT.same s1
    have hP1 := hP.gx (sgx s1)
    have hl1000 : t.length ≤ 1000 := by omega
    obtain ⟨rs, g1, w2, w3⟩ := id hT1
    refine ⟨_, rfl, a, _, rfl, SqL.of g1, fun D2 nD2 => lc_fns nD2 g1 w3 hl1000 (fun H' T1 n rr ndd RR hT1 hrow k => ?_) (fun H3 s3 hD3 => ?_)⟩
    · obtain ⟨oi, xi, hki⟩ := hrow.kind
      refine ⟨T1, _, rfl, SqT.of hT1, rfl, _, _, rfl, _, _, rfl, rfl, k _ rfl (fun Q2 q2 => ⟨_, rfl, rr, _, _, _, rfl, rfl, SqL.of hki, atI_nat (j := 0) rfl, rfl, ?_⟩) (fun Q3 q3 => ⟨_, rfl, q3⟩)⟩
      rw [kind_fol]
      exact ⟨_, rfl, q2⟩
    have s03 := s1.trans s3
    refine ⟨D2, rfl, ⟨_, SqL.of hD3⟩, for_it walk_list (fun i σ Hi => Same H3 Hi ∧ ∃ x3 x4 x5 x6 x7 x8, σ = [some (.ref a), some (.ref b), some (.ref lk), x3, x4, x5, x6, x7, x8, none]) ⟨Same.refl _, _, _, _, _, _, _, rfl⟩ (fun i σ Hi _ h => SqL.of (h.1 _ _ hD3)) (fun i x σ Hx Hi hi hI hy => ?_) (fun σ Hi hI => ?_)⟩
    · obtain ⟨sm, x3, x4, x5, x6, x7, x8, rfl⟩ := hI
      obtain ⟨rfl, hx⟩ := hy
      obtain ⟨f, hf, rfl⟩ := List.mem_map.mp (List.mem_of_getElem? hx)
      have hF := mem_fns.mp hf
      have hfl := isF_lt hF
      have s0i := s03.trans sm
      obtain ⟨l, hway, hll⟩ := wf.way hF
      have h4 := hway.k4 wf
      have hl80 : l.length ≤ 80 := by omega
      obtain ⟨rc, rr, ru1, ru2, ru3, ru4⟩ := read_up h4 hl80
      have hisP : isP t f = true := by unfold isP; rw [hF]; rfl
      have hisP0 : isP t 0 = true := by unfold isP; rw [wf.root]; rfl
      have hbl : (below t f).length ≤ 1000000 := by
        have := below_len wf hfl
        omega
      refine ⟨_, rfl, _, rfl, a, t, f, rfl, hT.same s0i, wf, hfl, hlen, hbl, fun D5 H5 s5 nD5 hD5 => ?_⟩
      have s05 := s0i.trans s5
      refine ⟨_, rfl, (by show 0 ≤ sizeLine; decide), fun E6 nE6 => ⟨_, rfl, b, E6, t, [], [], f, 1, 1000000, rfl, ⟨.one t wf, fun x hx => by rw [List.mem_singleton.mp hx]; exact hl1000, by decide⟩, hP.gx (sgx (s05.trans (same_new nE6))), ⟨[], SqL.of upd_same, .nil⟩, hisP, lst_still wf hl1000 hisP hfl, by decide, Nat.le_refl _, fun r7 H7 us Dc s7 hr7 hPr _ hpos hsum hcov => ?_⟩⟩
      have eD := cnt_single hpos hsum (hcov _ (rc_below wf f))
      subst eD
      obtain ⟨u7, rfl⟩ : ∃ u, us = [u] := by
        cases hPr with
        | cons _ hn => cases hn; exact ⟨_, rfl⟩
      obtain ⟨L7, hu7, hL7⟩ : RPair H7 u7 (below t f, 1) := by
        cases hPr with
        | cons h _ => exact h
      have s57 := (same_new (o := .lst []) nE6).trans s7
      have s07 := s05.trans s57
      have hD7 := s57 _ _ hD5
      refine ⟨_, rfl, (by show 2 ≤ sizeLine; decide), fun T8 nT8 => ⟨(by show 1 ≤ sizeLine; decide), fun L9 nL9 => ?_⟩⟩
      have s78 := same_new (o := .tup [.ref D5, .int 1]) nT8
      have s79 := s78.trans (same_new (o := .lst [.ref T8]) nL9)
      have hT9 : upd (upd H7 T8 (.tup [.ref D5, .int 1])) L9 (.lst [.ref T8]) T8 = some (.tup [.ref D5, .int 1]) := upd_at upd_same (ne_of_none upd_same nL9)
      have hL9 : upd (upd H7 T8 (.tup [.ref D5, .int 1])) L9 (.lst [.ref T8]) L9 = some (.lst [.ref T8]) := upd_same
      generalize upd (upd H7 T8 (.tup [.ref D5, .int 1])) L9 (.lst [.ref T8]) = H9 at s79 hT9 hL9
      refine ⟨dOne (below t f), dOne (below t f), .lst (SqL.of (s79 _ _ hr7)) (.cons (.tup (SqT.of (s79 _ _ hu7)) (.cons (dI_at (SqL.of (s79 _ _ hL7))) (.cons (.int _) .nil))) .nil), .lst (SqL.of hL9) (.cons (.tup (SqT.of hT9) (.cons (dI_at (SqL.of (s79 _ _ hD7))) (.cons (.int _) .nil))) .nil), dOne_shp _, dOne_shp _, false, (by rw [dOne_refl]; rfl), iteF ?_⟩
      have s09 := s07.trans s79
      refine ⟨_, rfl, (by show 0 ≤ sizeLine; decide), fun E10 nE10 => ⟨_, rfl, b, E10, t, f, l, rfl, hP.gx (sgx (s09.trans (same_new nE10))), wf, hl1000, upd_same, hway, fun r11 u11 H11 s11 hr11 hu11 => ?_⟩⟩
      have s0b := (s09.trans (same_new (o := .lst []) nE10)).trans s11
      have hLkb := hLk.same ((s3.trans sm).trans (s5.trans (s57.trans (s79.trans ((same_new (o := .lst []) nE10).trans s11)))))
      refine ⟨_, rfl, r11, _, rfl, .inl (SqL.of hr11), rfl, false, by simp, iteF ?_⟩
      have hnw : ¬ (HT.sIx ([V.str (up l), V.int 1, V.bl true]).length 0 (some 1) = 0 ∧ HT.sIx ([V.str (up l), V.int 1, V.bl true]).length ([V.str (up l), V.int 1, V.bl true]).length none = ([V.str (up l), V.int 1, V.bl true]).length) := fun z => by
        have z1 := z.1
        rw [show (1 : Int) = ((1 : Nat) : Int) from rfl, HT.sIx_nat] at z1
        simp at z1
      refine ⟨_, rfl, r11, _, _, _, rfl, rfl, SqL.of hr11, atI_nat (j := 0) rfl, 1, rfl, u11, _, rfl, SqT.of hu11, hnw, fun T12 nT12 => ⟨(by show 2 ≤ sizeLine; decide), fun T13 nT13 => ?_⟩⟩
      rw [show cutV [V.str (up l), V.int 1, V.bl true] (some (1 : Int)) none = [V.int 1, V.bl true] from (cut_from _ 1).trans rfl] at nT13 ⊢
      have sbd := (same_new (o := .tup [.int 1, .bl true]) nT12).trans (same_new (o := .tup [.int 1, .bl true]) nT13)
      have hT12 : upd (upd H11 T12 (.tup [.int 1, .bl true])) T13 (.tup [.int 1, .bl true]) T12 = some (.tup [.int 1, .bl true]) := upd_at upd_same (ne_of_none upd_same nT13)
      have hT13 : upd (upd H11 T12 (.tup [.int 1, .bl true])) T13 (.tup [.int 1, .bl true]) T13 = some (.tup [.int 1, .bl true]) := upd_same
      generalize upd (upd H11 T12 (.tup [.int 1, .bl true])) T13 (.tup [.int 1, .bl true]) = H13 at sbd hT12 hT13
      refine ⟨.tuple [.int 1, .bool true], .tuple [.int 1, .bool true], .tup (SqT.of hT12) (.cons (.int _) (.cons (.bl _) .nil)), .tup (SqT.of hT13) (.cons (.int _) (.cons (.bl _) .nil)), (by decide +kernel), (by decide +kernel), false, congrArg V.bl (by simp [PyData.eqv, PyData.eqvAll]), iteF ?_⟩
      have hr13 := sbd _ _ hr11
      have hu13 := sbd _ _ hu11
      have s0d := s0b.trans sbd
      refine ⟨_, rfl, r11, _, _, _, rfl, rfl, SqL.of hr13, atI_nat (j := 0) rfl, u11, _, _, _, rfl, rfl, SqT.of hu13, atI_nat (j := 0) rfl, rc, rr, ru1, ru2, ru3, fun r14 H14 s14 hp14 => ⟨r14, l, rfl, ru4 hp14, by omega, fun H15 s15 => ⟨_, rfl, r11, _, _, _, rfl, rfl, SqL.of ((s14.trans s15) _ _ hr13), atI_nat (j := 0) rfl, u11, _, _, _, rfl, rfl, SqT.of ((s14.trans s15) _ _ hu13), atI_nat (j := 0) rfl, rfl, false, by simp, iteF ?_⟩⟩⟩
      have sdf := s14.trans s15
      have s0f := s0d.trans sdf
      refine ⟨_, rfl, r11, _, _, _, rfl, rfl, SqL.of (sdf _ _ hr13), atI_nat (j := 0) rfl, u11, _, _, _, rfl, rfl, SqT.of (sdf _ _ hu13), atI_nat (j := 0) rfl, ?_⟩
      have hLkf := hLkb.same (sbd.trans sdf)
      refine ⟨_, rfl, _, rfl, rc, rr, ru1, ru2, ru3, fun x16 H16 s16 hp16 => ⟨_, rfl, b, x16, lk, t, 0, f, l, rfl, hP.gx (sgx (s0f.trans s16)), wf, hisP0, ru4 hp16, hLkf.same s16, hway.goT wf, fun r17 H17 s17 h17 => ⟨_, rfl, fun x dx nx ndx ne => ⟨.int (f : Nat), _, x, dx, rfl, rfl, nx, ndx, ne, True.intro, fun H18 s18 hC => ⟨rfl, ?_⟩⟩⟩⟩⟩
      obtain ⟨d17, e17⟩ := h17.same s18
      obtain ⟨d18, e18⟩ := id hC
      refine ⟨r17, _, _, x, _, _, rfl, rfl, e17, e18, r17, x, rfl, .came ⟨_, e17⟩ ⟨_, e18⟩, fun H19 s19 => ⟨true, rfl, _, rfl, iteF ?_⟩⟩
      have sfj := s16.trans (s17.trans (s18.trans s19))
      have s0j := s0f.trans sfj
      have s3j := ((sm.trans s5).trans (s57.trans s79)).trans (((same_new (o := .lst []) nE10).trans s11).trans ((sbd.trans sdf).trans sfj))
      obtain ⟨o, htf⟩ := isF_fol hF
      obtain ⟨rsj, rj, z1, z2, z3, hrowj⟩ := (hT.same s0j).at' htf
      obtain ⟨d, kvs, k1, k2, k3⟩ := hrowj
      obtain ⟨es, pes, rfl⟩ := perm_vals k3
      refine ⟨d, _, k2, True.intro, fun od => ?_⟩
      have naj : ∀ {y : Addr} {xs : List V} {o : HO}, H19 y = some (.lst xs) → upd H19 d o y = some (.lst xs) := fun e => upd_at e (fun z => by subst z; rw [k2] at e; cases e)
      refine ⟨_, rfl, _, rfl, a, _, _, _, rfl, rfl, SqL.of (naj z1), z3, rj, _, _, _, rfl, rfl, SqL.of (naj k1), atI_nat (j := 2) rfl, d, od, dkv es, rfl, upd_same, ?_⟩
      have fl := fx_upd (o := .frz od (.dK (dkv es))) k2
      have hPl := (hP.gx (sgx s0j)).fx fl
      have hLkl : PLook K (upd H19 d (.frz od (.dK (dkv es)))) lk := let ⟨dd, e⟩ := hLkf.same sfj; ⟨dd, fl.1 _ _ _ _ e⟩
      have hdl : upd H19 d (.frz od (.dK (dkv es))) d = some (.frz od (.dK (dkv es))) := upd_same
      have ul : ∀ Hi, Same (upd H19 d (.frz od (.dK (dkv es)))) Hi → Same H19 (upd Hi d (.dK (dkv es))) := fun Hi s => unlock k2 s
      generalize upd H19 d (.frz od (.dK (dkv es))) = Hl at hPl hLkl hdl ul
      refine for_it walk_items (fun j σ Hj => Same Hl Hj ∧ ∃ x3 x8, σ = [some (.ref a), some (.ref b), some (.ref lk), x3, some (.int (f : Nat)), some (.ref D5), some (.ref r11), some (.str (up l)), x8, none]) ⟨Same.refl _, _, _, rfl⟩ (fun j σ Hj _ h => h.1 _ _ hdl) (fun j x σ Hx Hj hj hJ hy => ?_) (fun σ Hj hJ => ?_)
      · obtain ⟨sl, x3, x8, rfl⟩ := hJ
        obtain ⟨T20, xx, yy, rfl, nT, rfl, ex, ey⟩ := hy
        have hj' : j < es.length := by
          have : (dkv es).length = es.length := List.length_map _
          omega
        have hej := List.getElem?_eq_getElem hj'
        have hem := List.getElem_mem hj'
        generalize es[j] = e at hej hem
        have hkv : (dkv es)[j]? = some (Sum.inr (nm e.1), V.int (e.2 : Nat)) := by
          unfold dkv
          rw [List.getElem?_map, hej]
          rfl
        dsimp only at ex ey
        rw [hkv] at ex ey
        cases ex
        cases ey
        have hent : (e.1, e.2) ∈ ents t f := pes.mem_iff.mp hem
        have hk4 := (wf.ent f e.1 e.2 hent).1
        obtain ⟨ec, er, ee1, ee2, ee3, ee4⟩ := read_upE h4 hk4 hl80
        have s21 := same_new (o := .tup [kV (Sum.inr (nm e.1)), .int (e.2 : Nat)]) nT
        have hT20 : upd Hx T20 (.tup [kV (Sum.inr (nm e.1)), .int (e.2 : Nat)]) T20 = some (.tup [.str (nm e.1), .int (e.2 : Nat)]) := upd_same
        generalize upd Hx T20 (.tup [kV (Sum.inr (nm e.1)), .int (e.2 : Nat)]) = H21 at s21 hT20
        have sl1 := sl.trans s21
        refine ⟨T20, _, rfl, SqT.of hT20, rfl, _, _, rfl, _, _, rfl, rfl, ?_⟩
        refine ⟨_, rfl, _, rfl, _, rfl, _, _, rfl, rfl, ?_, _, rfl, _, _, rfl, rfl, ?_, ec, er, ee1, ee2, ee3, fun x22 H22 s22 hp22 => ⟨_, rfl, b, x22, lk, t, f, e.2, l ++ [e.1], rfl, hPl.gx (sgx (sl1.trans s22)), wf, hisP, ee4 hp22, hLkl.same (sl1.trans s22), hway.goE wf hent, fun r23 H23 s23 h23 => ⟨_, rfl, fun x dx nx ndx ne => ⟨.int (e.2 : Nat), _, x, dx, rfl, rfl, nx, ndx, ne, True.intro, fun H24 s24 hC => ⟨rfl, ?_⟩⟩⟩⟩⟩
        · have := up_len l
          have e1 : ("/" : Str).length = 1 := by decide +kernel
          rw [e1]
          exact Nat.le_trans (show (up l).length + 1 ≤ 1000 by omega) (by decide)
        · have h1 := up_len l
          have h2 : (nm e.1).length ≤ 3 := by have := nm_le e.1; rw [← SX.S_tl (nm e.1), SX.S_len]; exact this
          have h3 : (up l ++ "/" : Str).length = (up l).length + ("/" : Str).length := str_len _ _
          have e1 : ("/" : Str).length = 1 := by decide +kernel
          rw [h3, e1]
          exact Nat.le_trans (show (up l).length + 1 + (nm e.1).length ≤ 1000 by omega) (by decide)
        obtain ⟨d23, e23⟩ := h23.same s24
        obtain ⟨d24, e24⟩ := id hC
        exact ⟨r23, _, _, x, _, _, rfl, rfl, e23, e24, r23, x, rfl, .came ⟨_, e23⟩ ⟨_, e24⟩, fun H25 s25 => ⟨true, rfl, _, rfl, iteF ⟨sl1.trans (s22.trans (s23.trans (s24.trans s25))), _, _, rfl⟩⟩⟩
      · obtain ⟨sl, x3', x8', rfl⟩ := hJ
        exact ⟨sl _ _ hdl, s3j.trans (ul _ sl), _, _, _, _, _, _, rfl⟩
    · exact q Hi (s03.trans hI.1)
end
end NW
set_option Elab.async false
set_option linter.all false
set_option maxRecDepth 100000
set_option maxHeartbeats 1000000
/-! W46: the law's moments_right. -/
namespace NW
open PySem PySem.Spec PyProof.Rows L2
theorem flat_rep (n : Nat) (v : V) : (List.replicate n [v]).flatten = List.replicate n v := by
  induction n with
  | zero => rfl
  | succ n ih => rw [List.replicate_succ, List.flatten_cons, ih]; rfl
theorem natV_rep (n x : Nat) : natV (List.replicate n x) = List.replicate n (V.int (x : Nat)) := List.map_replicate
theorem rep_nat (n x : Nat) : (List.replicate (Int.toNat ((n : Nat) : Int)) [V.int (x : Nat)]).flatten = natV (List.replicate n x) := by rw [Int.toNat_natCast, flat_rep, natV_rep]
theorem cntF_le {t : Tr} (w : WF t) {n : Nat} (hn : n < t.length) : 1 + cntF t (below t n) ≤ t.length := sz_le w hn
theorem blw_lt {t : Tr} (w : WF t) : ∀ (m n c : Nat), c ∈ blw t m n → c < t.length
  | 0, n, c, h => by cases h
  | m + 1, n, c, h => by
    obtain ⟨x, hx, hc⟩ := List.mem_flatMap.mp h
    obtain ⟨k, hk⟩ := kid_ent hx
    rcases List.mem_cons.mp hc with rfl | hc
    · exact (w.ent n k c hk).2.2.1
    · exact blw_lt w m x c hc
theorem below_lt {t : Tr} (w : WF t) {n c : Nat} (h : c ∈ below t n) : c < t.length := blw_lt w _ n c h
section
variable {P : Program} {w : World} {K : Frag} {mg : Str → Option Value} {base : Heap}
def spLMom (K : Frag) : Sp := fun vs H Q _ => ∃ (S a b : Addr) (t : Tr) (ts : List Tr) (ds : List Dd) (pl : Nat), vs = [.ref S, .ref a, .ref b, .int pl] ∧ LShp H S (t :: ts) ∧ PTree K H a t ∧ PDeeds K H b ds ∧ Row (t :: ts) ds ∧ (∀ u ∈ t :: ts, u.length ≤ 13) ∧ ds.length ≤ 100 ∧ isF t pl = true ∧ ∀ H', Same H H' → Q (.bl true) H'
theorem sc_Lmom : FnScope ["_law_shapes", "_law_tree_here", "_law_deeds", "_law_place", "_law_every", "_law_time", "_law_nodes", "_law_due", "_law_deep", "_law_here", "_law_looks", "_law_told", "_law_node"] ["_law_shapes", "_law_tree_here", "_law_deeds", "_law_place"] (defScope s_Lmoments_right) := ⟨rfl, rfl, rfl, by decide +kernel, rfl, by decide +kernel, by decide +kernel⟩
theorem ok_Lmom (T : Txt K mg) : Cal P w K mg base 16 "_law_moments_right" (spLMom K) [] := by
  refine cal T.f_Lmoments_right T.g_Lmoments_right sc_Lmom (fun _ _ _ _ _ _ us hl => match us, hl with | [_, _, _, _], _ => rfl) (fun vs H Q E h => ?_) (fun cdv A outer s H vs Q E hr h => ?_)
  · obtain ⟨S, a, b, t, ts, ds, pl, rfl, _⟩ := h
    rfl
  · obtain ⟨S, a, b, t, ts, ds, pl, rfl, hS, hP, hD, hRow, hB, hds, hF0, q⟩ := h
    have nd := sc_Lmom.nd
    refine ⟨_, pss_cons (ps_set (i := 4) nd rfl (Or.inl rfl) (C8.pe_c (ok_trees T) hr (by decide) rfl (pa_cons (pv 1) (pa_cons (pv 2) pa_nil))))
      (pss_cons (ps_for PassesOwn.never rfl (pi_enum (by rfl) T.n_enumerate (pa_cons (pv 0) pa_nil)) (pg_tup rfl (pgs_cons (pg_name (i := 5) nd rfl (Or.inl rfl)) (pgs_cons (pg_name (i := 6) nd rfl (Or.inr rfl)) pgs_nil)))
        (pss_cons (ps_par3 (i := 7) (j := 8) (l := 9) rfl nd rfl rfl rfl (by decide) (by decide) (by decide) rfl rfl rfl (pa_cons (C8.pe_c (ok_LbelowA T 13) hr (by decide) rfl (pa_cons (pv 6) (pa_cons (pv 3) pa_nil))) (pa_cons pe_int (pa_cons (pv 3) pa_nil))) (by rfl))
        (C8.pss_cut (ps_while PassesOwn.never (PW.pt (pw_and (pt_cmpR op_ne (pv 9) pe_int (nomark _)) (pw_and1 (pt_cmpR op_eq (pe_ix (r := rIxL K) ix_list (pe_ix (r := rIxL K) ix_list (pv 6) (pv 9) (fun _ _ => rfl)) pe_int (fun _ _ => rfl)) pe_str (nomark _)))))
          (pss_one (ps_par (i := 9) (j := 8) rfl nd rfl rfl (by decide) rfl rfl (pa_cons (C8.pe_c (ok_above T) hr (by decide) rfl (pa_cons (pe_ix (r := rIxL K) ix_list (pv 4) (pv 5) (fun _ _ => rfl)) (pa_cons (pv 9) pa_nil))) (pa_cons (pe_op op_add (pv 8) pe_int) pa_nil)) (by rfl))))
        (pss_cons (ps_set (i := 8) nd rfl (Or.inl rfl) (pe_op op_add (pv 8) (pe_callTy call_int1 (by rfl) T.n_int (by decide +kernel) (pa_cons (pe_cmpR op_eq (pe_ix (r := rIxL K) ix_list (pe_ix (r := rIxL K) ix_list (pv 6) (pv 3) (fun _ _ => rfl)) pe_int (fun _ _ => rfl)) pe_str (nomark _)) pa_nil))))
        (pss_cons (ps_set (i := 10) nd rfl (Or.inl rfl) (pe_op op_add pe_int (pe_callB call_len_seq (by rfl) T.n_len PySem.boot_len (pa_cons
            (pe_lc (own := [("_law_node", 12)]) (g := gName 12) (tt := tTest (tOp rEq (tOp (rIxL K) (tOp (rIxL K) (tVar 6) (tVar 12)) (tC (.int 0))) (tC (.str "folder")))) rfl nd (pi_list (pv 7)) (blkOk_by (N := ["_law_shapes", "_law_tree_here", "_law_deeds", "_law_place", "_law_every", "_law_time", "_law_nodes", "_law_due", "_law_deep", "_law_here", "_law_looks", "_law_told", "_law_node"]) (sc := defScope s_Lmoments_right) (by decide +kernel))
              (fun _ _ _ _ _ => pg_name (i := 12) nd rfl (Or.inl rfl)) (fun _ _ _ _ _ => pts_one (pt_cmpR op_eq (pe_ix (ixL (K := K)) (pe_ix (ixL (K := K)) (pv 6) (pv 12) (fun _ _ => rfl)) pe_int (fun _ _ => rfl)) pe_str (nomark _))) (fun _ _ _ _ _ => pv 12)) pa_nil))))
        (pss_cons (ps_if (PW.pt (pw_or (pt_cmpR (op_neD hr.units) (C8.pe_c (ok_listing T) hr (by decide) rfl (pa_cons (pv 1) (pa_cons (pv 2) (pa_cons (pv 3) (pa_cons (pe_op op_rep (pe_lst (pa_cons (pv 5) pa_nil)) (pv 10)) pa_nil))))) (pv 7) (nomark _))
            (pw_or1 (pt_cmpR (op_neD hr.units) (C8.pe_c (ok_listing T) hr (by decide) rfl (pa_cons (pe_ix (r := rIxL K) ix_list (pv 4) (pv 5) (fun _ _ => rfl)) (pa_cons (pe_lst pa_nil) (pa_cons (pv 3) (pa_cons (pe_op ST.op_repA (pe_tup (pa_cons pe_int pa_nil)) (pv 10)) pa_nil))))) (pv 7) (nomark _))))) pss_never pss_nil)
        (pss_cons (ps_set (i := 11) nd rfl (Or.inl rfl) (C8.pe_c (ok_climb T) hr (by decide) rfl (pa_cons (pv 1) (pa_cons (pv 2) (pa_cons (pv 3) (pa_cons (pe_op op_rep (pe_lst (pa_cons (pv 5) pa_nil)) (pv 8)) pa_nil))))))
        (pss_cons (ps_if (pt_cmpR (op_alt op_ne (op_neRef T hr (by decide))) (pv 11) (C8.pe_c (ok_climb T) hr (by decide) rfl (pa_cons (pe_ix (r := rIxL K) ix_list (pv 4) (pv 5) (fun _ _ => rfl)) (pa_cons (pe_lst pa_nil) (pa_cons (pv 3) (pa_cons (pe_op op_rep (pe_lst (pa_cons pe_int pa_nil)) (pv 8)) pa_nil))))) (nomark _)) pss_never pss_nil)
        (pss_one (ps_if (pt_cmpR op_ne (pe_callB call_isi (by rfl) T.n_isinstance (by decide +kernel) (pa_cons (pv 11) (pa_cons (pcls T.g_Refused) pa_nil))) (pe_cmpR op_eq (pe_ix (r := rIxL K) ix_list (pe_ix (r := rIxL K) ix_list (pv 6) (pv 3) (fun _ _ => rfl)) pe_int (fun _ _ => rfl)) pe_str (nomark _)) (nomark _)) pss_never pss_nil))))))))))
      (pss_one (ps_ret pe_bl))), ?_⟩
    have hl1000 : ∀ u ∈ t :: ts, u.length ≤ 1000 := fun u hu => by have := hB u hu; omega
    have hRok : RowOk (t :: ts) ds := ⟨hRow, hl1000, hds⟩
    have hP0 : isP t pl = true := by unfold isP; rw [hF0]; rfl
    have hpl0 := isF_lt hF0
    refine ⟨_, rfl, _, rfl, a, b, t, ts, ds, rfl, hRok, hP, hD, fun ev H1 s1 nev hev => ?_⟩
    have hS1 := hS.same s1
    obtain ⟨qs, g1, g2⟩ := id hS1
    have lq := Plen g2
    refine ⟨_, rfl, S, _, rfl, SqL.of g1, for_it walk_enum (fun i σ Hi => Same H1 Hi ∧ ∃ x5 x6 x7 x8 x9 x10 x11, σ = [some (.ref S), some (.ref a), some (.ref b), some (.int pl), some (.ref ev), x5, x6, x7, x8, x9, x10, x11, none]) ⟨Same.refl _, _, _, _, _, _, _, _, rfl⟩ (fun i σ Hi _ h => SqL.of (h.1 _ _ g1)) (fun i x σ Hx Hi hi hI hy => ?_) (fun σ Hi hI => ?_)⟩
    · obtain ⟨sm, x5, x6, x7, x8, x9, x10, x11, rfl⟩ := hI
      rw [List.length_map, lq] at hi
      obtain ⟨T2, xx, yy, rfl, nT2, rfl, ex, ey⟩ := hy
      cases ex
      dsimp only at ey
      rw [List.getElem?_map] at ey
      cases hqi : qs[i]? with
      | none => rw [hqi] at ey; cases ey
      | some qi =>
        rw [hqi] at ey
        cases ey
        obtain ⟨u, hu, hqu⟩ := Pget' g2 hqi
        have eu : at_ (t :: ts) i = u := by
          have := at_get hi
          rw [hu] at this
          exact (Option.some.inj this).symm
        have hum := List.mem_of_getElem? hu
        have wu := hRow.wf u hum
        have hul := hB u hum
        have hplu : pl < u.length := by
          have := (hRow.mono (i := 0) (j := i) (Nat.zero_le _) hi).1
          rw [eu] at this
          have : (at_ (t :: ts) 0).length = t.length := rfl
          omega
        have hPu : isP u pl = true := by
          have := (hRow.mono (i := 0) (j := i) (Nat.zero_le _) hi).2.2 pl hpl0
          rw [eu] at this
          rw [this]
          exact hP0
        have s2 := snew (o := .tup [.int (i : Nat), .ref qi]) sm nT2
        have hT2 : upd Hx T2 (.tup [.int (i : Nat), .ref qi]) T2 = some (.tup [.int (i : Nat), .ref qi]) := upd_same
        generalize upd Hx T2 (.tup [.int (i : Nat), .ref qi]) = H2 at s2 hT2
        refine ⟨T2, _, rfl, SqT.of hT2, rfl, _, _, rfl, _, _, rfl, rfl, ?_⟩
        have s02 := s1.trans s2
        have hbl : (below u pl).length ≤ 1000 := by
          have := below_len wu hplu
          omega
        refine ⟨_, rfl, _, rfl, qi, u, pl, rfl, hqu.same s2, wu, hplu, hul, by omega, fun D5 H5 s5 nD5 hD5 => ⟨_, rfl, _, _, _, rfl, ?_⟩⟩
        have s15 := s2.trans s5
        have hq5 := hqu.same s15
        have hev5 := hev.same s15
        obtain ⟨evs, rv, v1, v2, v3⟩ := hev5.at' hi
        rw [eu] at v3
        obtain ⟨l0, hl0⟩ : ∃ l0, isF u pl = true → Way u pl l0 ∧ l0.length < u.length := by
          cases hFu : isF u pl with
          | true => obtain ⟨l, h⟩ := wu.way hFu; exact ⟨l, fun _ => h⟩
          | false => exact ⟨[], fun z => nomatch z⟩
        refine ⟨fun σ' H' => ∃ y dp : Nat, σ' = [some (.ref S), some (.ref a), some (.ref b), some (.int pl), some (.ref ev), some (.int (i : Nat)), some (.ref qi), some (.ref D5), some (.int dp), some (.int y), x10, x11, none] ∧ Same H5 H' ∧ ((isF u pl = true ∧ dp = l0.length) ∨ (isF u pl = false ∧ dp = 0)), ?_, ?_⟩
        · let W : Nat → L2.St → Hp → Prop := fun μ σ' H' => ∃ y dp : Nat, σ' = [some (.ref S), some (.ref a), some (.ref b), some (.int pl), some (.ref ev), some (.int (i : Nat)), some (.ref qi), some (.ref D5), some (.int dp), some (.int y), x10, x11, none] ∧ Same H5 H' ∧ ((isF u pl = true ∧ ∃ l1, Way u y l1 ∧ dp + l1.length = l0.length ∧ μ = l1.length) ∨ (isF u pl = false ∧ y = pl ∧ dp = 0 ∧ μ = 0))
          have w0 : ∃ μ, W μ [some (.ref S), some (.ref a), some (.ref b), some (.int pl), some (.ref ev), some (.int (i : Nat)), some (.ref qi), some (.ref D5), some (.int 0), some (.int pl), x10, x11, none] H5 := by
            cases hFu : isF u pl with
            | true => exact ⟨l0.length, pl, 0, rfl, Same.refl _, .inl ⟨hFu, l0, (hl0 hFu).1, by omega, rfl⟩⟩
            | false => exact ⟨0, pl, 0, rfl, Same.refl _, .inr ⟨hFu, rfl, rfl, rfl⟩⟩
          refine ⟨W, w0, ?_⟩
          rintro μ σ' Hc ⟨y, dp, rfl, sc, hiv⟩
          refine ⟨_, rfl, rfl, _, rfl, ?_⟩
          by_cases c0 : y = 0
          · rw [show (!decide (V.int (y : Nat) = V.int 0)) = false by subst c0; rfl]
            refine iteF ⟨y, dp, rfl, sc, ?_⟩
            rcases hiv with ⟨hFu, l1, hw1, e1, _⟩ | ⟨hFu, ey, _, _⟩
            · refine .inl ⟨hFu, ?_⟩
              subst c0
              have := hw1.dep.uniq wu Dep.root
              omega
            · subst ey
              subst c0
              rw [wu.root] at hFu
              cases hFu
          · rw [show (!decide (V.int (y : Nat) = V.int 0)) = true by
              have : ¬ (V.int (y : Nat) = V.int 0) := fun z => c0 (by have := V.int.inj z; omega)
              rw [decide_eq_false this]
              rfl]
            have hyl : y < u.length := by
              rcases hiv with ⟨_, l1, hw1, _, _⟩ | ⟨_, ey, _, _⟩
              · exact isF_lt (hw1.isF wu)
              · omega
            have hny : u[y]? = some u[y] := List.getElem?_eq_getElem hyl
            generalize u[y] = ndy at hny
            obtain ⟨rsy, ry, z1, z2, z3, hrowy⟩ := (hq5.same sc).at' hny
            obtain ⟨oy, xy, hky⟩ := hrowy.kind
            refine iteT ⟨_, rfl, _, rfl, qi, _, _, _, rfl, rfl, SqL.of z1, z3, ry, _, _, _, rfl, rfl, SqL.of hky, atI_nat (j := 0) rfl, rfl, _, rfl, ?_⟩
            rw [kind_fol, show ndy.isF = isF u y from (isF_at hny).symm]
            rcases hiv with ⟨hFu, l1, hw1, e1, rfl⟩ | ⟨hFu, ey, e2, rfl⟩
            · rw [hw1.isF wu]
              have hne1 : l1 ≠ [] := fun z => c0 (by subst z; exact hw1.nil wu)
              obtain ⟨l2, k2, e12⟩ : ∃ l2 k2, l1 = l2 ++ [k2] := ⟨_, _, (List.dropLast_concat_getLast hne1).symm⟩
              subst e12
              obtain ⟨f2, hw2, hm2, hFy⟩ := hw1.snoc
              refine iteT ⟨fun σ' H' => ∃ m', m' < (l2 ++ [k2]).length ∧ W m' σ' H', fun _ _ h => h, ?_⟩
              refine ⟨_, rfl, _, rfl, ev, _, _, _, rfl, rfl, SqL.of (sc _ _ v1), v2, _, rfl, rv, u, y, rfl, v3.gx (sgx sc), wu, hFy, by omega, fun m Hm hab sM => ⟨_, rfl, _, _, rfl, rfl, _, _, rfl, ?_⟩⟩
              have em : m = f2 := by
                rcases hab with ⟨h, _⟩ | ⟨_, k3, h3⟩
                · exact absurd h c0
                · exact (wu.one _ _ _ _ _ hFy h3 hm2).1
              subst em
              rw [List.length_append, List.length_singleton] at e1
              exact ⟨l2.length, by rw [List.length_append]; exact Nat.lt_succ_self _, m, dp + 1, rfl, sc.trans sM, .inl ⟨hFu, l2, hw2, by omega, rfl⟩⟩
            · subst ey
              rw [hFu]
              exact iteF ⟨y, dp, rfl, sc, .inr ⟨rfl, e2⟩⟩
        rintro σ' H6 ⟨y, dp, rfl, s6, hdp⟩
        have hnp : u[pl]? = some u[pl] := List.getElem?_eq_getElem hplu
        generalize u[pl] = ndp at hnp
        have hGp : isG u pl = ndp.isG := by unfold isG; rw [hnp]
        obtain ⟨n1, l1, en, hup, hn1⟩ : ∃ (n1 : Nat) (l1 : List Nat), ((dp : Nat) : Int) + (if ndp.isG = true then 1 else 0) = (n1 : Nat) ∧ Ups u pl n1 l1 ndp.isG ∧ n1 ≤ 100 := by
          rcases hdp with ⟨hFu, e⟩ | ⟨hFu, e⟩
          · have hg : ndp.isG = false := by rw [← hGp]; exact isG_of_isF hFu
            obtain ⟨h1, h2⟩ := hl0 hFu
            refine ⟨l0.length, l0, ?_, ?_, by omega⟩
            · rw [hg, e, if_neg (by simp)]
              omega
            · rw [hg]
              exact .way h1
          · have hg : ndp.isG = true := by
              rw [← hGp]
              unfold isP at hPu
              rw [hFu] at hPu
              exact hPu
            refine ⟨1, [], ?_, ?_, by omega⟩
            · rw [hg, e]
              rfl
            · rw [hg]
              exact .gone (hGp.trans hg)
        have hq6 := hq5.same s6
        obtain ⟨rs6, r6, z1, z2, z3, hrow6⟩ := hq6.at' hnp
        obtain ⟨o6, y6, hk6⟩ := hrow6.kind
        refine ⟨_, rfl, _, rfl, _, rfl, qi, _, _, _, rfl, rfl, SqL.of z1, z3, r6, _, _, _, rfl, rfl, SqL.of hk6, atI_nat (j := 0) rfl, rfl, .inr ⟨_, rfl, _, _, rfl, rfl, ?_⟩⟩
        rw [kind_gon]
        rw [show (fun i j : Int => V.int (i + j)) ((dp : Nat) : Int) (if ndp.isG = true then 1 else 0) = V.int (n1 : Nat) from congrArg V.int en]
        -- the looks
        have hD6 := s6 _ _ hD5
        refine ⟨_, rfl, D5, rfl, ⟨_, SqL.of hD6⟩, fun D7 nD7 => lc_it walk_list (fun j Hj => Same H6 Hj ∧ Hj D7 = some (.lst (natV (((below u pl).take j).filter (isF u))))) ⟨same_new nD7, upd_same⟩ (fun j Hj _ h => SqL.of (h.1 _ _ hD6)) (fun j x Hx Hj hj hJ hy => ?_) (fun H7 hJ => ?_)⟩
        · obtain ⟨sj, hDj⟩ := hJ
          obtain ⟨rfl, hx⟩ := hy
          rw [natV_len] at hj
          have hc := List.getElem?_eq_getElem hj
          generalize (below u pl)[j] = c at hc
          have hcm := List.mem_of_getElem? hc
          unfold natV at hx
          rw [List.getElem?_map, hc] at hx
          cases hx
          have hcl := below_lt wu hcm
          have hnc : u[c]? = some u[c] := List.getElem?_eq_getElem hcl
          generalize u[c] = ndc at hnc
          obtain ⟨rsc, rc, w1, w2, w3, hrowc⟩ := (hq6.same sj).at' hnc
          obtain ⟨oc, yc, hkc⟩ := hrowc.kind
          have etk : (below u pl).take (j + 1) = (below u pl).take j ++ [c] := by rw [List.take_succ, hc]; rfl
          refine ⟨rfl, _, rfl, _, rfl, qi, _, _, _, rfl, rfl, SqL.of w1, w3, rc, _, _, _, rfl, rfl, SqL.of hkc, atI_nat (j := 0) rfl, rfl, ?_⟩
          rw [kind_fol, show ndc.isF = isF u c from (isF_at hnc).symm]
          have ef : ((below u pl).take (j + 1)).filter (isF u) = ((below u pl).take j).filter (isF u) ++ (if isF u c = true then [c] else []) := by
            rw [etk, List.filter_append]
            congr 1
            by_cases z : isF u c = true <;> simp [z]
          cases hFc : isF u c with
          | false =>
            refine ⟨_, rfl, iteF ⟨sj, ?_⟩⟩
            rw [ef, if_neg (by rw [hFc]; simp), List.append_nil]
            exact hDj
          | true =>
            refine ⟨_, rfl, iteT ⟨_, rfl, _, hDj, ?_, sput sj nD7, ?_⟩⟩
            · rw [natV_len]
              have h1 := List.length_filter_le (isF u) ((below u pl).take j)
              have h2 : ((below u pl).take j).length ≤ (below u pl).length := by rw [List.length_take]; omega
              exact Nat.lt_of_le_of_lt (show (((below u pl).take j).filter (isF u)).length ≤ 1000 by omega) (by decide)
            · rw [upd_same, ef, if_pos hFc, natV_app]
        obtain ⟨s67, hD7⟩ := hJ
        rw [natV_len, List.take_length] at hD7
        refine ⟨D7, _, rfl, .inl (SqL.of hD7), _, _, rfl, rfl, ?_⟩
        have eK : (1 : Int) + ((natV ((below u pl).filter (isF u))).length : Int) = ((1 + cntF u (below u pl) : Nat) : Int) := by
          rw [natV_len]
          unfold cntF
          rw [List.countP_eq_length_filter]
          omega
        rw [show (fun i j : Int => V.int (i + j)) (1 : Int) ((natV ((below u pl).filter (isF u))).length : Int) = V.int ((1 + cntF u (below u pl) : Nat) : Int) from congrArg V.int eK]
        have hLk := cntF_le wu hplu
        have hLk1 : 1 ≤ 1 + cntF u (below u pl) := Nat.le_add_right 1 _
        have hrunA := run_const hRow hi pl
        rw [eu] at hrunA
        have hrunB := run_const (.one u wu) (τ := 0) Nat.one_pos pl
        have eu0 : at_ [u] 0 = u := rfl
        rw [eu0] at hrunB
        generalize 1 + cntF u (below u pl) = Lk at hLk hLk1 hrunA hrunB
        have s17 := (s15.trans s6).trans s67
        have s07 := s1.trans s17
        -- listings
        refine ⟨_, rfl, _, rfl, _, rfl, _, rfl, (by show 1 ≤ sizeLine; decide), fun L8 nL8 => ⟨_, rfl, L8, _, _, rfl, rfl, upd_same, by omega, by omega, ?_, fun R9 nR9 => ?_⟩⟩
        · rw [Int.toNat_natCast, List.length_singleton, Nat.one_mul]
          exact Nat.le_trans (show Lk ≤ 1000 by omega) (by decide)
        rw [rep_nat]
        have s79 := (same_new (o := .lst [.int (i : Nat)]) nL8).trans (same_new (o := .lst (natV (List.replicate Lk i))) nR9)
        have hR9 : upd (upd H7 L8 (.lst [.int (i : Nat)])) R9 (.lst (natV (List.replicate Lk i))) R9 = some (.lst (natV (List.replicate Lk i))) := upd_same
        generalize upd (upd H7 L8 (.lst [.int (i : Nat)])) R9 (.lst (natV (List.replicate Lk i))) = H9 at s79 hR9
        have s09 := s07.trans s79
        refine ⟨a, b, R9, t, ts, ds, pl, List.replicate Lk i, below u pl, rfl, hRok, hP.gx (sgx s09), hD.same s09, hP0, .inl hR9, List.pairwise_replicate.mpr (.inr (Nat.le_refl _)), fun x hx => by rw [List.eq_of_mem_replicate hx]; exact hi, by rw [List.length_replicate]; omega, hrunA, fun r10 H10 s10 nr10 hr10 => ?_⟩
        have s7a := s79.trans s10
        have hD5a := (s67.trans s7a) _ _ hD6
        refine ⟨_, rfl, dI (below u pl), dI (below u pl), dI_at (SqL.of hr10), dI_at (SqL.of hD5a), dI_shp _, dI_shp _, false, (by rw [dI_refl]; rfl), iteF ?_⟩
        have s1a := s17.trans s7a
        have s0a := s1.trans s1a
        have s5a := (s6.trans s67).trans s7a
        refine ⟨_, rfl, _, rfl, ev, _, _, _, rfl, rfl, SqL.of (s5a _ _ v1), v2, (by show 0 ≤ sizeLine; decide), fun E11 nE11 => ⟨_, rfl, (by show 1 ≤ sizeLine; decide), fun T12 nT12 => ⟨_, rfl, T12, Lk, .int 0, rfl, rfl, upd_same, hLk1, by omega, fun p13 H13 s13 hp13 => ?_⟩⟩⟩
        have hE12 : upd (upd H10 E11 (.lst [])) T12 (.tup [.int 0]) E11 = some (.lst []) := upd_at upd_same (ne_of_none upd_same nT12)
        have s13 : Same (upd (upd H10 E11 (.lst [])) T12 (.tup [.int 0])) H13 := s13
        have sad := ((same_new (o := .lst []) nE11).trans (same_new (o := .tup [.int 0]) nT12)).trans s13
        have hE13 := s13 _ _ hE12
        have s0d := s0a.trans sad
        have s5d := s5a.trans sad
        refine ⟨rv, E11, p13, u, [], [], pl, List.replicate Lk 0, below u pl, rfl, ⟨.one u wu, fun x hx => by rw [List.mem_singleton.mp hx]; omega, by decide⟩, v3.gx (sgx s5d), ⟨[], SqL.of hE13, .nil⟩, hPu, .inr (by rw [natV_rep]; exact hp13), List.pairwise_replicate.mpr (.inr (Nat.le_refl _)), fun x hx => by rw [List.eq_of_mem_replicate hx]; exact Nat.one_pos, by rw [List.length_replicate]; omega, hrunB, fun r14 H14 s14 nr14 hr14 => ?_⟩
        have sae := sad.trans s14
        refine ⟨_, rfl, dI (below u pl), dI (below u pl), dI_at (SqL.of hr14), dI_at (SqL.of (sae _ _ hD5a)), dI_shp _, dI_shp _, false, (by rw [dI_refl]; rfl), iteF ?_⟩
        have s0e := s0a.trans sae
        have s5e := s5a.trans sae
        have s1e := s1a.trans sae
        -- climbs
        refine ⟨_, rfl, _, rfl, _, rfl, _, rfl, (by show 1 ≤ sizeLine; decide), fun L15 nL15 => ⟨_, rfl, L15, _, _, rfl, rfl, upd_same, by omega, by omega, ?_, fun R16 nR16 => ?_⟩⟩
        · rw [Int.toNat_natCast, List.length_singleton, Nat.one_mul]
          exact Nat.le_trans (show n1 ≤ 1000 by omega) (by decide)
        rw [rep_nat]
        have seg := (same_new (o := .lst [.int (i : Nat)]) nL15).trans (same_new (o := .lst (natV (List.replicate n1 i))) nR16)
        have hR16 : upd (upd H14 L15 (.lst [.int (i : Nat)])) R16 (.lst (natV (List.replicate n1 i))) R16 = some (.lst (natV (List.replicate n1 i))) := upd_same
        generalize upd (upd H14 L15 (.lst [.int (i : Nat)])) R16 (.lst (natV (List.replicate n1 i))) = H16 at seg hR16
        have s0g := s0e.trans seg
        refine ⟨a, b, R16, t, ts, ds, pl, i, n1, l1, ndp.isG, rfl, hRok, hP.gx (sgx s0g), hD.same s0g, hP0, .inl hR16, hi, by rw [eu]; exact hup, fun v17 H17 s17 ov17 => ?_⟩
        have s5h := (s5e.trans seg).trans s17
        have s1h := (s1e.trans seg).trans s17
        refine ⟨_, rfl, _, rfl, _, rfl, ev, _, _, _, rfl, rfl, SqL.of (s5h _ _ v1), v2, (by show 0 ≤ sizeLine; decide), fun E18 nE18 => ⟨_, rfl, (by show 1 ≤ sizeLine; decide), fun L19 nL19 => ⟨_, rfl, L19, _, _, rfl, rfl, upd_same, by omega, by omega, ?_, fun R20 nR20 => ?_⟩⟩⟩
        · rw [Int.toNat_natCast, List.length_singleton, Nat.one_mul]
          exact Nat.le_trans (show n1 ≤ 1000 by omega) (by decide)
        rw [show (List.replicate (Int.toNat ((n1 : Nat) : Int)) [V.int 0]).flatten = natV (List.replicate n1 0) from rep_nat n1 0]
        have hE19 : upd (upd H17 E18 (.lst [])) L19 (.lst [.int 0]) E18 = some (.lst []) := upd_at upd_same (ne_of_none upd_same nL19)
        have shk := ((same_new (o := .lst []) nE18).trans (same_new (o := .lst [.int 0]) nL19)).trans (same_new (o := .lst (natV (List.replicate n1 0))) nR20)
        have hE20 := upd_at (o := .lst (natV (List.replicate n1 0))) hE19 (ne_of_none hE19 nR20)
        have hR20 : upd (upd (upd H17 E18 (.lst [])) L19 (.lst [.int 0])) R20 (.lst (natV (List.replicate n1 0))) R20 = some (.lst (natV (List.replicate n1 0))) := upd_same
        generalize upd (upd (upd H17 E18 (.lst [])) L19 (.lst [.int 0])) R20 (.lst (natV (List.replicate n1 0))) = H20 at shk hE20 hR20
        have s5k := s5h.trans shk
        refine ⟨rv, E18, R20, u, [], [], pl, 0, n1, l1, ndp.isG, rfl, ⟨.one u wu, fun x hx => by rw [List.mem_singleton.mp hx]; omega, by decide⟩, v3.gx (sgx s5k), ⟨[], SqL.of hE20, .nil⟩, hPu, .inl hR20, Nat.one_pos, hup, fun v21 H21 s21 ov21 => ?_⟩
        have shl := shk.trans s21
        have s1l := s1h.trans shl
        have s6l := ((((s67.trans s7a).trans sae).trans seg).trans s17).trans shl
        have hz1 := s6l _ _ z1
        have hk6l := s6l _ _ hk6
        have fin : ∀ H22, Same H21 H22 → Same H1 H22 ∧ ∃ y5 y6 y7 y8 y9 y10 y11, ([some (.ref S), some (.ref a), some (.ref b), some (.int pl), some (.ref ev), some (.int (i : Nat)), some (.ref qi), some (.ref D5), some (.int (n1 : Nat)), some (.int (y : Nat)), some (.int (Lk : Nat)), some v17, none] : L2.St) = [some (.ref S), some (.ref a), some (.ref b), some (.int pl), some (.ref ev), y5, y6, y7, y8, y9, y10, y11, none] := fun H22 s22 => ⟨s1l.trans s22, _, _, _, _, _, _, _, rfl⟩
        cases hg : ndp.isG with
        | false =>
          rw [hg] at ov17 ov21
          have e17 : v17 = .str (up l1) := ov17
          have e21 : v21 = .str (up l1) := ov21
          subst e17
          subst e21
          refine .inl ⟨rfl, false, by simp, iteF ?_⟩
          refine ⟨_, rfl, _, _, _, _, _, rfl, .own _, .base (.str _), of_decide_eq_true (T.moreI 2 (f := fKitS "Refused" false)), ?_⟩
          refine ⟨_, rfl, _, rfl, qi, _, _, _, rfl, rfl, SqL.of hz1, z3, r6, _, _, _, rfl, rfl, SqL.of hk6l, atI_nat (j := 0) rfl, rfl, ?_⟩
          rw [kind_gon, hg]
          exact ⟨rfl, false, rfl, iteF (fin _ (Same.refl _))⟩
        | true =>
          rw [hg] at ov17 ov21
          obtain ⟨ra, rfl, da, ea⟩ := ov17
          obtain ⟨rb, rfl, db, eb⟩ := ov21
          have ea' := shl _ _ ea
          refine .inr ⟨ra, _, _, rb, _, _, rfl, rfl, ea', eb, ra, rb, rfl, .refused ⟨_, ea'⟩ ⟨_, eb⟩, fun H22 s22 => ⟨true, rfl, _, rfl, iteF ?_⟩⟩
          refine ⟨_, rfl, _, _, _, _, _, rfl, .own _, ty_ins T T.i_Refused T.c_Refused (s22 _ _ ea'), T.t_Refused_Refused, ?_⟩
          refine ⟨_, rfl, _, rfl, qi, _, _, _, rfl, rfl, SqL.of (s22 _ _ hz1), z3, r6, _, _, _, rfl, rfl, SqL.of (s22 _ _ hk6l), atI_nat (j := 0) rfl, rfl, ?_⟩
          rw [kind_gon, hg]
          exact ⟨rfl, false, rfl, iteF (fin _ s22)⟩
    · obtain ⟨sm, x5, x6, x7, x8, x9, x10, x11, rfl⟩ := hI
      exact q Hi (s1.trans sm)
end
end NW
set_option Elab.async false
set_option linter.all false
set_option maxRecDepth 100000
set_option maxHeartbeats 1000000
/-! W47: the law. -/
namespace NW
open PySem PySem.Spec PyProof.Rows L2
theorem hu65 {k : Nat} {A : Around} (r : Room k A) : A.units + 65 < cLine := by have := r.un; omega
theorem sb3Same {H0 B H : Hp} {r a c : Addr} (s : Same H0 B) (nr : H0 r = none) (na : H0 a = none) (nc : H0 c = none) (k : Sb3 r a c B H) : Same H0 H := fun b o e => k b o (ne_of_none e nr) (ne_of_none e na) (ne_of_none e nc) (s b o e)
theorem cnt_len : ∀ {D : Cnt}, (∀ e ∈ D, 1 ≤ e.2) → D.length ≤ (D.map (·.2)).sum
  | [], _ => Nat.le_refl _
  | e :: r, h => by
    have h1 := h e List.mem_cons_self
    have h2 := cnt_len (D := r) fun x hx => h x (List.mem_cons_of_mem _ hx)
    simp only [List.length_cons, List.map_cons, List.sum_cons]
    omega
theorem cut_mem {xs : List V} {lo hi : Option Int} {x : V} (h : x ∈ cutV xs lo hi) : x ∈ xs := List.mem_of_mem_drop (List.mem_of_mem_take h)
theorem cut_len {xs : List V} {lo hi : Option Int} : (cutV xs lo hi).length ≤ xs.length := by
  unfold cutV
  rw [List.length_take, List.length_drop]
  omega
/-- lists of lists of numbers -/
theorem dAll {K : Frag} {H : Hp} : ∀ {Ls : List Addr} {D : Cnt}, Paired (fun a (e : List Nat × Nat) => H a = some (.lst (natV e.1))) Ls D → DpAll K H (Ls.map V.ref) (D.map fun e => dI e.1)
  | _, _, .nil => .nil
  | _, _, .cons h p => .cons (dI_at (SqL.of h)) (dAll p)
theorem dLs_can : ∀ D : Cnt, PyData.canLayAll0 (D.map fun e => dI e.1) = true
  | [] => rfl
  | e :: r => by
    rw [List.map_cons]
    simp only [PyData.canLayAll0]
    rw [dI_can, dLs_can r]
    rfl
theorem dLs_dep : ∀ D : Cnt, PyData.depthAll (D.map fun e => dI e.1) ≤ 1
  | [] => Nat.zero_le _
  | e :: r => by
    rw [List.map_cons]
    simp only [PyData.depthAll]
    rw [dI_dep1]
    have := dLs_dep r
    omega
theorem dLs_shp (D : Cnt) : SeqAt.shaped (.list (D.map fun e => dI e.1)) = true := by
  have h1 : (PyData.list (D.map fun e => dI e.1)).canLay0 = true := by
    simp only [PyData.canLay0]
    exact dLs_can D
  have h2 : (PyData.list (D.map fun e => dI e.1)).depth ≤ 64 := by
    simp only [PyData.depth]
    have := dLs_dep D
    omega
  unfold SeqAt.shaped
  rw [h1, decide_eq_true h2]
  rfl
theorem dLs_any {D : Cnt} {V : List Nat} (h : V ∈ D.map (·.1)) : ((D.map fun e => dI e.1).any fun z => PyData.eqv z (dI V)) = true := by
  obtain ⟨e, he, rfl⟩ := List.mem_map.mp h
  exact List.any_eq_true.mpr ⟨dI e.1, List.mem_map.mpr ⟨e, he, rfl⟩, dI_refl _⟩
theorem Pdrop {α β : Type} {F : α → β → Prop} : ∀ {l₁ : List α} {l₂ : List β} (k : Nat), Paired F l₁ l₂ → Paired F (l₁.drop k) (l₂.drop k)
  | _, _, 0, h => h
  | _, _, _ + 1, .nil => .nil
  | _, _, k + 1, .cons _ t => Pdrop k t
section
variable {P : Program} {w : World} {K : Frag} {mg : Str → Option Value} {base : Heap}
def spLaw (K : Frag) : Sp := fun vs H Q _ => ∃ (p : Addr) (l : List Int), vs = [.ref p] ∧ l.length ≤ 63 ∧ SqL K H p (l.map V.int) ∧ ∀ H', Q (.bl true) H'
abbrev lawN : List Str := ["_law_script", "_law_names", "_law_cell_here", "_law_rng_here", "_law_turn", "_law_shapes", "_law_rows", "_law_place", "_law_tree_here", "_law_deeds", "_law_noted", "_law_row_here", "_law_first", "_law_later", "_law_every", "_law_at", "_law_node", "_law_one", "_law_time", "_law_count"]
theorem sc_law : FnScope lawN ["_law_script"] (defScope s_law) := ⟨rfl, rfl, rfl, by decide +kernel, rfl, by decide +kernel, by decide +kernel⟩
theorem len_law : ∀ vs H Q E, spLaw K vs H Q E → vs.length = (["_law_script"] : List Str).length := fun vs H Q E h => by
  obtain ⟨p, l, rfl, _⟩ := h
  rfl
theorem bdy_law (T : Txt K mg) : Bdy P w K mg base "law" s_law (He.ga K "law") lawN 79 (spLaw K) := by
  intro cdv A outer s H vs Q E hr h
  · obtain ⟨p, l, rfl, hl63, hp, q⟩ := h
    have nd := sc_law.nd
    refine ⟨_, pss_cons (ps_set (i := 1) nd rfl (Or.inl rfl) (pe_lst (pa_cons pe_str (pa_cons pe_str (pa_cons pe_str (pa_cons pe_str pa_nil))))))
      (pss_cons (ps_for PassesOwn.never rfl (pi_list (pe_op op_cat (pe_lst (pa_cons (C8.pe_c (ok_Lcell T) hr (by decide) rfl (pa_cons (pv 0) (pa_cons pe_int pa_nil))) pa_nil)) (pe_slice sl_list (pv 0) (po_some pe_int) (po_some pe_int)))) (pg_name (i := 2) nd rfl (Or.inl rfl))
        (pss_cons (ps_set (i := 3) nd rfl (Or.inl rfl) (C8.pe_c (ok_Lrng T) hr (by decide) rfl (pa_cons (pv 2) pa_nil)))
        (pss_one (ps_for PassesOwn.never rfl (pi_range1 (by rfl) T.n_range (pa_cons pe_int pa_nil)) (pg_name (i := 4) nd rfl (Or.inl rfl))
          (pss_cons (ps_asg (C8.pe_c (ok_Lrow T) hr (by decide) rfl (pa_cons (pv 3) (pa_cons (C8.pe_c (ok_Ldrawn_tree T) hr (by decide) rfl (pa_cons (pv 3) (pa_cons pe_int (pa_cons (pv 1) pa_nil)))) (pa_cons (pv 1) (pa_cons pe_int pa_nil))))) (pg_tup rfl (pgs_cons (pg_name (i := 5) nd rfl (Or.inl rfl)) (pgs_cons (pg_name (i := 6) nd rfl (Or.inl rfl)) pgs_nil))))
          (pss_cons (ps_set (i := 7) nd rfl (Or.inl rfl) (C8.pe_c (ok_Lpick T) hr (by decide) rfl (pa_cons (pv 3) (pa_cons
            (pe_lc (own := [("_law_at", 15), ("_law_node", 16)]) (g := gTup K 2 (gCons (gName 15) (gCons (gName 16) gNil))) (tt := tTest (tOp rEq (tOp (rIxL K) (tVar 16) (tC (.int 0))) (tC (.str "folder")))) rfl nd (pi_enum (by rfl) T.n_enumerate (pa_cons (pe_ix (r := rIxL K) ix_list (pv 5) pe_int (fun _ _ => rfl)) pa_nil)) (blkOk_by (N := lawN) (sc := defScope s_law) (by decide +kernel))
              (fun _ _ _ _ _ => pg_tup rfl (pgs_cons (pg_name (i := 15) nd rfl (Or.inl rfl)) (pgs_cons (pg_name (i := 16) nd rfl (Or.inl rfl)) pgs_nil))) (fun _ _ _ _ _ => pts_one (pt_cmpR op_eq (pe_ix (ixL (K := K)) (pv 16) pe_int (fun _ _ => rfl)) pe_str (nomark _))) (fun _ _ _ _ _ => pv 15)) pa_nil))))
          (pss_cons (ps_par (i := 8) (j := 9) rfl nd rfl rfl (by decide) rfl rfl (pa_cons (C8.pe_c (ok_Ltree T) hr (by decide) rfl (pa_cons (pe_ix (r := rIxL K) ix_list (pv 5) pe_int (fun _ _ => rfl)) pa_nil)) (pa_cons
            (pe_lc (own := [("_law_one", 17)]) (g := gName 17) (tt := tYes) rfl nd (pi_list (pv 6)) (blkOk_by (N := lawN) (sc := defScope s_law) (by decide +kernel))
              (fun _ _ _ _ _ => pg_name (i := 17) nd rfl (Or.inl rfl)) (fun _ _ _ _ _ => pts_nil) (fun _ _ _ _ _ => C8.pe_c (ok_Ldeed T) hr (by decide) rfl (pa_cons (pv 17) pa_nil))) pa_nil)) (by rfl))
          (pss_cons (ps_if (PW.pt (pw_or (pt_not (pt_val (C8.pe_c (ok_Lstill_right T) hr (by decide) rfl (pa_cons (pe_ix (r := rIxL K) ix_list (pv 5) pe_int (fun _ _ => rfl)) (pa_cons (pv 8) pa_nil))))) (pw_or1 (pt_not (pt_val (C8.pe_c (ok_Lmom T) hr (by decide) rfl (pa_cons (pv 5) (pa_cons (pv 8) (pa_cons (pv 9) (pa_cons (pv 7) pa_nil)))))))))) pss_never pss_nil)
          (pss_cons (ps_par (i := 10) (j := 11) rfl nd rfl rfl (by decide) rfl rfl (pa_cons (pe_lst pa_nil) (pa_cons (pe_lst pa_nil) pa_nil)) (by rfl))
          (pss_cons (ps_expr (C8.pe_c (ok_Lvisit T 70) hr (by decide) rfl (pa_cons (pv 3) (pa_cons (pv 5) (pa_cons (pv 7) (pa_cons (pv 10) (pa_cons (pv 11) pa_nil)))))))
          (pss_cons (ps_for PassesOwn.never rfl (pi_range1 (by rfl) T.n_range (pa_cons (pe_op op_add (pe_ix (r := rIxL K) ix_list (pv 11) pe_int (fun _ _ => rfl)) pe_int) pa_nil)) (pg_name (i := 12) nd rfl (Or.inr rfl))
            (pss_cons (ps_setLc (i := 13) (own := [("_law_time", 18)]) (g := gName 18) (tt := tYes) rfl nd rfl rfl (sw_true rfl rfl rfl (by decide +kernel)) (pi_list (pv 11)) (blkOk_by (N := lawN) (sc := defScope s_law) (by decide +kernel))
              (fun _ _ _ _ _ => pg_name (i := 18) nd rfl (Or.inl rfl)) (fun _ _ _ _ _ => pts_nil) (fun _ _ _ _ _ => pe_op op_sub (pv 18) (pv 12)))
            (pss_one (ps_if (pt_cmpR (op_neD hr.units) (C8.pe_c (ok_listing T) hr (by decide) rfl (pa_cons (pe_ix (r := rIxL K) ix_list (C8.pe_c (ok_trees T) hr (by decide) rfl (pa_cons (pv 8) (pa_cons (pv 9) pa_nil))) (pv 12) (fun _ _ => rfl)) (pa_cons (pe_slice sl_list (pv 9) (po_some (pv 12)) po_none) (pa_cons (pv 7) (pa_cons (pv 13) pa_nil))))) (pv 10) (nomark _)) pss_never pss_nil))))
          (C8.pss_cut (ps_set (i := 14) nd rfl (Or.inl rfl) (pe_ifExp (pt_cmpR op_lt (pe_callB call_len_seq (by rfl) T.n_len PySem.boot_len (pa_cons (pv 9) pa_nil)) pe_int (nomark _)) (C8.pe_c (ok_listings T) hr (by decide) rfl (pa_cons (pv 8) (pa_cons (pv 9) (pa_cons (pv 7) pa_nil)))) (pe_lst (pa_cons (pe_tup (pa_cons (pv 10) (pa_cons pe_int pa_nil))) pa_nil))))
          (pss_one (ps_if (pt_cmpR (op_notInD (hu65 hr)) (pv 10) (pe_lc (own := [("_law_one", 17), ("_law_count", 19)]) (g := gTup K 2 (gCons (gName 17) (gCons (gName 19) gNil))) (tt := tYes) rfl nd (pi_list (pv 14)) (blkOk_by (N := lawN) (sc := defScope s_law) (by decide +kernel))
              (fun _ _ _ _ _ => pg_tup rfl (pgs_cons (pg_name (i := 17) nd rfl (Or.inl rfl)) (pgs_cons (pg_name (i := 19) nd rfl (Or.inl rfl)) pgs_nil))) (fun _ _ _ _ _ => pts_nil) (fun _ _ _ _ _ => pv 17)) (by rfl)) pss_never pss_nil))))))))))))))
      (pss_one (ps_ret pe_bl))), ?_⟩
    refine ⟨(by show 4 ≤ sizeLine; decide), fun b nb => ?_⟩
    have s1 := same_new (o := .lst [.str "a", .str "ab", .str "...", .str "_0"]) nb
    have hb1 : NmsAt (upd H b (.lst [.str "a", .str "ab", .str "...", .str "_0"])) b := upd_same
    generalize upd H b (.lst [.str "a", .str "ab", .str "...", .str "_0"]) = H1 at s1 hb1
    have hp1 := s1.seq hp
    refine ⟨_, rfl, p, l, rfl, hp1, fun c0 => ⟨(by show 1 ≤ sizeLine; decide), fun C1 nC1 => ⟨_, rfl, 1, rfl, 3, rfl, p, _, rfl, (same_new (o := .lst [.int c0]) nC1).seq hp1, fun C2 nC2 => ⟨C1, C2, _, _, rfl, rfl, upd_at upd_same (ne_of_none upd_same nC2), upd_same, ?_, fun C3 nC3 => ?_⟩⟩⟩⟩
    · have h1 := cut_len (xs := l.map V.int) (lo := some 1) (hi := some 3)
      rw [List.length_map] at h1
      exact Nat.le_trans (show 1 + (cutV (l.map V.int) (some 1) (some 3)).length ≤ 100 by omega) (by decide)
    have s3 := ((same_new (o := .lst [.int c0]) nC1).trans (same_new (o := .lst (cutV (l.map V.int) (some 1) (some 3))) nC2)).trans (same_new (o := .lst ([.int c0] ++ cutV (l.map V.int) (some 1) (some 3))) nC3)
    have hC3 : upd (upd (upd H1 C1 (.lst [.int c0])) C2 (.lst (cutV (l.map V.int) (some 1) (some 3)))) C3 (.lst ([.int c0] ++ cutV (l.map V.int) (some 1) (some 3))) C3 = some (.lst ([.int c0] ++ cutV (l.map V.int) (some 1) (some 3))) := upd_same
    generalize upd (upd (upd H1 C1 (.lst [.int c0])) C2 (.lst (cutV (l.map V.int) (some 1) (some 3)))) C3 (.lst ([.int c0] ++ cutV (l.map V.int) (some 1) (some 3))) = H3 at s3 hC3
    have hints : ∀ x ∈ [V.int c0] ++ cutV (l.map V.int) (some 1) (some 3), ∃ i : Int, x = .int i := fun x hx => by
      rcases List.mem_append.mp hx with h | h
      · exact ⟨c0, List.mem_singleton.mp h⟩
      · obtain ⟨i, _, e⟩ := List.mem_map.mp (cut_mem h)
        exact ⟨i, e.symm⟩
    generalize [V.int c0] ++ cutV (l.map V.int) (some 1) (some 3) = cells at hC3 hints
    have hb3 : NmsAt H3 b := s3 _ _ hb1
    refine ⟨C3, rfl, ⟨_, SqL.of hC3⟩, for_it walk_list (fun i σ Hi => Same H3 Hi ∧ ∃ x2 x3 x4 x5 x6 x7 x8 x9 x10 x11 x12 x13 x14, σ = [some (.ref p), some (.ref b), x2, x3, x4, x5, x6, x7, x8, x9, x10, x11, x12, x13, x14, none, none, none, none, none]) ⟨Same.refl _, _, _, _, _, _, _, _, _, _, _, _, _, _, rfl⟩ (fun i σ Hi _ h => SqL.of (h.1 _ _ hC3)) (fun i x σ Hx Hi hi hI hy => ?_) (fun σ Hi hI => q Hi)⟩
    obtain ⟨sm, x2, x3, x4, x5, x6, x7, x8, x9, x10, x11, x12, x13, x14, rfl⟩ := hI
    obtain ⟨rfl, hx⟩ := hy
    obtain ⟨ci, rfl⟩ := hints _ (List.mem_of_getElem? hx)
    refine ⟨_, rfl, ci, rfl, fun r H4 s4 nr R4 => ?_⟩
    have hb4 : NmsAt Hi b := sm _ _ hb3
    refine ⟨2, rfl, by decide, by decide, for_it walk_range (fun j σ Hj => Same Hi Hj ∧ RngAt Hj r ∧ ∃ x4 x5 x6 x7 x8 x9 x10 x11 x12 x13 x14, σ = [some (.ref p), some (.ref b), some (.int ci), some (.ref r), x4, x5, x6, x7, x8, x9, x10, x11, x12, x13, x14, none, none, none, none, none]) ⟨s4, R4, _, _, _, _, _, _, _, _, _, _, _, rfl⟩ (fun _ _ _ _ _ => True.intro) (fun j v σ Hy Hj hj hJ hy => ?_) (fun σ Hj hJ => ?_)⟩
    · obtain ⟨sj, Rj, x4, x5, x6, x7, x8, x9, x10, x11, x12, x13, x14, rfl⟩ := hJ
      obtain ⟨rfl, rfl⟩ := hy
      have hbj : NmsAt Hj b := sj _ _ hb4
      have nbr := hbj.neR Rj
      refine ⟨_, rfl, _, rfl, _, rfl, r, b, 8, rfl, Rj, hbj, by decide, fun a0 t H5 b5 R5 hT5 wf ht9 => ⟨_, rfl, r, a0, b, t, 4, rfl, R5, b5 _ _ nbr hbj, hT5, wf, by omega, by decide, fun u S D ts ds H6 b6 R6 hu hS hD nSr nDr nSD hRow hds => ?_⟩⟩
      have s6 : Same Hi H6 := sbSame (sbSame sj nr b5) nr b6
      refine ⟨u, _, rfl, SqT.of hu, rfl, _, _, rfl, _, _, rfl, rfl, ?_⟩
      have hL := hRow.len
      have hB : ∀ x ∈ t :: ts, x.length ≤ 13 := fun x hx => by
        obtain ⟨k, hk, rfl⟩ := List.mem_iff_getElem.mp hx
        have h1 := (hRow.mono (i := 0) (j := k) (Nat.zero_le _) hk).2.1
        have e1 : at_ (t :: ts) k = (t :: ts)[k] := by
          unfold at_
          rw [List.getD_eq_getElem?_getD, List.getElem?_eq_getElem hk]
          rfl
        rw [e1] at h1
        have e0 : at_ (t :: ts) 0 = t := rfl
        rw [e0] at h1
        omega
      have hB1000 : ∀ x ∈ t :: ts, x.length ≤ 1000 := fun x hx => by have := hB x hx; omega
      have hRok : RowOk (t :: ts) ds := ⟨hRow, hB1000, by omega⟩
      have ht1000 : t.length ≤ 1000 := by omega
      have ht13 : t.length ≤ 13 := by omega
      obtain ⟨qs, q0, g1, g2, g3⟩ := hS.at' (i := 0) (by simp)
      have g3 : LTree H6 q0 t := g3
      obtain ⟨rs, k1, k2, k3⟩ := id g3
      -- the place
      refine ⟨_, rfl, _, rfl, S, _, _, _, rfl, rfl, SqL.of g1, g2, q0, _, rfl, SqL.of k1, fun D7 nD7 => lc_fns nD7 k1 k3 ht1000 (fun H' T1 n rr ndd RR hT1 hrow k => ?_) (fun H8 s8 hD8 => ?_)⟩
      · obtain ⟨oi, xi, hki⟩ := hrow.kind
        refine ⟨T1, _, rfl, SqT.of hT1, rfl, _, _, rfl, _, _, rfl, rfl, k _ rfl (fun Q2 q2 => ⟨_, rfl, rr, _, _, _, rfl, rfl, SqL.of hki, atI_nat (j := 0) rfl, rfl, ?_⟩) (fun Q3 q3 => ⟨_, rfl, q3⟩)⟩
        rw [kind_fol]
        exact ⟨_, rfl, q2⟩
      have hnV : natV (fns t) ≠ [] := fun z => fns_ne wf (List.map_eq_nil_iff.mp z)
      have hlV : (natV (fns t)).length < 1000000 := by
        rw [natV_len]
        have := fns_len t
        omega
      refine ⟨r, D7, _, rfl, R6.same s8, hD8, R6.ne nD7, hnV, hlV, fun x9 H9 hx9 b9 R9 => ?_⟩
      obtain ⟨f, hf, rfl⟩ := List.mem_map.mp hx9
      have hF := mem_fns.mp hf
      have hfl := isF_lt hF
      have s9 : Same Hi H9 := sbSame (s6.trans s8) nr b9
      have hS9 := (hS.same s8).sbX (R6.same s8).noT nSr b9
      obtain ⟨xr, yr, zr, er⟩ := R6.same s8
      have hD9 := (hD.same s8).sbX er nDr b9
      have g39 := LTree.sbR (R6.same s8) b9 (g3.same s8)
      have g19 := b9 _ _ nSr (s8 _ _ g1)
      -- the tree, the deeds
      refine ⟨_, rfl, S, _, _, _, rfl, rfl, SqL.of g19, g2, q0, t, rfl, g39, wf, ht1000, fun tr H10 s10 hP10 => ?_⟩
      obtain ⟨ps, d1, d2⟩ := hD9.same s10
      have lps := Plen d2
      refine ⟨_, rfl, D, rfl, ⟨_, SqL.of d1⟩, fun De nDe => lc_it walk_list (fun k Hk => Same H10 Hk ∧ ∃ xs : List Addr, Hk De = some (.lst (xs.map V.ref)) ∧ Paired (PDeed K Hk) xs (ds.take k)) ⟨same_new nDe, [], upd_same, .nil⟩ (fun k Hk _ h => SqL.of (h.1 _ _ d1)) (fun k x Hz Hk hk hK hy => ?_) (fun H11 hK => ?_)⟩
      · obtain ⟨sk, xs, hDe, hPk⟩ := hK
        obtain ⟨rfl, hx⟩ := hy
        rw [List.length_map] at hk
        have hpk := List.getElem?_eq_getElem hk
        generalize ps[k] = pk at hpk
        rw [List.getElem?_map, hpk] at hx
        cases hx
        obtain ⟨dk, hdk, hLd⟩ := Pget' d2 hpk
        have etk : ds.take (k + 1) = ds.take k ++ [dk] := by rw [List.take_succ, hdk]; rfl
        refine ⟨rfl, _, rfl, pk, dk, rfl, hLd.same sk, fun xd Hd sd hPd => ⟨_, sd _ _ hDe, ?_, sput (sk.trans sd) nDe, xs ++ [xd], by rw [upd_same, List.map_append]; rfl, ?_⟩⟩
        · have := Plen hPk
          rw [List.length_take] at this
          rw [List.length_map]
          exact Nat.lt_of_le_of_lt (show xs.length ≤ 1000 by omega) (by decide)
        · rw [etk]
          have fd := (sfx sd).trans (Sb.fx (sb_upd (r := De) (o := .lst (xs.map V.ref ++ [V.ref xd]))) (sd _ _ hDe))
          exact Paired.snoc (Pmap hPk fun _ _ => PDeed.fx fd) (PDeed.fx (Sb.fx (sb_upd (r := De)) (sd _ _ hDe)) hPd)
      obtain ⟨s1011, xs, hDe11, hPd11⟩ := hK
      rw [List.length_map, lps, List.take_length] at hPd11
      have nDer : De ≠ r := (R9.same s10).ne nDe
      have R11 := (R9.same s10).same s1011
      have s911 := s10.trans s1011
      have hS11 := hS9.same s911
      refine ⟨_, _, rfl, ?_⟩
      -- the two tests
      refine ⟨_, rfl, S, _, _, _, rfl, rfl, SqL.of (s911 _ _ g19), g2, _, rfl, q0, tr, t, rfl, g39.same s911, hP10.gx (sgx s1011), wf, ht13, fun H12 s12 => ⟨_, rfl, iteF ?_⟩⟩
      refine ⟨_, rfl, _, rfl, _, rfl, _, rfl, S, tr, De, t, ts, ds, f, rfl, hS11.same s12, hP10.gx (sgx (s1011.trans s12)), ⟨xs, SqL.of (s12 _ _ hDe11), Pmap hPd11 fun _ _ => PDeed.fx (sfx s12)⟩, hRow, hB, by omega, hF, fun H13 s13 => ⟨_, rfl, iteF ?_⟩⟩
      have s1113 := s12.trans s13
      have hDe13 := s1113 _ _ hDe11
      have R13 := R11.same s1113
      have hS13 := hS11.same s1113
      have hP13 := hP10.gx (sgx (s1011.trans s1113))
      have hPd13 := Pmap hPd11 fun _ _ => PDeed.fx (sfx s1113)
      have s013 : Same Hi H13 := (s9.trans s911).trans s1113
      refine ⟨(by show 0 ≤ sizeLine; decide), fun N nN => ⟨(by show 0 ≤ sizeLine; decide), fun Rw nRw => ⟨_, _, rfl, ?_⟩⟩⟩
      have hN14 : upd (upd H13 N (.lst [])) Rw (.lst []) N = some (.lst (natV [])) := upd_at upd_same (ne_of_none upd_same nRw)
      have hR14 : upd (upd H13 N (.lst [])) Rw (.lst []) Rw = some (.lst (natV [])) := upd_same
      have nNR : N ≠ Rw := ne_of_none upd_same nRw
      have nNr : N ≠ r := R13.ne nN
      have nRr : Rw ≠ r := (R13.same (same_new (o := .lst []) nN)).ne nRw
      have nDeN : De ≠ N := ne_of_none hDe13 nN
      have nDeR : De ≠ Rw := ne_of_none (upd_at (o := .lst []) hDe13 nDeN) nRw
      have n0N : Hi N = none := s013.free nN
      have n0R : Hi Rw = none := (s013.trans (same_new (o := .lst []) nN)).free nRw
      have s14 := (same_new (o := .lst []) nN).trans (same_new (o := .lst []) nRw)
      generalize upd (upd H13 N (.lst [])) Rw (.lst []) = H14 at hN14 hR14 s14
      have R14 := R13.same s14
      have wb : wgt (t :: ts) 0 f ≤ 371293 := by
        have e0 : at_ (t :: ts) 0 = t := rfl
        unfold wgt
        rw [e0]
        have h1 := Nat.le_trans (sz_le wf hfl) ht13
        have h2 : 13 ^ ((t :: ts).length - 1 - 0) ≤ 13 ^ 4 := Nat.pow_le_pow_right (by decide) (by omega)
        exact Nat.le_trans (Nat.mul_le_mul h1 h2) (by decide)
      refine ⟨_, rfl, _, rfl, _, rfl, _, rfl, _, rfl, r, S, N, Rw, t :: ts, ds, f, 0, [], [], rfl, R14, hS13.same s14, hRow, by omega, hB, hN14, hR14, nNr, nRr, nNR, rfl, by omega, hfl, by omega, fun d _ => by omega, ?_, ?_, fun H15 τ τs Vv sb15 R15 hVL hsort hlt hN15 hR15 => ?_⟩
      · show 0 + wgt (t :: ts) 0 f ≤ 2000000
        omega
      · show 0 + 4 * wgt (t :: ts) 0 f ≤ 8000000
        omega
      have hN15 : H15 N = some (.lst (natV Vv)) := hN15
      have hR15 : H15 Rw = some (.lst (natV (τ :: τs))) := hR15
      have gx15 := sb15.gx R14 hN14 hR14
      have s015 : Same Hi H15 := sb3Same (s013.trans s14) nr n0N n0R sb15
      have hDe15 := sb15 _ _ nDer nDeN nDeR (s14 _ _ hDe13)
      have hP15 := (hP13.gx (sgx s14)).gx gx15
      have hPd15 := Pmap hPd13 fun _ _ => PDeed.fx ((sfx s14).trans gx15.fx)
      have hτL := hlt τ List.mem_cons_self
      have hsort1 := (List.pairwise_cons.mp hsort).2
      have tlen : (τ :: τs).length ≤ 2000000 := by
        have h1 := hVL.tlen hRow hB (by decide) τ hτL hsort1 (fun x hx => hlt x (List.mem_cons_of_mem _ hx)) (fun x hx => (hRow.kid hτL hx).1)
        have h2 := sz_kids (hRow.wf _ (at_mem hτL)) f
        have h3 := sz_mono hRow hB (by decide) (Nat.zero_le τ) hτL hfl
        have h4 : sz (at_ (t :: ts) 0) f * 13 ^ ((t :: ts).length - 1 - 0) ≤ 371293 := wb
        rw [h2, Nat.add_mul] at h3
        rw [List.length_cons]
        omega
      have hτ5 : τ < 100 := by omega
      -- the listings that begin later
      refine ⟨_, rfl, Rw, _, _, _, rfl, rfl, SqL.of hR15, atI_nat (j := 0) rfl, _, _, rfl, rfl, _, rfl, by omega, by omega, for_it walk_range (fun k σ Hk => Same H15 Hk ∧ ∃ x12 x13, σ = [some (.ref p), some (.ref b), some (.int ci), some (.ref r), some (.int (0 + (j : Nat))), some (.ref S), some (.ref D), some (.int (f : Nat)), some (.ref tr), some (.ref De), some (.ref N), some (.ref Rw), x12, x13, x14, none, none, none, none, none]) ⟨Same.refl _, _, _, rfl⟩ (fun _ _ _ _ _ => True.intro) (fun k v σ Hz Hk hk hK hy => ?_) (fun σ H20 hK => ?_)⟩
      · obtain ⟨sk, y12, y13, rfl⟩ := hK
        obtain ⟨rfl, hv⟩ := hy
        have hv : v = .int (k : Nat) := hv.trans (congrArg V.int (Int.zero_add _))
        subst hv
        have hkτ : k ≤ τ := by omega
        have hkL : k < (t :: ts).length := by omega
        have hge : ∀ x ∈ τ :: τs, k ≤ x := fun x hx => by
          rcases List.mem_cons.mp hx with e | h
          · omega
          · have := (List.pairwise_cons.mp hsort1).1 x h
            omega
        refine ⟨_, rfl, Rw, rfl, ⟨_, SqL.of (sk _ _ hR15)⟩, fun D16 nD16 => lc_it walk_list (fun m Hm => Same Hk Hm ∧ Hm D16 = some (.lst (natV (((τ :: τs).take m).map fun x => x - k)))) ⟨same_new nD16, upd_same⟩ (fun m Hm _ h => SqL.of (h.1 _ _ (sk _ _ hR15))) (fun m x Hw Hm hm hM hy => ?_) (fun H16 hM => ?_)⟩
        · obtain ⟨sM, hDm⟩ := hM
          obtain ⟨rfl, hx⟩ := hy
          rw [natV_len] at hm
          have hxm := List.getElem?_eq_getElem hm
          generalize (τ :: τs)[m] = xm at hxm
          unfold natV at hx
          rw [List.getElem?_map, hxm] at hx
          cases hx
          have hkx := hge xm (List.mem_of_getElem? hxm)
          have etk : (τ :: τs).take (m + 1) = (τ :: τs).take m ++ [xm] := by rw [List.take_succ, hxm]; rfl
          refine ⟨rfl, _, rfl, _, rfl, _, _, rfl, rfl, _, hDm, ?_, sput sM nD16, ?_⟩
          · rw [natV_len, List.length_map, List.length_take]
            exact Nat.lt_of_le_of_lt (show min m (τ :: τs).length ≤ 2000000 by omega) (by decide)
          · rw [upd_same, etk, List.map_append]
            show some (HO.lst (_ ++ [V.int ((xm : Int) - (k : Int))])) = _
            rw [show (xm : Int) - (k : Int) = ((xm - k : Nat) : Int) from by omega, natV_app]
            rfl
        obtain ⟨sM, hD16⟩ := hM
        rw [natV_len, List.take_length] at hD16
        have s1516 := sk.trans sM
        refine ⟨_, rfl, _, rfl, tr, De, t, ts, ds, rfl, hRok, hP15.gx (sgx s1516), ⟨xs, SqL.of (s1516 _ _ hDe15), Pmap hPd15 fun _ _ => PDeed.fx (sfx s1516)⟩, fun ev H17 s17 nev hev => ?_⟩
        have hev : PRow K H17 ev (t :: ts) := hev
        obtain ⟨evs, rv, v1, v2, v3⟩ := hev.at' hkL
        have s1517 := s1516.trans s17
        refine ⟨_, rfl, ev, _, _, _, rfl, rfl, SqL.of v1, v2, _, rfl, _, rfl, _, rfl, De, _, rfl, SqL.of (s1517 _ _ hDe15), fun D18 nD18 => ?_⟩
        rw [cut_from (xs.map V.ref) k]
        have s18 := same_new (o := .lst ((xs.map V.ref).drop k)) nD18
        have hD18 : upd H17 D18 (.lst ((xs.map V.ref).drop k)) D18 = some (.lst ((xs.drop k).map V.ref)) := by rw [upd_same, List.map_drop]
        generalize upd H17 D18 (.lst ((xs.map V.ref).drop k)) = H18 at s18 hD18
        have s1518 := s1517.trans s18
        have edr : (t :: ts).drop k = at_ (t :: ts) k :: (t :: ts).drop (k + 1) := by
          have e := List.drop_eq_getElem_cons hkL
          rw [e]
          congr 1
          unfold at_
          rw [List.getD_eq_getElem?_getD, List.getElem?_eq_getElem hkL]
          rfl
        have hRd := hRow.drop hkL
        have hBd : ∀ x ∈ (t :: ts).drop k, x.length ≤ 1000 := fun x hx => hB1000 x (List.mem_of_mem_drop hx)
        have hVd := hVL.drop hkL (fun x hx => hge x (List.mem_cons_of_mem _ hx))
        have ekid : kids (at_ ((t :: ts).drop k) (τ - k)) f = kids (at_ (t :: ts) τ) f := by rw [drop_at_, show k + (τ - k) = τ from by omega]
        rw [← ekid] at hVd
        have hrun := run_top hVd
        have hsd : ((τ :: τs).map fun x => x - k).Pairwise (· ≤ ·) := List.pairwise_map.mpr (hsort1.imp fun {x y} h => by omega)
        have hld : ∀ x ∈ (τ :: τs).map (fun x => x - k), x < ((t :: ts).drop k).length := fun x hx => by
          obtain ⟨y, hy, rfl⟩ := List.mem_map.mp hx
          have h1 := hlt y hy
          have h2 := hge y hy
          rw [List.length_drop]
          omega
        have hPk : isP (at_ (t :: ts) k) f = true := by
          rw [(hRow.mono (i := 0) (j := k) (Nat.zero_le _) hkL).2.2 f hfl]
          show isP t f = true
          unfold isP
          rw [hF]
          rfl
        rw [edr] at hRd hBd hrun hld
        refine ⟨_, rfl, _, rfl, rv, D18, D16, at_ (t :: ts) k, (t :: ts).drop (k + 1), ds.drop k, f, (τ :: τs).map (fun x => x - k), Vv, rfl, ⟨hRd, hBd, by rw [List.length_drop]; omega⟩, v3.gx (sgx s18), ⟨xs.drop k, SqL.of hD18, Pdrop k (Pmap hPd15 fun _ _ => PDeed.fx (sfx s1518))⟩, hPk, .inl ((s17.trans s18) _ _ hD16), hsd, hld, by rw [List.length_map]; exact tlen, hrun, fun r19 H19 s19 nr19 hr19 => ?_⟩
        have s1519 := s1518.trans s19
        exact ⟨_, rfl, dI Vv, dI Vv, dI_at (SqL.of hr19), dI_at (SqL.of (s1519 _ _ hN15)), dI_shp _, dI_shp _, false, (by rw [dI_refl]; rfl), iteF ⟨s1519, _, _, rfl⟩⟩
      obtain ⟨s1520, y12, y13, rfl⟩ := hK
      have hDe20 := s1520 _ _ hDe15
      have hN20 := s1520 _ _ hN15
      have hP20 := hP15.gx (sgx s1520)
      have hPd20 := Pmap hPd15 fun _ _ => PDeed.fx (sfx s1520)
      have lxs := Plen hPd20
      refine ⟨fun σ' H' => ∃ (E : Addr) (us : List Addr) (Dc : Cnt), σ' = [some (.ref p), some (.ref b), some (.int ci), some (.ref r), some (.int (0 + (j : Nat))), some (.ref S), some (.ref D), some (.int (f : Nat)), some (.ref tr), some (.ref De), some (.ref N), some (.ref Rw), y12, y13, some (.ref E), none, none, none, none, none] ∧ Same H20 H' ∧ H' E = some (.lst (us.map V.ref)) ∧ Paired (RPair H') us Dc ∧ Vv ∈ Dc.map (·.1) ∧ Dc.length ≤ 5000, ?_, ?_⟩
      · refine ⟨_, rfl, De, _, rfl, .inl (SqL.of hDe20), _, _, rfl, rfl, _, rfl, ?_⟩
        rw [List.length_map, lxs]
        by_cases c3 : ((ds.length : Nat) : Int) < 3
        · rw [decide_eq_true c3]
          have hP0 : isP t f = true := by unfold isP; rw [hF]; rfl
          have hLst := lst_row hRow (by omega) (by show t.length ≤ 9; omega) (fun x hx => by
            obtain ⟨k, hk, rfl⟩ := List.mem_iff_getElem.mp hx
            have h1 := (hRow.mono (i := 0) (j := k) (Nat.zero_le _) hk).2.1
            have e1 : at_ (t :: ts) k = (t :: ts)[k] := by
              unfold at_
              rw [List.getD_eq_getElem?_getD, List.getElem?_eq_getElem hk]
              rfl
            rw [e1] at h1
            have e0 : at_ (t :: ts) 0 = t := rfl
            rw [e0] at h1
            omega) (p := f) hP0 hfl
          refine iteT ⟨_, rfl, _, rfl, _, rfl, tr, De, t, ts, ds, f, 5000, 1000000, rfl, hRok, hP20, ⟨xs, SqL.of hDe20, hPd20⟩, hP0, hLst, Nat.le_refl _, Nat.le_refl _, fun r21 H21 us Dc s21 hr21 hPr _ hpos hsum hcov => ⟨r21, us, Dc, rfl, s21, hr21, hPr, hcov _ (hVL.rc hsort1 hlt), ?_⟩⟩
          exact Nat.le_trans (cnt_len hpos) hsum
        · rw [decide_eq_false c3]
          refine iteF ⟨_, rfl, (by show 2 ≤ sizeLine; decide), fun T21 nT21 => ⟨(by show 1 ≤ sizeLine; decide), fun L21 nL21 => ⟨L21, [T21], [(Vv, 1)], rfl, (same_new nT21).trans (same_new nL21), upd_same, .cons ⟨N, ?_, ?_⟩ .nil, by simp, by simp⟩⟩⟩
          · exact upd_at upd_same (ne_of_none upd_same nL21)
          · exact upd_at (upd_at hN20 (ne_of_none hN20 nT21)) (ne_of_none (upd_at (o := .tup [.ref N, .int 1]) hN20 (ne_of_none hN20 nT21)) nL21)
      rintro σ' H21 ⟨E, us, Dc, rfl, s21, hE, hPr, hmem, hDl⟩
      have lus := Plen hPr
      refine ⟨_, rfl, _, rfl, E, rfl, ⟨_, SqL.of hE⟩, fun D22 nD22 => lc_it walk_list (fun k Hk => Same H21 Hk ∧ ∃ Ls : List Addr, Hk D22 = some (.lst (Ls.map V.ref)) ∧ Paired (fun a (e : List Nat × Nat) => Hk a = some (.lst (natV e.1)) ∧ a ≠ D22) Ls (Dc.take k)) ⟨same_new nD22, [], upd_same, .nil⟩ (fun k Hk _ h => SqL.of (h.1 _ _ hE)) (fun k x Hz Hk hk hK hy => ?_) (fun H22 hK => ?_)⟩
      · obtain ⟨sk, Ls, hLs, hPL⟩ := hK
        obtain ⟨rfl, hx⟩ := hy
        rw [List.length_map] at hk
        have huk := List.getElem?_eq_getElem hk
        generalize us[k] = uk at huk
        rw [List.getElem?_map, huk] at hx
        cases hx
        obtain ⟨ek, hek, La, hLa1, hLa2⟩ := Pget' hPr huk
        have etk : Dc.take (k + 1) = Dc.take k ++ [ek] := by rw [List.take_succ, hek]; rfl
        refine ⟨uk, _, rfl, SqT.of (sk _ _ hLa1), rfl, _, _, rfl, _, _, rfl, rfl, rfl, _, rfl, _, hLs, ?_, sput sk nD22, Ls ++ [La], by rw [upd_same, List.map_append]; rfl, ?_⟩
        · have := Plen hPL
          rw [List.length_take] at this
          rw [List.length_map]
          exact Nat.lt_of_le_of_lt (show Ls.length ≤ 5000 by omega) (by decide)
        · rw [etk]
          exact Paired.snoc (Pmap hPL fun a e h => ⟨upd_at h.1 h.2, h.2⟩) ⟨upd_at (sk _ _ hLa2) (ne_of_none hLa2 nD22), ne_of_none hLa2 nD22⟩
      obtain ⟨s2122, Ls, hLs, hPL⟩ := hK
      rw [List.length_map, lus, List.take_length] at hPL
      have s1522 := (s1520.trans s21).trans s2122
      refine ⟨dI Vv, Dc.map (fun e => dI e.1), dI_at (SqL.of (s1522 _ _ hN15)), .lst (SqL.of hLs) (dAll (Pmap hPL fun _ _ h => h.1)), dI_shp _, dLs_shp _, false, (by rw [dLs_any hmem]; rfl), iteF ⟨s015.trans s1522, R15.same s1522, _, _, _, _, _, _, _, _, _, _, _, rfl⟩⟩
    · obtain ⟨sj, Rj, x4, x5, x6, x7, x8, x9, x10, x11, x12, x13, x14, rfl⟩ := hJ
      exact ⟨sm.trans sj, _, _, _, _, _, _, _, _, _, _, _, _, _, rfl⟩
end
end NW
set_option Elab.async false
set_option linter.all false
set_option maxRecDepth 100000
set_option maxHeartbeats 0
namespace NW
open PySem PySem.Spec PyProof.Rows L2
theorem facts {P : Program} {w : World} {K : PySem.W.Frag} {h : Heap} {mg : Str → Option Value} {f : Addr} (X : K.In h) (G : h.Ns mainGlobals mg) (hfa : mg ("law" : Str) = some (.ref f)) (c : obsN K = valN) :
    ∃ fd : FuncData, (∀ (s : Shared) (v : Value), BindsTo s fd ⟨[v], []⟩ [("_law_script", v)]) ∧ ∀ base : Heap, K.In base → base.Ns mainGlobals mg → FnOk P w K mg base CX0 80 f fd ["_law_script"] (spLaw K) := by
  have T : Txt K mg := ⟨c, h, X, G⟩
  obtain ⟨fd, F⟩ := T.f_law
  have e := hfa.symm.trans T.g_law
  cases e
  have b := FunD.bindsA (ps := ["_law_script"]) F fun _ _ _ _ _ _ us hl => match us, hl with | [_], _ => rfl
  exact ⟨fd, fun s v => b s [v] rfl, fun base _ _ => fn_ok F sc_law len_law (bdy_law T)⟩
end NW
open PySem PySem.W PySem.Calls PyProof.Rows
theorem PySem.Challenge.cw_namewalk_k99_whole_trees_listed_and_clim_holds : PySem.Challenge.rw_namewalk_k99_whole_trees_listed_and_clim.Holds := by
  w_on; o_law
  refine HandSHeadRun.head_any (r := OpenLaw.row PySem.Challenge.rw_namewalk_k99_whole_trees_listed_and_clim) (q := view (OpenLaw.row PySem.Challenge.rw_namewalk_k99_whole_trees_listed_and_clim).prog [105]) (H := NW.hkW) (ob := NW.obW) (M := 20000) (loose := NW.namesl) (d := HandSHeadRun.topDef (OpenLaw.row PySem.Challenge.rw_namewalk_k99_whole_trees_listed_and_clim).prog 105) (kwd := []) NW.obW_eq
    (by kernel_rfl) (fun s => by kernel_rfl) NW.runW (by kernel_rfl) (by kernel_rfl) (by kernel_rfl) (by rfl) (by first | assumption | decide +kernel) (by decide +kernel) ⟨rfl, rfl, rfl, rfl, rfl, by decide +kernel⟩ ?hw ?hc
  case hw => w_witness2
  case hc =>
    refine L2.walk_ofE (l := PySem.Challenge.rw_namewalk_k99_whole_trees_listed_and_clim) (n := 63) (k := 80) (x := "_law_script") (CX := L2.CX0) rfl (by decide) (by kernel_rfl) ⟨rfl, by decide, by decide⟩ ?F (fun _ _ _ _ z => z)
    intro w mg fa h Y G hmg0
    obtain ⟨K, KX, c⟩ := Y
    have hmg : mg ("law" : PySem.Str) = some (.ref fa) := by
      have e : (HandSHeadRun.topDef (OpenLaw.row PySem.Challenge.rw_namewalk_k99_whole_trees_listed_and_clim).prog 105).name = ("law" : PySem.Str) := by kernel_rfl
      rw [← e]
      exact hmg0
    obtain ⟨fd, hb, hF⟩ := NW.facts (P := (PySem.Challenge.rw_namewalk_k99_whole_trees_listed_and_clim).prog) (w := w) KX G hmg c
    exact ⟨K, fd, NW.spLaw K, KX, hb, fun H a ns hl _ hS => ⟨a, ns, rfl, hl, hS, fun _ => rfl⟩, hF⟩
