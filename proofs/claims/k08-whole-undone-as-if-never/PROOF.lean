import PyProof.Rows.All
import Wide.All
import OpenK.AllK
import Wide.FinOn
import HandS.Words
import HandS.Head0
import HandS.Head1
import HandS.Head2
import HandS.HeadHook1
import HandS.HeadHook2
import HandS.HeadHook3
import HandS.HeadHook4
import PySem.Challenge.RW_rowchains_k08_whole_undone_as_if_never
import HandS.ForMost
import HandS.TupAny
import HandS.IsInst
import HandS.Defaults
import HandS.Star
import KE.GoesEnum
import HandS.Style
import HandS.Lambda
import HandS.DictComp
import HandS.ClsMeth
import HandS.SetBool
import HandS.Strs
import HandS.SortInts
import KE.SortData
import KE.KEqDict
import HandS.Flow
import HandS.EndBits
import HandS.EndTab
import HandS.HeadWalk
import KE.KStateDown
import HandS.HeadEnd
set_option Elab.async false
set_option linter.all false
set_option maxRecDepth 100000
set_option maxHeartbeats 2000000
/-! The text by places, and what the head must find, by names (printed by gen.py). -/
namespace Rc
open PySem PySem.Spec PyProof.Rows L2 He
def top (i : Nat) : Stmt := PySem.Challenge.pw_rowchains_k08_whole_undone_as_if_never.main.body.getD i (.Pass ⟨0, 0, 0, 0⟩)
abbrev t_tupled : Stmt := top 7
abbrev t_is_number : Stmt := top 8
abbrev t_size_of : Stmt := top 9
abbrev t_changed : Stmt := top 18
abbrev t_is_version : Stmt := top 29
abbrev t_is_only : Stmt := top 30
abbrev t_first_in : Stmt := top 31
abbrev t_follower : Stmt := top 32
abbrev t_chain : Stmt := top 33
abbrev t_room : Stmt := top 34
abbrev t_free_slot : Stmt := top 35
abbrev t_fits : Stmt := top 36
abbrev t_is_dead : Stmt := top 76
abbrev t_dead_ahead : Stmt := top 77
abbrev t_pruned : Stmt := top 78
abbrev t_is_seen_by_all : Stmt := top 79
abbrev t_is_clear : Stmt := top 80
abbrev t_counts : Stmt := top 86
abbrev t_sees : Stmt := top 87
abbrev t_is_past : Stmt := top 88
abbrev t_settled : Stmt := top 89
abbrev t_version_of : Stmt := top 120
abbrev t_with_slot : Stmt := top 121
abbrev t_Deal_init : Stmt := inClass (top 62) 0
abbrev t_Ledger_init : Stmt := inClass (top 63) 0
abbrev t_Ledger_following : Stmt := inClass (top 63) 1
abbrev t_Ledger_take_number : Stmt := inClass (top 63) 2
abbrev t_Ledger_owner_of : Stmt := inClass (top 63) 3
abbrev t_Ledger_look_running : Stmt := inClass (top 63) 4
abbrev t_Ledger_begin : Stmt := inClass (top 63) 5
abbrev t_Ledger_save : Stmt := inClass (top 63) 6
abbrev t_Ledger_undo : Stmt := inClass (top 63) 7
abbrev t_Ledger_running_parts : Stmt := inClass (top 63) 8
abbrev t_Ledger_enter : Stmt := inClass (top 63) 9
abbrev t_Ledger_finish : Stmt := inClass (top 63) 10
abbrev t_Ledger_state : Stmt := inClass (top 63) 11
abbrev t_Ledger_with_state : Stmt := inClass (top 63) 12
abbrev t_Ledger_undone : Stmt := inClass (top 63) 13
abbrev t_Ledger_committed : Stmt := inClass (top 63) 14
abbrev t_Ledger_running : Stmt := inClass (top 63) 15
abbrev t_Ledger_running_beside : Stmt := inClass (top 63) 16
abbrev t_Ledger_parts : Stmt := inClass (top 63) 17
abbrev t_Ledger_working : Stmt := inClass (top 63) 18
abbrev t_Ledger_level : Stmt := inClass (top 63) 19
abbrev t_Ledger_command : Stmt := inClass (top 63) 20
abbrev t_Ledger_stepped : Stmt := inClass (top 63) 21
abbrev t_Ledger_snapshot_now : Stmt := inClass (top 63) 22
abbrev t_Table_init : Stmt := inClass (top 122) 0
abbrev t_Table_pages : Stmt := inClass (top 122) 1
abbrev t_Table_many : Stmt := inClass (top 122) 2
abbrev t_Table_page : Stmt := inClass (top 122) 3
abbrev t_Table_slot : Stmt := inClass (top 122) 4
abbrev t_Table_marked : Stmt := inClass (top 122) 5
abbrev t_Table_dead_slots : Stmt := inClass (top 122) 7
abbrev t_Table_keep : Stmt := inClass (top 122) 8
abbrev t_Table_end : Stmt := inClass (top 122) 9
abbrev t_Table_look : Stmt := inClass (top 122) 10
abbrev t_Table_prune : Stmt := inClass (top 122) 11
abbrev t_Table_free : Stmt := inClass (top 122) 12
abbrev t_Table_place_for : Stmt := inClass (top 122) 13
abbrev t_Table_placing : Stmt := inClass (top 122) 14
abbrev t_Table_newest : Stmt := inClass (top 122) 15
abbrev t_HeapCursor_init : Stmt := inClass (top 108) 0
abbrev t_HeapCursor_owner : Stmt := inClass (top 107) 1
abbrev t_HeapCursor_opened_in : Stmt := inClass (top 107) 2
abbrev t_HeapCursor_snapshot : Stmt := inClass (top 107) 3
abbrev t_HeapCursor_told : Stmt := inClass (top 107) 4
abbrev t_HeapCursor_tell : Stmt := inClass (top 107) 5
abbrev t_HeapCursor_note_page : Stmt := inClass (top 108) 1
abbrev t_HeapCursor_next : Stmt := inClass (top 108) 2
abbrev t_Cursor_init : Stmt := inClass (top 107) 0
abbrev t_Deals_init : Stmt := inClass (top 125) 0
abbrev t_Base_init : Stmt := inClass (top 135) 0
abbrev t_Base_close_where : Stmt := inClass (top 125) 4
abbrev t_Base_finish : Stmt := inClass (top 125) 5
abbrev t_Base_undone : Stmt := inClass (top 125) 6
abbrev t_Base_kept : Stmt := inClass (top 125) 7
abbrev t_Base_settled : Stmt := inClass (top 125) 8
abbrev t_Base_snapshot_for : Stmt := inClass (top 125) 9
abbrev t_Base_cursor_for : Stmt := inClass (top 125) 10
abbrev t_Base_cursor : Stmt := inClass (top 125) 11
abbrev t_Base_names : Stmt := inClass (top 125) 12
abbrev t_Base_begin : Stmt := inClass (top 135) 1
abbrev t_Base_save : Stmt := inClass (top 135) 2
abbrev t_Base_undo : Stmt := inClass (top 135) 3
abbrev t_Base_commit : Stmt := inClass (top 135) 4
abbrev t_Base_abort : Stmt := inClass (top 135) 5
abbrev t_Base_scan : Stmt := inClass (top 135) 7
abbrev t_Base_close : Stmt := inClass (top 135) 8
abbrev t_Base_next : Stmt := inClass (top 135) 9
abbrev t_Base_read : Stmt := inClass (top 135) 12
abbrev t_Base_writing_names : Stmt := inClass (top 135) 13
abbrev t_Base_refusal : Stmt := inClass (top 135) 14
abbrev t_Base_keep_new : Stmt := inClass (top 135) 15
abbrev t_Base_wrote : Stmt := inClass (top 135) 16
abbrev t_Base_put : Stmt := inClass (top 135) 17
abbrev t_Base_newest : Stmt := inClass (top 135) 18
abbrev t_Base_remove : Stmt := inClass (top 135) 19
abbrev t_Base_change : Stmt := inClass (top 135) 20
abbrev t_Base_prune : Stmt := inClass (top 135) 21
abbrev t_Base_dead_slots : Stmt := inClass (top 135) 23
abbrev t_Base_free : Stmt := inClass (top 135) 25
abbrev t_Base_look_held : Stmt := inClass (top 135) 26
abbrev t_Base_vacuum : Stmt := inClass (top 135) 27
abbrev t_Base_step : Stmt := inClass (top 135) 28
abbrev t_Base_pages : Stmt := inClass (top 135) 39
abbrev t_Base_marked : Stmt := inClass (top 135) 22
abbrev t_Base_image : Stmt := inClass (top 135) 45
abbrev t_Vacuum_init : Stmt := inClass (top 131) 0
abbrev t_Vacuum_noted : Stmt := inClass (top 131) 1
abbrev t_Vacuum_prune_next : Stmt := inClass (top 131) 2
abbrev t_Vacuum_name_next : Stmt := inClass (top 131) 3
abbrev t_Vacuum_free_next : Stmt := inClass (top 131) 4
abbrev t_Vacuum_step : Stmt := inClass (top 131) 5
abbrev t_law_cells : Stmt := top 137
abbrev t_law_box : Stmt := top 138
abbrev t_law_take : Stmt := top 139
abbrev t_law_of : Stmt := top 140
abbrev t_law_same : Stmt := top 141
abbrev t_law_done : Stmt := top 142
abbrev t_law_drawn : Stmt := top 143
abbrev t_law_session : Stmt := top 144
abbrev t_law_read_now : Stmt := top 145
abbrev t_law_swept : Stmt := top 146
abbrev t_law_right : Stmt := top 147
abbrev t_law : Stmt := top 148
abbrev nsDeal : List Str := ["own_parts", "own_level", "own_commands"]
theorem nd_Deal : nsDeal.Nodup := by decide +kernel
abbrev nsLedger : List Str := ["own_deals", "own_owners", "own_states"]
theorem nd_Ledger : nsLedger.Nodup := by decide +kernel
abbrev nsTable : List Str := ["own_pages", "own_marks"]
theorem nd_Table : nsTable.Nodup := by decide +kernel
abbrev nsBase : List Str := ["own_columns", "own_ledger", "own_table", "own_indexes", "own_cursors", "own_opened", "own_firsts", "own_writers", "own_vacuum"]
theorem nd_Base : nsBase.Nodup := by decide +kernel
abbrev nsVacuum : List Str := ["own_many", "own_memory", "own_page", "own_noted", "own_cleaned", "own_stage"]
theorem nd_Vacuum : nsVacuum.Nodup := by decide +kernel
abbrev nsHeapCursor : List Str := ["own_owner", "own_part", "own_snapshot", "own_told", "own_many", "own_page", "own_noted"]
theorem nd_HeapCursor : nsHeapCursor.Nodup := by decide +kernel
def fa : List He.Fa := [(.cls "Deal"),
  (.cls "Ledger"),
  (.cls "Table"),
  (.cls "Base"),
  (.cls "Vacuum"),
  (.cls "HeapCursor"),
  (.noat "Deal" "own_parts"),
  (.noat "Deal" "own_level"),
  (.noat "Deal" "own_commands"),
  (.noat "Ledger" "own_deals"),
  (.noat "Ledger" "own_owners"),
  (.noat "Ledger" "own_states"),
  (.noat "Table" "own_pages"),
  (.noat "Table" "own_marks"),
  (.noat "Base" "own_columns"),
  (.noat "Base" "own_ledger"),
  (.noat "Base" "own_table"),
  (.noat "Base" "own_indexes"),
  (.noat "Base" "own_cursors"),
  (.noat "Base" "own_opened"),
  (.noat "Base" "own_firsts"),
  (.noat "Base" "own_writers"),
  (.noat "Base" "own_vacuum"),
  (.noat "Vacuum" "own_many"),
  (.noat "Vacuum" "own_memory"),
  (.noat "Vacuum" "own_page"),
  (.noat "Vacuum" "own_noted"),
  (.noat "Vacuum" "own_cleaned"),
  (.noat "Vacuum" "own_stage"),
  (.noat "HeapCursor" "own_owner"),
  (.noat "HeapCursor" "own_part"),
  (.noat "HeapCursor" "own_snapshot"),
  (.noat "HeapCursor" "own_told"),
  (.noat "HeapCursor" "own_many"),
  (.noat "HeapCursor" "own_page"),
  (.noat "HeapCursor" "own_noted"),
  (.meth "Deal" "__init__"),
  (.meth "Ledger" "__init__"),
  (.meth "Ledger" "following"),
  (.meth "Ledger" "take_number"),
  (.meth "Ledger" "owner_of"),
  (.meth "Ledger" "look_running"),
  (.meth "Ledger" "begin"),
  (.meth "Ledger" "save"),
  (.meth "Ledger" "undo"),
  (.meth "Ledger" "running_parts"),
  (.meth "Ledger" "enter"),
  (.meth "Ledger" "finish"),
  (.meth "Ledger" "state"),
  (.meth "Ledger" "with_state"),
  (.meth "Ledger" "undone"),
  (.meth "Ledger" "committed"),
  (.meth "Ledger" "running"),
  (.meth "Ledger" "running_beside"),
  (.meth "Ledger" "parts"),
  (.meth "Ledger" "working"),
  (.meth "Ledger" "level"),
  (.meth "Ledger" "command"),
  (.meth "Ledger" "stepped"),
  (.meth "Ledger" "snapshot_now"),
  (.meth "Table" "__init__"),
  (.meth "Table" "pages"),
  (.meth "Table" "many"),
  (.meth "Table" "page"),
  (.meth "Table" "slot"),
  (.meth "Table" "marked"),
  (.meth "Table" "dead_slots"),
  (.meth "Table" "keep"),
  (.meth "Table" "end"),
  (.meth "Table" "look"),
  (.meth "Table" "prune"),
  (.meth "Table" "free"),
  (.meth "Table" "place_for"),
  (.meth "Table" "placing"),
  (.meth "Table" "newest"),
  (.meth "HeapCursor" "__init__"),
  (.meth "HeapCursor" "owner"),
  (.meth "HeapCursor" "opened_in"),
  (.meth "HeapCursor" "snapshot"),
  (.meth "HeapCursor" "told"),
  (.meth "HeapCursor" "tell"),
  (.meth "HeapCursor" "note_page"),
  (.meth "HeapCursor" "next"),
  (.meth "Base" "__init__"),
  (.meth "Base" "close_where"),
  (.meth "Base" "finish"),
  (.meth "Base" "undone"),
  (.meth "Base" "kept"),
  (.meth "Base" "settled"),
  (.meth "Base" "snapshot_for"),
  (.meth "Base" "cursor_for"),
  (.meth "Base" "cursor"),
  (.meth "Base" "names"),
  (.meth "Base" "begin"),
  (.meth "Base" "save"),
  (.meth "Base" "undo"),
  (.meth "Base" "commit"),
  (.meth "Base" "abort"),
  (.meth "Base" "scan"),
  (.meth "Base" "close"),
  (.meth "Base" "next"),
  (.meth "Base" "read"),
  (.meth "Base" "writing_names"),
  (.meth "Base" "refusal"),
  (.meth "Base" "keep_new"),
  (.meth "Base" "wrote"),
  (.meth "Base" "put"),
  (.meth "Base" "newest"),
  (.meth "Base" "remove"),
  (.meth "Base" "change"),
  (.meth "Base" "prune"),
  (.meth "Base" "dead_slots"),
  (.meth "Base" "free"),
  (.meth "Base" "look_held"),
  (.meth "Base" "vacuum"),
  (.meth "Base" "step"),
  (.meth "Base" "pages"),
  (.meth "Base" "marked"),
  (.meth "Base" "image"),
  (.meth "Vacuum" "__init__"),
  (.meth "Vacuum" "noted"),
  (.meth "Vacuum" "prune_next"),
  (.meth "Vacuum" "name_next"),
  (.meth "Vacuum" "free_next"),
  (.meth "Vacuum" "step"),
  (.mkr "Deal"),
  (.mkr "Ledger"),
  (.mkr "Table"),
  (.mkr "Base"),
  (.mkr "Vacuum"),
  (.mkr "HeapCursor"),
  (.glo "tupled"),
  (.glo "is_number"),
  (.glo "size_of"),
  (.glo "changed"),
  (.glo "is_version"),
  (.glo "is_only"),
  (.glo "first_in"),
  (.glo "follower"),
  (.glo "chain"),
  (.glo "room"),
  (.glo "free_slot"),
  (.glo "fits"),
  (.glo "is_dead"),
  (.glo "dead_ahead"),
  (.glo "pruned"),
  (.glo "is_seen_by_all"),
  (.glo "is_clear"),
  (.glo "counts"),
  (.glo "sees"),
  (.glo "is_past"),
  (.glo "settled"),
  (.glo "version_of"),
  (.glo "with_slot"),
  (.glo "_law_cells"),
  (.glo "_law_box"),
  (.glo "_law_take"),
  (.glo "_law_of"),
  (.glo "_law_same"),
  (.glo "_law_done"),
  (.glo "_law_drawn"),
  (.glo "_law_session"),
  (.glo "_law_read_now"),
  (.glo "_law_swept"),
  (.glo "_law_right"),
  (.glo "law"),
  (.glo "Deal"),
  (.glo "Ledger"),
  (.glo "Table"),
  (.glo "Base"),
  (.glo "Vacuum"),
  (.glo "HeapCursor"),
  (.glo "settled_sight"),
  (.glo "Deals"),
  (.glo "Cursor"),
  (.glo "UNUSED_table"),
  (.glo "DEAD_table"),
  (.free "len"),
  (.free "range"),
  (.free "enumerate"),
  (.free "sorted"),
  (.free "list"),
  (.free "tuple"),
  (.free "int"),
  (.free "sum"),
  (.free "isinstance"),
  (.free "any"),
  (.free "all"),
  (.free "min"),
  (.free "repr"),
  (.free "dict"),
  (.free "abs"),
  (.free "bool"),
  (.free "str"),
  (.int "ROOM" 30),
  (.int "SLOTS" 8),
  (.int "MEMORY" 4),
  (.int "HEAD_SIZE" 2),
  (.int "MAKER_chains" 1),
  (.int "ENDER_chains" 3),
  (.int "NEXT_chains" 5),
  (.int "ONLY" 6),
  (.int "CELLS" 7),
  (.int "MAKER_sight" 1),
  (.int "MADE" 2),
  (.int "ENDER_sight" 3),
  (.int "ENDED" 4),
  (.int "ENDER_table" 3),
  (.int "NEXT_table" 5),
  (.str "ADD" "add"),
  (.str "UNUSED_chains" "unused"),
  (.str "DEAD_chains" "dead"),
  (.str "REDIRECT" "redirect"),
  (.str "ROW_chains" "row"),
  (.str "RUNS" "runs"),
  (.str "COMMITTED" "committed"),
  (.str "UNDONE" "undone"),
  (.str "BUILT" "built"),
  (.str "EACH" "each"),
  (.str "ONCE" "once"),
  (.str "BUSY_entries" "busy"),
  (.str "DOUBLE" "double"),
  (.str "DECLARED" "declared"),
  (.str "SCANNING" "scanning"),
  (.str "READY" "ready"),
  (.str "CHECKING" "checking"),
  (.str "VALID" "valid"),
  (.str "LEFT" "left"),
  (.str "SCANNED" "scanned"),
  (.str "CHECKED" "checked"),
  (.str "ROW_table" "row"),
  (.str "HERE" "here"),
  (.str "BUSY_table" "busy"),
  (.str "GONE" "gone"),
  (.str "HEAP" "heap"),
  (.str "PRUNED" "pruned"),
  (.str "CLEANED" "cleaned"),
  (.str "FREED" "freed"),
  (.str "OVER" "over"),
  (.str "DONE" "done")]
def d_tupled : He.DefD := { at_ := ("tupled", none), name := "tupled", qual := "tupled", params := defArgs t_tupled, body := defBody t_tupled, scope := defScope t_tupled, dfl := [] }
def d_is_number : He.DefD := { at_ := ("is_number", none), name := "is_number", qual := "is_number", params := defArgs t_is_number, body := defBody t_is_number, scope := defScope t_is_number, dfl := [] }
def d_size_of : He.DefD := { at_ := ("size_of", none), name := "size_of", qual := "size_of", params := defArgs t_size_of, body := defBody t_size_of, scope := defScope t_size_of, dfl := [] }
def d_changed : He.DefD := { at_ := ("changed", none), name := "changed", qual := "changed", params := defArgs t_changed, body := defBody t_changed, scope := defScope t_changed, dfl := [] }
def d_is_version : He.DefD := { at_ := ("is_version", none), name := "is_version", qual := "is_version", params := defArgs t_is_version, body := defBody t_is_version, scope := defScope t_is_version, dfl := [] }
def d_is_only : He.DefD := { at_ := ("is_only", none), name := "is_only", qual := "is_only", params := defArgs t_is_only, body := defBody t_is_only, scope := defScope t_is_only, dfl := [] }
def d_first_in : He.DefD := { at_ := ("first_in", none), name := "first_in", qual := "first_in", params := defArgs t_first_in, body := defBody t_first_in, scope := defScope t_first_in, dfl := [] }
def d_follower : He.DefD := { at_ := ("follower", none), name := "follower", qual := "follower", params := defArgs t_follower, body := defBody t_follower, scope := defScope t_follower, dfl := [] }
def d_chain : He.DefD := { at_ := ("chain", none), name := "chain", qual := "chain", params := defArgs t_chain, body := defBody t_chain, scope := defScope t_chain, dfl := [] }
def d_room : He.DefD := { at_ := ("room", none), name := "room", qual := "room", params := defArgs t_room, body := defBody t_room, scope := defScope t_room, dfl := [] }
def d_free_slot : He.DefD := { at_ := ("free_slot", none), name := "free_slot", qual := "free_slot", params := defArgs t_free_slot, body := defBody t_free_slot, scope := defScope t_free_slot, dfl := [] }
def d_fits : He.DefD := { at_ := ("fits", none), name := "fits", qual := "fits", params := defArgs t_fits, body := defBody t_fits, scope := defScope t_fits, dfl := [] }
def d_is_dead : He.DefD := { at_ := ("is_dead", none), name := "is_dead", qual := "is_dead", params := defArgs t_is_dead, body := defBody t_is_dead, scope := defScope t_is_dead, dfl := [] }
def d_dead_ahead : He.DefD := { at_ := ("dead_ahead", none), name := "dead_ahead", qual := "dead_ahead", params := defArgs t_dead_ahead, body := defBody t_dead_ahead, scope := defScope t_dead_ahead, dfl := [] }
def d_pruned : He.DefD := { at_ := ("pruned", none), name := "pruned", qual := "pruned", params := defArgs t_pruned, body := defBody t_pruned, scope := defScope t_pruned, dfl := [] }
def d_is_seen_by_all : He.DefD := { at_ := ("is_seen_by_all", none), name := "is_seen_by_all", qual := "is_seen_by_all", params := defArgs t_is_seen_by_all, body := defBody t_is_seen_by_all, scope := defScope t_is_seen_by_all, dfl := [] }
def d_is_clear : He.DefD := { at_ := ("is_clear", none), name := "is_clear", qual := "is_clear", params := defArgs t_is_clear, body := defBody t_is_clear, scope := defScope t_is_clear, dfl := [] }
def d_counts : He.DefD := { at_ := ("counts", none), name := "counts", qual := "counts", params := defArgs t_counts, body := defBody t_counts, scope := defScope t_counts, dfl := [] }
def d_sees : He.DefD := { at_ := ("sees", none), name := "sees", qual := "sees", params := defArgs t_sees, body := defBody t_sees, scope := defScope t_sees, dfl := [] }
def d_is_past : He.DefD := { at_ := ("is_past", none), name := "is_past", qual := "is_past", params := defArgs t_is_past, body := defBody t_is_past, scope := defScope t_is_past, dfl := [] }
def d_settled : He.DefD := { at_ := ("settled_sight", none), name := "settled", qual := "settled", params := defArgs t_settled, body := defBody t_settled, scope := defScope t_settled, dfl := [] }
def d_version_of : He.DefD := { at_ := ("version_of", none), name := "version_of", qual := "version_of", params := defArgs t_version_of, body := defBody t_version_of, scope := defScope t_version_of, dfl := [] }
def d_with_slot : He.DefD := { at_ := ("with_slot", none), name := "with_slot", qual := "with_slot", params := defArgs t_with_slot, body := defBody t_with_slot, scope := defScope t_with_slot, dfl := [] }
def d_Deal_init : He.DefD := { at_ := ("Deal", some "__init__"), name := "__init__", qual := "Deal.__init__", params := defArgs t_Deal_init, body := defBody t_Deal_init, scope := defScope t_Deal_init, dfl := [] }
def d_Ledger_init : He.DefD := { at_ := ("Ledger", some "__init__"), name := "__init__", qual := "Ledger.__init__", params := defArgs t_Ledger_init, body := defBody t_Ledger_init, scope := defScope t_Ledger_init, dfl := [] }
def d_Ledger_following : He.DefD := { at_ := ("Ledger", some "following"), name := "following", qual := "Ledger.following", params := defArgs t_Ledger_following, body := defBody t_Ledger_following, scope := defScope t_Ledger_following, dfl := [] }
def d_Ledger_take_number : He.DefD := { at_ := ("Ledger", some "take_number"), name := "take_number", qual := "Ledger.take_number", params := defArgs t_Ledger_take_number, body := defBody t_Ledger_take_number, scope := defScope t_Ledger_take_number, dfl := [.non] }
def d_Ledger_owner_of : He.DefD := { at_ := ("Ledger", some "owner_of"), name := "owner_of", qual := "Ledger.owner_of", params := defArgs t_Ledger_owner_of, body := defBody t_Ledger_owner_of, scope := defScope t_Ledger_owner_of, dfl := [] }
def d_Ledger_look_running : He.DefD := { at_ := ("Ledger", some "look_running"), name := "look_running", qual := "Ledger.look_running", params := defArgs t_Ledger_look_running, body := defBody t_Ledger_look_running, scope := defScope t_Ledger_look_running, dfl := [] }
def d_Ledger_begin : He.DefD := { at_ := ("Ledger", some "begin"), name := "begin", qual := "Ledger.begin", params := defArgs t_Ledger_begin, body := defBody t_Ledger_begin, scope := defScope t_Ledger_begin, dfl := [] }
def d_Ledger_save : He.DefD := { at_ := ("Ledger", some "save"), name := "save", qual := "Ledger.save", params := defArgs t_Ledger_save, body := defBody t_Ledger_save, scope := defScope t_Ledger_save, dfl := [] }
def d_Ledger_undo : He.DefD := { at_ := ("Ledger", some "undo"), name := "undo", qual := "Ledger.undo", params := defArgs t_Ledger_undo, body := defBody t_Ledger_undo, scope := defScope t_Ledger_undo, dfl := [] }
def d_Ledger_running_parts : He.DefD := { at_ := ("Ledger", some "running_parts"), name := "running_parts", qual := "Ledger.running_parts", params := defArgs t_Ledger_running_parts, body := defBody t_Ledger_running_parts, scope := defScope t_Ledger_running_parts, dfl := [] }
def d_Ledger_enter : He.DefD := { at_ := ("Ledger", some "enter"), name := "enter", qual := "Ledger.enter", params := defArgs t_Ledger_enter, body := defBody t_Ledger_enter, scope := defScope t_Ledger_enter, dfl := [] }
def d_Ledger_finish : He.DefD := { at_ := ("Ledger", some "finish"), name := "finish", qual := "Ledger.finish", params := defArgs t_Ledger_finish, body := defBody t_Ledger_finish, scope := defScope t_Ledger_finish, dfl := [] }
def d_Ledger_state : He.DefD := { at_ := ("Ledger", some "state"), name := "state", qual := "Ledger.state", params := defArgs t_Ledger_state, body := defBody t_Ledger_state, scope := defScope t_Ledger_state, dfl := [] }
def d_Ledger_with_state : He.DefD := { at_ := ("Ledger", some "with_state"), name := "with_state", qual := "Ledger.with_state", params := defArgs t_Ledger_with_state, body := defBody t_Ledger_with_state, scope := defScope t_Ledger_with_state, dfl := [] }
def d_Ledger_undone : He.DefD := { at_ := ("Ledger", some "undone"), name := "undone", qual := "Ledger.undone", params := defArgs t_Ledger_undone, body := defBody t_Ledger_undone, scope := defScope t_Ledger_undone, dfl := [] }
def d_Ledger_committed : He.DefD := { at_ := ("Ledger", some "committed"), name := "committed", qual := "Ledger.committed", params := defArgs t_Ledger_committed, body := defBody t_Ledger_committed, scope := defScope t_Ledger_committed, dfl := [] }
def d_Ledger_running : He.DefD := { at_ := ("Ledger", some "running"), name := "running", qual := "Ledger.running", params := defArgs t_Ledger_running, body := defBody t_Ledger_running, scope := defScope t_Ledger_running, dfl := [] }
def d_Ledger_running_beside : He.DefD := { at_ := ("Ledger", some "running_beside"), name := "running_beside", qual := "Ledger.running_beside", params := defArgs t_Ledger_running_beside, body := defBody t_Ledger_running_beside, scope := defScope t_Ledger_running_beside, dfl := [] }
def d_Ledger_parts : He.DefD := { at_ := ("Ledger", some "parts"), name := "parts", qual := "Ledger.parts", params := defArgs t_Ledger_parts, body := defBody t_Ledger_parts, scope := defScope t_Ledger_parts, dfl := [] }
def d_Ledger_working : He.DefD := { at_ := ("Ledger", some "working"), name := "working", qual := "Ledger.working", params := defArgs t_Ledger_working, body := defBody t_Ledger_working, scope := defScope t_Ledger_working, dfl := [] }
def d_Ledger_level : He.DefD := { at_ := ("Ledger", some "level"), name := "level", qual := "Ledger.level", params := defArgs t_Ledger_level, body := defBody t_Ledger_level, scope := defScope t_Ledger_level, dfl := [] }
def d_Ledger_command : He.DefD := { at_ := ("Ledger", some "command"), name := "command", qual := "Ledger.command", params := defArgs t_Ledger_command, body := defBody t_Ledger_command, scope := defScope t_Ledger_command, dfl := [] }
def d_Ledger_stepped : He.DefD := { at_ := ("Ledger", some "stepped"), name := "stepped", qual := "Ledger.stepped", params := defArgs t_Ledger_stepped, body := defBody t_Ledger_stepped, scope := defScope t_Ledger_stepped, dfl := [] }
def d_Ledger_snapshot_now : He.DefD := { at_ := ("Ledger", some "snapshot_now"), name := "snapshot_now", qual := "Ledger.snapshot_now", params := defArgs t_Ledger_snapshot_now, body := defBody t_Ledger_snapshot_now, scope := defScope t_Ledger_snapshot_now, dfl := [.non] }
def d_Table_init : He.DefD := { at_ := ("Table", some "__init__"), name := "__init__", qual := "Table.__init__", params := defArgs t_Table_init, body := defBody t_Table_init, scope := defScope t_Table_init, dfl := [] }
def d_Table_pages : He.DefD := { at_ := ("Table", some "pages"), name := "pages", qual := "Table.pages", params := defArgs t_Table_pages, body := defBody t_Table_pages, scope := defScope t_Table_pages, dfl := [] }
def d_Table_many : He.DefD := { at_ := ("Table", some "many"), name := "many", qual := "Table.many", params := defArgs t_Table_many, body := defBody t_Table_many, scope := defScope t_Table_many, dfl := [] }
def d_Table_page : He.DefD := { at_ := ("Table", some "page"), name := "page", qual := "Table.page", params := defArgs t_Table_page, body := defBody t_Table_page, scope := defScope t_Table_page, dfl := [] }
def d_Table_slot : He.DefD := { at_ := ("Table", some "slot"), name := "slot", qual := "Table.slot", params := defArgs t_Table_slot, body := defBody t_Table_slot, scope := defScope t_Table_slot, dfl := [] }
def d_Table_marked : He.DefD := { at_ := ("Table", some "marked"), name := "marked", qual := "Table.marked", params := defArgs t_Table_marked, body := defBody t_Table_marked, scope := defScope t_Table_marked, dfl := [] }
def d_Table_dead_slots : He.DefD := { at_ := ("Table", some "dead_slots"), name := "dead_slots", qual := "Table.dead_slots", params := defArgs t_Table_dead_slots, body := defBody t_Table_dead_slots, scope := defScope t_Table_dead_slots, dfl := [] }
def d_Table_keep : He.DefD := { at_ := ("Table", some "keep"), name := "keep", qual := "Table.keep", params := defArgs t_Table_keep, body := defBody t_Table_keep, scope := defScope t_Table_keep, dfl := [] }
def d_Table_end : He.DefD := { at_ := ("Table", some "end"), name := "end", qual := "Table.end", params := defArgs t_Table_end, body := defBody t_Table_end, scope := defScope t_Table_end, dfl := [] }
def d_Table_look : He.DefD := { at_ := ("Table", some "look"), name := "look", qual := "Table.look", params := defArgs t_Table_look, body := defBody t_Table_look, scope := defScope t_Table_look, dfl := [] }
def d_Table_prune : He.DefD := { at_ := ("Table", some "prune"), name := "prune", qual := "Table.prune", params := defArgs t_Table_prune, body := defBody t_Table_prune, scope := defScope t_Table_prune, dfl := [] }
def d_Table_free : He.DefD := { at_ := ("Table", some "free"), name := "free", qual := "Table.free", params := defArgs t_Table_free, body := defBody t_Table_free, scope := defScope t_Table_free, dfl := [] }
def d_Table_place_for : He.DefD := { at_ := ("Table", some "place_for"), name := "place_for", qual := "Table.place_for", params := defArgs t_Table_place_for, body := defBody t_Table_place_for, scope := defScope t_Table_place_for, dfl := [.non] }
def d_Table_placing : He.DefD := { at_ := ("Table", some "placing"), name := "placing", qual := "Table.placing", params := defArgs t_Table_placing, body := defBody t_Table_placing, scope := defScope t_Table_placing, dfl := [] }
def d_Table_newest : He.DefD := { at_ := ("Table", some "newest"), name := "newest", qual := "Table.newest", params := defArgs t_Table_newest, body := defBody t_Table_newest, scope := defScope t_Table_newest, dfl := [] }
def d_HeapCursor_init : He.DefD := { at_ := ("HeapCursor", some "__init__"), name := "__init__", qual := "HeapCursor.__init__", params := defArgs t_HeapCursor_init, body := defBody t_HeapCursor_init, scope := defScope t_HeapCursor_init, dfl := [] }
def d_HeapCursor_owner : He.DefD := { at_ := ("HeapCursor", some "owner"), name := "owner", qual := "Cursor.owner", params := defArgs t_HeapCursor_owner, body := defBody t_HeapCursor_owner, scope := defScope t_HeapCursor_owner, dfl := [] }
def d_HeapCursor_opened_in : He.DefD := { at_ := ("HeapCursor", some "opened_in"), name := "opened_in", qual := "Cursor.opened_in", params := defArgs t_HeapCursor_opened_in, body := defBody t_HeapCursor_opened_in, scope := defScope t_HeapCursor_opened_in, dfl := [] }
def d_HeapCursor_snapshot : He.DefD := { at_ := ("HeapCursor", some "snapshot"), name := "snapshot", qual := "Cursor.snapshot", params := defArgs t_HeapCursor_snapshot, body := defBody t_HeapCursor_snapshot, scope := defScope t_HeapCursor_snapshot, dfl := [] }
def d_HeapCursor_told : He.DefD := { at_ := ("HeapCursor", some "told"), name := "told", qual := "Cursor.told", params := defArgs t_HeapCursor_told, body := defBody t_HeapCursor_told, scope := defScope t_HeapCursor_told, dfl := [] }
def d_HeapCursor_tell : He.DefD := { at_ := ("HeapCursor", some "tell"), name := "tell", qual := "Cursor.tell", params := defArgs t_HeapCursor_tell, body := defBody t_HeapCursor_tell, scope := defScope t_HeapCursor_tell, dfl := [] }
def d_HeapCursor_note_page : He.DefD := { at_ := ("HeapCursor", some "note_page"), name := "note_page", qual := "HeapCursor.note_page", params := defArgs t_HeapCursor_note_page, body := defBody t_HeapCursor_note_page, scope := defScope t_HeapCursor_note_page, dfl := [] }
def d_HeapCursor_next : He.DefD := { at_ := ("HeapCursor", some "next"), name := "next", qual := "HeapCursor.next", params := defArgs t_HeapCursor_next, body := defBody t_HeapCursor_next, scope := defScope t_HeapCursor_next, dfl := [] }
def d_Cursor_init : He.DefD := { at_ := ("Cursor", some "__init__"), name := "__init__", qual := "Cursor.__init__", params := defArgs t_Cursor_init, body := defBody t_Cursor_init, scope := defScope t_Cursor_init, dfl := [] }
def d_Deals_init : He.DefD := { at_ := ("Deals", some "__init__"), name := "__init__", qual := "Deals.__init__", params := defArgs t_Deals_init, body := defBody t_Deals_init, scope := defScope t_Deals_init, dfl := [] }
def d_Base_init : He.DefD := { at_ := ("Base", some "__init__"), name := "__init__", qual := "Base.__init__", params := defArgs t_Base_init, body := defBody t_Base_init, scope := defScope t_Base_init, dfl := [] }
def d_Base_close_where : He.DefD := { at_ := ("Base", some "close_where"), name := "close_where", qual := "Deals.close_where", params := defArgs t_Base_close_where, body := defBody t_Base_close_where, scope := defScope t_Base_close_where, dfl := [] }
def d_Base_finish : He.DefD := { at_ := ("Base", some "finish"), name := "finish", qual := "Deals.finish", params := defArgs t_Base_finish, body := defBody t_Base_finish, scope := defScope t_Base_finish, dfl := [] }
def d_Base_undone : He.DefD := { at_ := ("Base", some "undone"), name := "undone", qual := "Deals.undone", params := defArgs t_Base_undone, body := defBody t_Base_undone, scope := defScope t_Base_undone, dfl := [] }
def d_Base_kept : He.DefD := { at_ := ("Base", some "kept"), name := "kept", qual := "Deals.kept", params := defArgs t_Base_kept, body := defBody t_Base_kept, scope := defScope t_Base_kept, dfl := [] }
def d_Base_settled : He.DefD := { at_ := ("Base", some "settled"), name := "settled", qual := "Deals.settled", params := defArgs t_Base_settled, body := defBody t_Base_settled, scope := defScope t_Base_settled, dfl := [] }
def d_Base_snapshot_for : He.DefD := { at_ := ("Base", some "snapshot_for"), name := "snapshot_for", qual := "Deals.snapshot_for", params := defArgs t_Base_snapshot_for, body := defBody t_Base_snapshot_for, scope := defScope t_Base_snapshot_for, dfl := [] }
def d_Base_cursor_for : He.DefD := { at_ := ("Base", some "cursor_for"), name := "cursor_for", qual := "Deals.cursor_for", params := defArgs t_Base_cursor_for, body := defBody t_Base_cursor_for, scope := defScope t_Base_cursor_for, dfl := [] }
def d_Base_cursor : He.DefD := { at_ := ("Base", some "cursor"), name := "cursor", qual := "Deals.cursor", params := defArgs t_Base_cursor, body := defBody t_Base_cursor, scope := defScope t_Base_cursor, dfl := [] }
def d_Base_names : He.DefD := { at_ := ("Base", some "names"), name := "names", qual := "Deals.names", params := defArgs t_Base_names, body := defBody t_Base_names, scope := defScope t_Base_names, dfl := [] }
def d_Base_begin : He.DefD := { at_ := ("Base", some "begin"), name := "begin", qual := "Base.begin", params := defArgs t_Base_begin, body := defBody t_Base_begin, scope := defScope t_Base_begin, dfl := [.str "each"] }
def d_Base_save : He.DefD := { at_ := ("Base", some "save"), name := "save", qual := "Base.save", params := defArgs t_Base_save, body := defBody t_Base_save, scope := defScope t_Base_save, dfl := [] }
def d_Base_undo : He.DefD := { at_ := ("Base", some "undo"), name := "undo", qual := "Base.undo", params := defArgs t_Base_undo, body := defBody t_Base_undo, scope := defScope t_Base_undo, dfl := [] }
def d_Base_commit : He.DefD := { at_ := ("Base", some "commit"), name := "commit", qual := "Base.commit", params := defArgs t_Base_commit, body := defBody t_Base_commit, scope := defScope t_Base_commit, dfl := [] }
def d_Base_abort : He.DefD := { at_ := ("Base", some "abort"), name := "abort", qual := "Base.abort", params := defArgs t_Base_abort, body := defBody t_Base_abort, scope := defScope t_Base_abort, dfl := [] }
def d_Base_scan : He.DefD := { at_ := ("Base", some "scan"), name := "scan", qual := "Base.scan", params := defArgs t_Base_scan, body := defBody t_Base_scan, scope := defScope t_Base_scan, dfl := [.str "heap", .non, .non, .bl false] }
def d_Base_close : He.DefD := { at_ := ("Base", some "close"), name := "close", qual := "Base.close", params := defArgs t_Base_close, body := defBody t_Base_close, scope := defScope t_Base_close, dfl := [] }
def d_Base_next : He.DefD := { at_ := ("Base", some "next"), name := "next", qual := "Base.next", params := defArgs t_Base_next, body := defBody t_Base_next, scope := defScope t_Base_next, dfl := [] }
def d_Base_read : He.DefD := { at_ := ("Base", some "read"), name := "read", qual := "Base.read", params := defArgs t_Base_read, body := defBody t_Base_read, scope := defScope t_Base_read, dfl := [.str "heap", .non, .non] }
def d_Base_writing_names : He.DefD := { at_ := ("Base", some "writing_names"), name := "writing_names", qual := "Base.writing_names", params := defArgs t_Base_writing_names, body := defBody t_Base_writing_names, scope := defScope t_Base_writing_names, dfl := [] }
def d_Base_refusal : He.DefD := { at_ := ("Base", some "refusal"), name := "refusal", qual := "Base.refusal", params := defArgs t_Base_refusal, body := defBody t_Base_refusal, scope := defScope t_Base_refusal, dfl := [.non] }
def d_Base_keep_new : He.DefD := { at_ := ("Base", some "keep_new"), name := "keep_new", qual := "Base.keep_new", params := defArgs t_Base_keep_new, body := defBody t_Base_keep_new, scope := defScope t_Base_keep_new, dfl := [] }
def d_Base_wrote : He.DefD := { at_ := ("Base", some "wrote"), name := "wrote", qual := "Base.wrote", params := defArgs t_Base_wrote, body := defBody t_Base_wrote, scope := defScope t_Base_wrote, dfl := [] }
def d_Base_put : He.DefD := { at_ := ("Base", some "put"), name := "put", qual := "Base.put", params := defArgs t_Base_put, body := defBody t_Base_put, scope := defScope t_Base_put, dfl := [] }
def d_Base_newest : He.DefD := { at_ := ("Base", some "newest"), name := "newest", qual := "Base.newest", params := defArgs t_Base_newest, body := defBody t_Base_newest, scope := defScope t_Base_newest, dfl := [] }
def d_Base_remove : He.DefD := { at_ := ("Base", some "remove"), name := "remove", qual := "Base.remove", params := defArgs t_Base_remove, body := defBody t_Base_remove, scope := defScope t_Base_remove, dfl := [] }
def d_Base_change : He.DefD := { at_ := ("Base", some "change"), name := "change", qual := "Base.change", params := defArgs t_Base_change, body := defBody t_Base_change, scope := defScope t_Base_change, dfl := [] }
def d_Base_prune : He.DefD := { at_ := ("Base", some "prune"), name := "prune", qual := "Base.prune", params := defArgs t_Base_prune, body := defBody t_Base_prune, scope := defScope t_Base_prune, dfl := [] }
def d_Base_dead_slots : He.DefD := { at_ := ("Base", some "dead_slots"), name := "dead_slots", qual := "Base.dead_slots", params := defArgs t_Base_dead_slots, body := defBody t_Base_dead_slots, scope := defScope t_Base_dead_slots, dfl := [] }
def d_Base_free : He.DefD := { at_ := ("Base", some "free"), name := "free", qual := "Base.free", params := defArgs t_Base_free, body := defBody t_Base_free, scope := defScope t_Base_free, dfl := [] }
def d_Base_look_held : He.DefD := { at_ := ("Base", some "look_held"), name := "look_held", qual := "Base.look_held", params := defArgs t_Base_look_held, body := defBody t_Base_look_held, scope := defScope t_Base_look_held, dfl := [] }
def d_Base_vacuum : He.DefD := { at_ := ("Base", some "vacuum"), name := "vacuum", qual := "Base.vacuum", params := defArgs t_Base_vacuum, body := defBody t_Base_vacuum, scope := defScope t_Base_vacuum, dfl := [.int 4] }
def d_Base_step : He.DefD := { at_ := ("Base", some "step"), name := "step", qual := "Base.step", params := defArgs t_Base_step, body := defBody t_Base_step, scope := defScope t_Base_step, dfl := [] }
def d_Base_pages : He.DefD := { at_ := ("Base", some "pages"), name := "pages", qual := "Base.pages", params := defArgs t_Base_pages, body := defBody t_Base_pages, scope := defScope t_Base_pages, dfl := [] }
def d_Base_marked : He.DefD := { at_ := ("Base", some "marked"), name := "marked", qual := "Base.marked", params := defArgs t_Base_marked, body := defBody t_Base_marked, scope := defScope t_Base_marked, dfl := [] }
def d_Base_image : He.DefD := { at_ := ("Base", some "image"), name := "image", qual := "Base.image", params := defArgs t_Base_image, body := defBody t_Base_image, scope := defScope t_Base_image, dfl := [] }
def d_Vacuum_init : He.DefD := { at_ := ("Vacuum", some "__init__"), name := "__init__", qual := "Vacuum.__init__", params := defArgs t_Vacuum_init, body := defBody t_Vacuum_init, scope := defScope t_Vacuum_init, dfl := [] }
def d_Vacuum_noted : He.DefD := { at_ := ("Vacuum", some "noted"), name := "noted", qual := "Vacuum.noted", params := defArgs t_Vacuum_noted, body := defBody t_Vacuum_noted, scope := defScope t_Vacuum_noted, dfl := [] }
def d_Vacuum_prune_next : He.DefD := { at_ := ("Vacuum", some "prune_next"), name := "prune_next", qual := "Vacuum.prune_next", params := defArgs t_Vacuum_prune_next, body := defBody t_Vacuum_prune_next, scope := defScope t_Vacuum_prune_next, dfl := [] }
def d_Vacuum_name_next : He.DefD := { at_ := ("Vacuum", some "name_next"), name := "name_next", qual := "Vacuum.name_next", params := defArgs t_Vacuum_name_next, body := defBody t_Vacuum_name_next, scope := defScope t_Vacuum_name_next, dfl := [] }
def d_Vacuum_free_next : He.DefD := { at_ := ("Vacuum", some "free_next"), name := "free_next", qual := "Vacuum.free_next", params := defArgs t_Vacuum_free_next, body := defBody t_Vacuum_free_next, scope := defScope t_Vacuum_free_next, dfl := [] }
def d_Vacuum_step : He.DefD := { at_ := ("Vacuum", some "step"), name := "step", qual := "Vacuum.step", params := defArgs t_Vacuum_step, body := defBody t_Vacuum_step, scope := defScope t_Vacuum_step, dfl := [] }
def d_law_cells : He.DefD := { at_ := ("_law_cells", none), name := "_law_cells", qual := "_law_cells", params := defArgs t_law_cells, body := defBody t_law_cells, scope := defScope t_law_cells, dfl := [] }
def d_law_box : He.DefD := { at_ := ("_law_box", none), name := "_law_box", qual := "_law_box", params := defArgs t_law_box, body := defBody t_law_box, scope := defScope t_law_box, dfl := [] }
def d_law_take : He.DefD := { at_ := ("_law_take", none), name := "_law_take", qual := "_law_take", params := defArgs t_law_take, body := defBody t_law_take, scope := defScope t_law_take, dfl := [] }
def d_law_of : He.DefD := { at_ := ("_law_of", none), name := "_law_of", qual := "_law_of", params := defArgs t_law_of, body := defBody t_law_of, scope := defScope t_law_of, dfl := [] }
def d_law_same : He.DefD := { at_ := ("_law_same", none), name := "_law_same", qual := "_law_same", params := defArgs t_law_same, body := defBody t_law_same, scope := defScope t_law_same, dfl := [] }
def d_law_done : He.DefD := { at_ := ("_law_done", none), name := "_law_done", qual := "_law_done", params := defArgs t_law_done, body := defBody t_law_done, scope := defScope t_law_done, dfl := [] }
def d_law_drawn : He.DefD := { at_ := ("_law_drawn", none), name := "_law_drawn", qual := "_law_drawn", params := defArgs t_law_drawn, body := defBody t_law_drawn, scope := defScope t_law_drawn, dfl := [] }
def d_law_session : He.DefD := { at_ := ("_law_session", none), name := "_law_session", qual := "_law_session", params := defArgs t_law_session, body := defBody t_law_session, scope := defScope t_law_session, dfl := [] }
def d_law_read_now : He.DefD := { at_ := ("_law_read_now", none), name := "_law_read_now", qual := "_law_read_now", params := defArgs t_law_read_now, body := defBody t_law_read_now, scope := defScope t_law_read_now, dfl := [] }
def d_law_swept : He.DefD := { at_ := ("_law_swept", none), name := "_law_swept", qual := "_law_swept", params := defArgs t_law_swept, body := defBody t_law_swept, scope := defScope t_law_swept, dfl := [] }
def d_law_right : He.DefD := { at_ := ("_law_right", none), name := "_law_right", qual := "_law_right", params := defArgs t_law_right, body := defBody t_law_right, scope := defScope t_law_right, dfl := [] }
def d_law : He.DefD := { at_ := ("law", none), name := "law", qual := "law", params := defArgs t_law, body := defBody t_law, scope := defScope t_law, dfl := [] }
def fn : List He.DefD := [d_tupled, d_is_number, d_size_of, d_changed, d_is_version, d_is_only, d_first_in, d_follower, d_chain, d_room, d_free_slot, d_fits, d_is_dead, d_dead_ahead, d_pruned, d_is_seen_by_all, d_is_clear, d_counts, d_sees, d_is_past, d_settled, d_version_of, d_with_slot, d_Deal_init, d_Ledger_init, d_Ledger_following, d_Ledger_take_number, d_Ledger_owner_of, d_Ledger_look_running, d_Ledger_begin, d_Ledger_save, d_Ledger_undo, d_Ledger_running_parts, d_Ledger_enter, d_Ledger_finish, d_Ledger_state, d_Ledger_with_state, d_Ledger_undone, d_Ledger_committed, d_Ledger_running, d_Ledger_running_beside, d_Ledger_parts, d_Ledger_working, d_Ledger_level, d_Ledger_command, d_Ledger_stepped, d_Ledger_snapshot_now, d_Table_init, d_Table_pages, d_Table_many, d_Table_page, d_Table_slot, d_Table_marked, d_Table_dead_slots, d_Table_keep, d_Table_end, d_Table_look, d_Table_prune, d_Table_free, d_Table_place_for, d_Table_placing, d_Table_newest, d_HeapCursor_init, d_HeapCursor_owner, d_HeapCursor_opened_in, d_HeapCursor_snapshot, d_HeapCursor_told, d_HeapCursor_tell, d_HeapCursor_note_page, d_HeapCursor_next, d_Cursor_init, d_Deals_init, d_Base_init, d_Base_close_where, d_Base_finish, d_Base_undone, d_Base_kept, d_Base_settled, d_Base_snapshot_for, d_Base_cursor_for, d_Base_cursor, d_Base_names, d_Base_begin, d_Base_save, d_Base_undo, d_Base_commit, d_Base_abort, d_Base_scan, d_Base_close, d_Base_next, d_Base_read, d_Base_writing_names, d_Base_refusal, d_Base_keep_new, d_Base_wrote, d_Base_put, d_Base_newest, d_Base_remove, d_Base_change, d_Base_prune, d_Base_dead_slots, d_Base_free, d_Base_look_held, d_Base_vacuum, d_Base_step, d_Base_pages, d_Base_marked, d_Base_image, d_Vacuum_init, d_Vacuum_noted, d_Vacuum_prune_next, d_Vacuum_name_next, d_Vacuum_free_next, d_Vacuum_step, d_law_cells, d_law_box, d_law_take, d_law_of, d_law_same, d_law_done, d_law_drawn, d_law_session, d_law_read_now, d_law_swept, d_law_right, d_law]
end Rc

set_option Elab.async false
set_option linter.all false
set_option maxRecDepth 100000
set_option maxHeartbeats 0
/-! what is looked at behind the top -/
namespace Rc
open PySem PySem.Spec PyProof.Rows L2 He
abbrev RR : PySem.W.OpenRow := PySem.W.OpenLaw.row PySem.Challenge.rw_rowchains_k08_whole_undone_as_if_never
def rdB (K : PySem.W.Frag) (x : Str) : Bool := PySem.W.readsIn K (ga K x) (.type "type") && ((match PySem.W.specialIn K (.ref (ga K x)) "__getattribute__" with
  | some (some (.builtin i)) => decide (i = "type.__getattribute__")
  | _ => false) && (match PySem.W.findCls K (.ref (ga K x)) (.type "type") "__init__" with
  | some (.val (.ref f)) => decide (f = fAd K (x, some "__init__"))
  | _ => false))
def tfD : List He.Defn := [("Base", some "undo"), ("Base", some "finish")]
def exB (K : PySem.W.Frag) : Bool := He.tupB K "UNUSED_table" [.str "unused"] && (He.tupB K "DEAD_table" [.str "dead"] && (rdB K "Deals" && (rdB K "Cursor" && !Nat.beq (He.cT K ("Base", some "undo")).2 (He.cT K ("Base", some "finish")).2)))
/-- the addresses of the objects that the facts look at -/
def la0 : List Addr := [2, 3, 26, 33, 38, 86, 93, 100, 107, 114, 121, 126, 133, 140, 471, 647, 785, 792, 799, 806]
def la1 : List Addr := [811, 818, 825, 832, 837, 1103, 1138, 1214, 1215, 1222, 1229, 1350, 1454, 1506, 1840, 1849, 1856, 1863, 1870, 1877]
def la2 : List Addr := [1884, 1891, 1898, 1903, 1910, 1915, 1920, 25, 32, 37, 85, 92, 99, 106, 113, 120, 125, 132, 139, 470]
def la3 : List Addr := [646, 784, 791, 798, 805, 810, 817, 824, 831, 836, 1102, 1137, 1221, 1228, 1349, 1453, 1505, 1839, 1848, 1855]
def la4 : List Addr := [1862, 1869, 1876, 1883, 1890, 1897, 1902, 1909, 1914, 1919, 468, 489, 496, 504, 511, 518, 525, 532, 537, 542]
def la5 : List Addr := [549, 556, 563, 568, 575, 582, 587, 594, 601, 608, 615, 622, 629, 637, 1044, 1051, 1058, 1065, 1072, 1079]
def la6 : List Addr := [1121, 1128, 1135, 1243, 1250, 1257, 1264, 1271, 1278, 1290, 1297, 1304, 1311, 1318, 1325, 1333, 1340, 1347, 1368, 1394]
def la7 : List Addr := [1401, 1408, 1413, 1418, 1425, 1430, 1437, 1444, 1472, 1477, 1484, 1489, 1496, 1503, 1525, 1533, 1540, 1547, 1554, 1561]
def la8 : List Addr := [1576, 1583, 1590, 1612, 1617, 1625, 1632, 1639, 1646, 1653, 1660, 1665, 1672, 1679, 1686, 1700, 1705, 1713, 1720, 1799]
def la9 : List Addr := [1837, 467, 488, 495, 503, 497, 510, 517, 524, 531, 536, 541, 548, 555, 562, 567, 574, 581, 586, 593]
def la10 : List Addr := [600, 607, 614, 621, 628, 636, 630, 1043, 1050, 1057, 1064, 1071, 1078, 1120, 1127, 1134, 1242, 1249, 1256, 1263]
def la11 : List Addr := [1270, 1277, 1289, 1296, 1303, 1310, 1317, 1324, 1332, 1326, 1339, 1346, 1367, 1393, 1400, 1407, 1412, 1417, 1424, 1429]
def la12 : List Addr := [1436, 1443, 1471, 1476, 1483, 1488, 1495, 1502, 1524, 1532, 1526, 1539, 1546, 1553, 1560, 1575, 1569, 1582, 1589, 1611]
def la13 : List Addr := [1605, 1616, 1624, 1618, 1631, 1638, 1645, 1652, 1659, 1664, 1671, 1678, 1685, 1699, 1704, 1712, 1706, 1719, 1798, 1836]
def LA : List Addr := la0 ++ la1 ++ la2 ++ la3 ++ la4 ++ la5 ++ la6 ++ la7 ++ la8 ++ la9 ++ la10 ++ la11 ++ la12 ++ la13
def loose0 : List PySem.Str := ["_wall", "ROOM", "SLOTS", "MEMORY", "__name__", "HEAD_SIZE", "ADD", "tupled", "is_number", "size_of", "cell_of", "key_of"]
def loose1 : List PySem.Str := ["has_none", "keeps_keys", "keeps_keys_rows", "rank_of", "ranks_of", "is_before", "changed", "UNUSED_chains", "DEAD_chains", "REDIRECT", "ROW_chains", "MAKER_chains"]
def loose2 : List PySem.Str := ["ENDER_chains", "NEXT_chains", "ONLY", "CELLS", "is_version", "is_only", "first_in", "follower", "chain", "room", "free_slot", "fits"]
def loose3 : List PySem.Str := ["version_at", "successor", "Double", "Twice", "NoRow", "Known", "NoPart", "NoPage", "NoCursor", "NoIndex", "NotRunning", "Late"]
def loose4 : List PySem.Str := ["NotYet", "Held", "NoVacuum", "Stage", "Running", "RUNS", "COMMITTED", "UNDONE", "BUILT", "EACH", "ONCE", "Deal"]
def loose5 : List PySem.Str := ["Ledger", "BUSY_entries", "DOUBLE", "rank_of_entry", "between", "Entries", "decision", "decision_entries", "look_along", "look", "look_entries", "is_dead"]
def loose6 : List PySem.Str := ["dead_ahead", "pruned", "is_seen_by_all", "is_clear", "MAKER_sight", "MADE", "ENDER_sight", "ENDED", "counts", "sees", "is_past", "settled"]
def loose7 : List PySem.Str := ["settled_sight", "DECLARED", "SCANNING", "READY", "CHECKING", "VALID", "LEFT", "SCANNED", "CHECKED", "WRITTEN", "chains_of", "seen_in"]
def loose8 : List PySem.Str := ["least_twice", "is_standing", "Index", "Cursor", "HeapCursor", "IndexCursor", "KeyCursor", "ROW_table", "ENDER_table", "NEXT_table", "UNUSED_table", "DEAD_table"]
def loose9 : List PySem.Str := ["HERE", "BUSY_table", "GONE", "version_of", "with_slot", "Table", "HEAP", "Deals", "PRUNED", "CLEANED", "FREED", "OVER"]
def loose10 : List PySem.Str := ["Vacuum", "DONE", "OTHER", "Base", "_law_cells", "_law_box", "_law_take", "_law_of", "_law_same", "_law_done", "_law_drawn", "_law_session"]
def loose11 : List PySem.Str := ["_law_read_now", "_law_swept", "_law_right"]
def loose : List PySem.Str := loose0 ++ loose1 ++ loose2 ++ loose3 ++ loose4 ++ loose5 ++ loose6 ++ loose7 ++ loose8 ++ loose9 ++ loose10 ++ loose11
/-- behind the top, a look f -/
def EndSays {α : Type} (w : World) (os : OsState) (f : PySem.W.SharedT → α) (v : α) : Prop := (HandSHeadRun.endF (HandSHeadRun.stepQ (HandSHeadRun.denQ HandSHeadRun.tabQ) RR.prog w) 14000 RR.prog w os).map f = some v
def kOf (s : PySem.W.SharedT) : PySem.W.Frag := He.frT (HandSHeadRun.getT s) LA
abbrev qv : Program := PySem.W.view RR.prog [148]
end Rc

set_option Elab.async false
set_option linter.all false
set_option maxRecDepth 100000
set_option maxHeartbeats 0
/-! the looks at the text alone -/
namespace Rc
open PySem PySem.W PySem.Calls PyProof.Rows
theorem hdE : opening RR.prog = plainProg RR.prog.main.scope.names := by
  kernel_rfl
theorem hdF (s : Shared) : fenceModules? RR.prog s = some s := by
  kernel_rfl
abbrev lawD : DefRec := HandSHeadRun.topDef RR.prog 148
theorem hdD : defOf qv RR.name = some (lawD, []) := by
  kernel_rfl
theorem hdP : RR.prog.theDef RR.name = some (lawD.params, lawD.body, lawD.scope) := by
  kernel_rfl
theorem hdK : kwWritten? lawD.params.kwonlyargs lawD.params.kw_defaults = some [] := by
  kernel_rfl
theorem hdO : (chainsOk qv && opensWell RR.prog && (frees RR.toRowW && RR.within.isEmpty)) = true := by
  decide +kernel
theorem hdB : RR.prog.bare := ⟨rfl, rfl, rfl, rfl, rfl, by decide +kernel⟩
theorem hdN : lawD.name = ("law" : PySem.Str) := by
  kernel_rfl
theorem lawOf (h : RR.wellSaid = true → RR.Holds) : PySem.Challenge.rw_rowchains_k08_whole_undone_as_if_never.Holds := by
  w_on; o_law
  exact h (by assumption)
end Rc

set_option Elab.async false
set_option linter.all false
set_option maxRecDepth 100000
set_option maxHeartbeats 0
/-! the runs of the top in the kernel, one for each look -/
namespace Rc
open PySem PySem.Spec PyProof.Rows L2 He
theorem runLook (w : World) (os : OsState) : EndSays w os (fun s => HandSHeadRun.looksF RR.prog (PySem.W.boot_heap w.params) s.abs) (true) := by
  unfold EndSays
  kernel_rfl
theorem runSeen (w : World) (os : OsState) : EndSays w os (fun s => HandSHeadRun.seenQ qv loose (importedModules RR.prog.main.body) (fun s => PySem.W.xlAt qv [] s && PySem.W.recOk RR.toRowW.records s) s.abs) (PySem.W.openGood qv loose) := by
  unfold EndSays
  kernel_rfl
theorem runDefs (w : World) (os : OsState) : EndSays w os (fun s => fn.map fun d => He.fnW (kOf s) d.at_) (fn.map He.DefD.val) := by
  unfold EndSays
  kernel_rfl
theorem runFn2 (w : World) (os : OsState) : EndSays w os (fun s => (((fn.drop 42).take 42).all fun d => d.ok (kOf s)) && (exB (kOf s) && He.tabsB (HandSHeadRun.getT s) tfD (kOf s))) (true) := by
  unfold EndSays
  kernel_rfl
theorem runFa1 (w : World) (os : OsState) : EndSays w os (fun s => (fa.take 180).all fun f => f.ok (kOf s)) (true) := by
  unfold EndSays
  kernel_rfl
theorem runFa2 (w : World) (os : OsState) : EndSays w os (fun s => ((fa.drop 180).all fun f => f.ok (kOf s)) && ((fn.take 42).all fun d => d.ok (kOf s))) (true) := by
  unfold EndSays
  kernel_rfl
theorem runFn3 (w : World) (os : OsState) : EndSays w os (fun s => ((fn.drop 42).drop 42).all fun d => d.ok (kOf s)) (true) := by
  unfold EndSays
  kernel_rfl
end Rc

set_option Elab.async false
set_option linter.all false
set_option maxRecDepth 100000
set_option maxHeartbeats 2000000
/-! Own rules over the hand layer: fields by their place, methods, constants, data made of tuples. -/
namespace Rc
open PySem PySem.Spec PyProof.Rows L2

/-! ### a list of names beside a list of values -/
theorem zip_get {f : Str} {v : V} : ∀ {ns : List Str} {vs : List V} {i : Nat}, ns.Nodup → ns[i]? = some f → vs[i]? = some v → (ns.zip vs).lookup f = some v
  | [], _, _, _, h, _ => by simp at h
  | _ :: _, [], _, _, _, h => by simp at h
  | n :: ns, u :: vs, 0, _, h1, h2 => by
    simp at h1 h2
    subst h1 h2
    show List.lookup n ((n, u) :: ns.zip vs) = some u
    simp [List.lookup]
  | n :: ns, u :: vs, i + 1, nd, h1, h2 => by
    have hm : f ∈ ns := List.mem_of_getElem? (i := i) (by simpa using h1)
    have hne : ¬ f = n := fun e => (List.nodup_cons.mp nd).1 (e ▸ hm)
    have hb : (f == n) = false := beq_eq_false_iff_ne.mpr hne
    show List.lookup f ((n, u) :: ns.zip vs) = some v
    simp only [List.lookup, hb]
    exact zip_get (i := i) (List.nodup_cons.mp nd).2 (by simpa using h1) (by simpa using h2)
theorem zip_no {f : Str} : ∀ {ns : List Str} {vs : List V}, f ∉ ns → (ns.zip vs).lookup f = none
  | [], _, _ => rfl
  | _ :: _, [], _ => rfl
  | n :: ns, u :: vs, h => by
    have hne : ¬ f = n := fun e => h (e ▸ List.mem_cons_self)
    have hb : (f == n) = false := beq_eq_false_iff_ne.mpr hne
    show List.lookup f ((n, u) :: ns.zip vs) = none
    simp only [List.lookup, hb]
    exact zip_no fun z => h (List.mem_cons_of_mem _ z)
theorem zip_set {f : Str} {v : V} : ∀ {ns : List Str} {vs : List V} {i : Nat}, ns.Nodup → ns[i]? = some f → i < vs.length → putF f v (ns.zip vs) = ns.zip (vs.set i v)
  | [], _, _, _, h, _ => by simp at h
  | _ :: _, [], _, _, _, h => absurd h (Nat.not_lt_zero _)
  | n :: ns, u :: vs, 0, _, h1, _ => by
    simp at h1
    subst h1
    show putF n v ((n, u) :: ns.zip vs) = (n, v) :: ns.zip vs
    unfold putF
    rw [if_pos rfl]
  | n :: ns, u :: vs, i + 1, nd, h1, h2 => by
    have hm : f ∈ ns := List.mem_of_getElem? (i := i) (by simpa using h1)
    have hne : ¬ n = f := fun e => (List.nodup_cons.mp nd).1 (e ▸ hm)
    show putF f v ((n, u) :: ns.zip vs) = (n, u) :: ns.zip (vs.set i v)
    unfold putF
    rw [if_neg hne, zip_set (i := i) (List.nodup_cons.mp nd).2 (by simpa using h1) (by simpa using h2)]
theorem zip_new {f : Str} {v : V} : ∀ {ns : List Str} {vs : List V}, ns.Nodup → ns[vs.length]? = some f → putF f v (ns.zip vs) = ns.zip (vs ++ [v])
  | [], _, _, h => by simp at h
  | n :: ns, [], _, h => by
    simp at h
    subst h
    show putF n v [] = (n, v) :: ns.zip []
    rw [List.zip_nil_right]
    rfl
  | n :: ns, u :: vs, nd, h => by
    have hm : f ∈ ns := List.mem_of_getElem? (i := vs.length) (by simpa using h)
    have hne : ¬ n = f := fun e => (List.nodup_cons.mp nd).1 (e ▸ hm)
    show putF f v ((n, u) :: ns.zip vs) = (n, u) :: ns.zip (vs ++ [v])
    unfold putF
    rw [if_neg hne, zip_new (List.nodup_cons.mp nd).2 (by simpa using h)]

/-! ### an instance with its values by place -/
abbrev Ob (C dx : Addr) (ns : List Str) (vs : List V) : HO := .ins C dx (ns.zip vs)
/-- the field f of the class at C is the i-th -/
structure FF (K : PySem.W.Frag) (C : Addr) (ns : List Str) (f : Str) (i : Nat) : Prop where
  cl : Cls K C
  na : NoAttr K C f
  ix : ns[i]? = some f
  nd : ns.Nodup
  ln : ns.length < 1000
/-- the method m of the class at C stands at g -/
structure MF (K : PySem.W.Frag) (C : Addr) (ns : List Str) (m : Str) (g : Addr) : Prop where
  cl : Cls K C
  me : Meth K C m g
  no : m ∉ ns

/-- a def at f: called with the values that its promise names, it keeps the promise; dvs fill up -/
structure Df (P : Program) (w : World) (K : PySem.W.Frag) (mg : Str → Option Value) (base : Heap) (f : Addr) (k : Nat) (dvs : List V) (sp : Sp) : Prop where
  ex : ∃ (fd : FuncData) (ps : List Str) (ds : List Value), FnOk P w K mg base CX0 k f fd ps sp ∧ Binds K fd ps ds ∧ Vals dvs ds
  kp : PySem.W.keepIn K (.ref f) = true
theorem Df.mono {P : Program} {w : World} {K : PySem.W.Frag} {mg : Str → Option Value} {base : Heap} {f : Addr} {j k : Nat} {dvs : List V} {sp : Sp} (D : Df P w K mg base f j dvs sp) (h : j ≤ k) : Df P w K mg base f k dvs sp :=
  let ⟨fd, ps, ds, F, b, v⟩ := D.ex
  ⟨⟨fd, ps, ds, F.mono h, b, v⟩, D.kp⟩

section
variable {X : Cx} {e o a b c : Expr} {es : List Expr} {st : Stmt} {pos pos' apos p : Pos} {t t' ta tb : TE} {tt tt' : TT} {tv : TE} {tr : TA} {f x m : Str} {ns : List Str} {i k : Nat} {C g : Addr} {sp : Sp} {dvs : List V}

theorem PE.to (h : PE X e t) (w : ∀ σ H Q, t' σ H Q → t σ H Q) : PE X e t' := ⟨fun pins s σ H Q I q => h.run pins s σ H Q I (w σ H Q q)⟩
theorem PT.to (h : PT X e tt) (w : ∀ σ H Q, tt' σ H Q → tt σ H Q) : PT X e tt' := ⟨fun pins s σ H Q I q => h.run pins s σ H Q I (w σ H Q q)⟩
theorem PS.to {u u' : TS} (h : PS X st u) (w : ∀ D σ H, u' D σ H → u D σ H) : PS X st u' := ⟨fun pins s σ H D I q => h.run pins s σ H D I (w D σ H q)⟩
theorem pe_no : PE X e (fun _ _ _ => False) := ⟨fun _ _ _ _ _ _ z => z.elim⟩
theorem pt_no : PT X e (fun _ _ _ => False) := ⟨fun _ _ _ _ _ _ z => z.elim⟩

/-! ### constants of the module -/
theorem pe_gi {n : Int} (hg : Gl X x) (hm : ∃ u, X.mg x = some (.int n u)) (hd : (x == ("__debug__" : Str)) = false := by decide) : PE X (.Name x pos) (tC (.int n)) :=
  let ⟨u, hu⟩ := hm
  pe_glob (v := .int n) hg hu ⟨u, rfl⟩ hd
theorem pe_gs {z : Str} (hg : Gl X x) (hm : ∃ u, X.mg x = some (.str z u)) (hd : (x == ("__debug__" : Str)) = false := by decide) : PE X (.Name x pos) (tC (.str z)) :=
  let ⟨u, hu⟩ := hm
  pe_glob (v := .str z) hg hu ⟨u, rfl⟩ hd
theorem pe_gr (hg : Gl X x) (hm : X.mg x = some (.ref g)) (hd : (x == ("__debug__" : Str)) = false := by decide) : PE X (.Name x pos) (tC (.ref g)) :=
  pe_glob (v := .ref g) hg hm rfl hd

/-! ### fields -/
def tAt (C : Addr) (ns : List Str) (i : Nat) (ta : TE) : TE := fun σ H Q => ta σ H fun x H1 => ∃ a dx vs v, x = .ref a ∧ H1 a = some (Ob C dx ns vs) ∧ vs[i]? = some v ∧ Q v H1
theorem pe_at (F : FF X.K C ns f i) (ho : PE X e ta) (hb : attributeBase e f X.env (eval e X.env) = eval e X.env := by rfl) : PE X (.Attribute e f pos) (tAt C ns i ta) := by
  refine ⟨fun pins s σ H Q I h => ?_⟩
  refine attr_of hb (thn (ho.run pins s σ H _ I h) fun u s1 ⟨y, H1, I1, ry, a, dx, vs, v, ey, ea, ev, q⟩ => ?_)
  subst ey
  obtain rfl : u = Value.ref a := ry
  exact getattr_ok I1 ea F.cl F.na (zip_get F.nd F.ix ev) fun u' s2 I2 ru => ⟨v, H1, I2, ru, q⟩
theorem zip_len {ns : List Str} {vs : List V} {n : Nat} (h : ns.length < n) : (ns.zip vs).length < n := by
  rw [List.length_zip]
  omega
/-- o.f = e, the field is there -/
def tPut (C : Addr) (ns : List Str) (i : Nat) (ta tv : TE) : TS := fun D σ H => tv σ H fun y H1 => ta σ H1 fun x H2 => ∃ a dx vs, x = .ref a ∧ H2 a = some (Ob C dx ns vs) ∧ i < vs.length ∧ D.nx σ (upd H2 a (Ob C dx ns (vs.set i y)))
theorem ps_put {value : Expr} (F : FF X.K C ns f i) (ha : PE X o ta) (hv : PE X value tv) (hs : swapsWith value (some (.Attribute o f pos')) pos.line X.env = pure false := by rfl) : PS X (.Assign [.Attribute o f pos'] value pos) (tPut C ns i ta tv) := by
  refine ⟨fun pins s σ H D I h => ?_⟩
  refine plainObj_wpAny_Assign_Attribute (thn (hv.run pins s σ H _ I h) fun u s1 ⟨y, H1, I1, ry, q⟩ => thn (ha.run pins s1 σ H1 _ I1 q) fun ov s2 ⟨x, H2, I2, rx, a, dx, vs, ex, ea, l, q2⟩ => ?_) hs
  subst ex
  obtain rfl : ov = Value.ref a := rx
  refine setattr_ok I2 ea F.cl F.na (zip_len F.ln) ry fun s3 I3 => ⟨σ, _, I3, ?_⟩
  rw [zip_set F.nd F.ix l]
  exact q2
/-- o.f = e in __init__, the next field -/
def tNew (C : Addr) (ns : List Str) (i : Nat) (ta tv : TE) : TS := fun D σ H => tv σ H fun y H1 => ta σ H1 fun x H2 => ∃ a dx vs, x = .ref a ∧ H2 a = some (Ob C dx ns vs) ∧ i = vs.length ∧ D.nx σ (upd H2 a (Ob C dx ns (vs ++ [y])))
theorem ps_new {value : Expr} (F : FF X.K C ns f i) (ha : PE X o ta) (hv : PE X value tv) (hs : swapsWith value (some (.Attribute o f pos')) pos.line X.env = pure false := by rfl) : PS X (.Assign [.Attribute o f pos'] value pos) (tNew C ns i ta tv) := by
  refine ⟨fun pins s σ H D I h => ?_⟩
  refine plainObj_wpAny_Assign_Attribute (thn (hv.run pins s σ H _ I h) fun u s1 ⟨y, H1, I1, ry, q⟩ => thn (ha.run pins s1 σ H1 _ I1 q) fun ov s2 ⟨x, H2, I2, rx, a, dx, vs, ex, ea, l, q2⟩ => ?_) hs
  subst ex l
  obtain rfl : ov = Value.ref a := rx
  refine setattr_ok I2 ea F.cl F.na (zip_len F.ln) ry fun s3 I3 => ⟨σ, _, I3, ?_⟩
  rw [zip_new F.nd F.ix]
  exact q2
/-- o.f += e, an int -/
def tInc (C : Addr) (ns : List Str) (i : Nat) (ta tv : TE) : TS := fun D σ H => ta σ H fun x H1 => ∃ a dx vs n, x = .ref a ∧ H1 a = some (Ob C dx ns vs) ∧ vs[i]? = some (.int n) ∧
  tv σ H1 fun y H2 => ∃ j, y = .int j ∧ ∃ dx' vs', H2 a = some (Ob C dx' ns vs') ∧ i < vs'.length ∧ D.nx σ (upd H2 a (Ob C dx' ns (vs'.set i (.int (n + j)))))
theorem ps_inc {value : Expr} {tpos : Pos} (F : FF X.K C ns f i) (ha : PE X o ta) (hv : PE X value tv) : PS X (.AugAssign (.Attribute o f tpos) .Add value pos) (tInc C ns i ta tv) := by
  refine ⟨fun pins s σ H D I h => ?_⟩
  refine wpAny_AugAssign_AttributeAny (thn (ha.run pins s σ H _ I h) fun ov s1 ⟨y, H1, I1, ry, a, dx, vs, n, ey, ea, ev, q⟩ => ?_)
  subst ey
  obtain rfl : ov = Value.ref a := ry
  refine getattr_ok I1 ea F.cl F.na (zip_get F.nd F.ix ev) fun u s2 I2 ru => thn (hv.run pins s2 σ H1 _ I2 q) fun w3 s3 ⟨z, H2, I3, rz, j, ez, dx', vs', ea', hl, q3⟩ => ?_
  subst ez
  refine thn (in_add pins s3 σ H2 (.int n) (.int j) u w3 (fun z H3 => z = .int (n + j) ∧ H3 = H2) I3 ru rz ⟨n, j, rfl, rfl, rfl, rfl⟩) fun w4 s4 ⟨z, H3, I4, rz4, e1, e2⟩ => ?_
  subst e1 e2
  refine setattr_ok I4 ea' F.cl F.na (zip_len F.ln) rz4 fun s5 I5 => ⟨σ, _, I5, ?_⟩
  rw [zip_set F.nd F.ix hl]
  exact q3

/-! ### calls -/
/-- what is done with the arguments: f's promise -/
theorem pe_cf (D : Df X.prog X.w X.K X.mg X.base g k dvs sp) (hr : Room k X.A) (hg : Gl X x) (hm : X.mg x = some (.ref g)) (ha : PA X (e :: es) tr) (hdb : (x == ("__debug__" : Str)) = false := by decide)
    (he : starEach (e :: es) X.env = (false, eval e X.env) :: starEach es X.env := by rfl) (hpl : (backTo pos (starEach es X.env)).any (·.1) = false := by rfl) : PE X (.Call (.Name x p) (e :: es) [] pos) (tCall sp dvs E0 tr) := by
  obtain ⟨fd, ps, ds, F, hb, hd⟩ := D.ex
  exact pe_call F hr hg hm D.kp hb hd pass0 ha hdb he hpl
def tMt (C : Addr) (ns : List Str) (sp : Sp) (dvs : List V) (ta : TE) (tr : TA) : TE := fun σ H Q => ta σ H fun x H1 => ∃ a dx vs, x = .ref a ∧ H1 a = some (Ob C dx ns vs) ∧ tr σ H1 fun us H2 => sp (x :: (us ++ dvs)) H2 Q E0
theorem pe_mt {pl : Sem Bool} (D : Df X.prog X.w X.K X.mg X.base g k dvs sp) (M : MF X.K C ns m g) (hr : Room k X.A) (ho : PE X o ta) (ha : PA X (e :: es) tr)
    (hst : starEach (e :: es) X.env = (false, eval e X.env) :: starEach es X.env := by rfl) (hpl : (backTo pos (starEach es X.env)).any (·.1) = false := by rfl)
    (ht : eval (.Call (.Attribute o m apos) (e :: es) [] pos) X.env = (do
      let recv ← eval o X.env
      standAt apos.atName
      let (fn, self) ← holding [recv] (getMethod recv m pl)
      callWith pos fn self (backTo pos (starEach (e :: es) X.env)) (backToKw pos (keywordEach [] X.env))) := by rfl) : PE X (.Call (.Attribute o m apos) (e :: es) [] pos) (tMt C ns sp dvs ta tr) := by
  obtain ⟨fd, ps, ds, F, hb, hd⟩ := D.ex
  refine ⟨fun pins s σ H Q I h => ?_⟩
  refine PySem.W.methodCall_KW (pl := pl) (thn (ho.run pins s σ H _ I h) fun u s1 ⟨y, H1, I1, ry, a, dx, vs, ey, ea, q⟩ => ?_) ht
  subst ey
  obtain rfl : u = Value.ref a := ry
  refine getmeth_ok I1 ea M.cl M.me (zip_no M.no) ?_
  refine PySem.W.callWith_K (first := [.ref a]) (h₀ := X.base) I.ok.mod.kin M.me.kp (thn (ha.run pos pins s1 σ H1 _ I1 q) fun us s2 ⟨ws, H2, I2, r, q2⟩ => ⟨I2.kIn, ?_⟩) hst hpl
  exact run_fn (us := .ref a :: us) (vs := .ref a :: ws) F hr hb hd pass0 I2 (.cons rfl r) q2
theorem pe_mt0 {pl : Sem Bool} (D : Df X.prog X.w X.K X.mg X.base g k dvs sp) (M : MF X.K C ns m g) (hr : Room k X.A) (ho : PE X o ta)
    (ht : eval (.Call (.Attribute o m apos) [] [] pos) X.env = (do
      let recv ← eval o X.env
      standAt apos.atName
      let (fn, self) ← holding [recv] (getMethod recv m pl)
      callWith pos fn self (backTo pos (starEach [] X.env)) (backToKw pos (keywordEach [] X.env))) := by rfl) : PE X (.Call (.Attribute o m apos) [] [] pos) (tMt C ns sp dvs ta tNil) := by
  obtain ⟨fd, ps, ds, F, hb, hd⟩ := D.ex
  refine ⟨fun pins s σ H Q I h => ?_⟩
  refine PySem.W.methodCall_KW (pl := pl) (thn (ho.run pins s σ H _ I h) fun u s1 ⟨y, H1, I1, ry, a, dx, vs, ey, ea, q⟩ => ?_) ht
  subst ey
  obtain rfl : u = Value.ref a := ry
  refine getmeth_ok I1 ea M.cl M.me (zip_no M.no) ?_
  exact PySem.W.callWith_K0 (first := [.ref a]) I1.kIn M.me.kp (run_fn (us := [.ref a]) (vs := [.ref a]) F hr hb hd pass0 I1 (.cons rfl .nil) q)
theorem pe_mk (D : Df X.prog X.w X.K X.mg X.base g k dvs sp) (M : Mk X.K C g) (hr : Room (k + 1) X.A) (hg : Gl X x) (hm : X.mg x = some (.ref C)) (ha : PA X (e :: es) tr) (hdb : (x == ("__debug__" : Str)) = false := by decide)
    (he : starEach (e :: es) X.env = (false, eval e X.env) :: starEach es X.env := by rfl) (hpl : (backTo pos (starEach es X.env)).any (·.1) = false := by rfl) : PE X (.Call (.Name x p) (e :: es) [] pos) (tMake C sp dvs E0 tr) := by
  obtain ⟨fd, ps, ds, F, hb, hd⟩ := D.ex
  exact pe_make M F hr hg hm hb hd pass0 ha hdb he hpl
theorem pe_mk0 (D : Df X.prog X.w X.K X.mg X.base g k dvs sp) (M : Mk X.K C g) (hr : Room (k + 1) X.A) (hg : Gl X x) (hm : X.mg x = some (.ref C)) (hdb : (x == ("__debug__" : Str)) = false := by decide) : PE X (.Call (.Name x p) [] [] pos) (tMake C sp dvs E0 tNil) := by
  obtain ⟨fd, ps, ds, F, hb, hd⟩ := D.ex
  exact pe_make0 M F hr hg hm hb hd pass0 hdb
end
end Rc

set_option Elab.async false
set_option linter.all false
set_option maxRecDepth 100000
set_option maxHeartbeats 2000000
/-! Promises by the number of arguments; what stays; data made of tuples. -/
namespace Rc
open PySem PySem.Spec PyProof.Rows L2

/-! ### promises by their arguments -/
abbrev P1 := V → Hp → VK → Prop
def s1 (p : V → Hp → VK → Prop) : Sp := fun vs H Q _ => ∃ x, vs = [x] ∧ p x H Q
def s2 (p : V → V → Hp → VK → Prop) : Sp := fun vs H Q _ => ∃ x y, vs = [x, y] ∧ p x y H Q
def s3 (p : V → V → V → Hp → VK → Prop) : Sp := fun vs H Q _ => ∃ x y z, vs = [x, y, z] ∧ p x y z H Q
def s4 (p : V → V → V → V → Hp → VK → Prop) : Sp := fun vs H Q _ => ∃ x y z u, vs = [x, y, z, u] ∧ p x y z u H Q
def s5 (p : V → V → V → V → V → Hp → VK → Prop) : Sp := fun vs H Q _ => ∃ x y z u v, vs = [x, y, z, u, v] ∧ p x y z u v H Q
def s6 (p : V → V → V → V → V → V → Hp → VK → Prop) : Sp := fun vs H Q _ => ∃ x y z u v w, vs = [x, y, z, u, v, w] ∧ p x y z u v w H Q

section
variable {P : Program} {w : World} {K : PySem.W.Frag} {mg : Str → Option Value} {base : Heap} {x qual : Str} {params : Arguments} {body : List Stmt} {scope : Scope} {g : Addr} {fd : FuncData} {N ps : List Str} {k : Nat} {sp : Sp} {dvs : List V}
/-- what a body must do -/
def Bd (P : Program) (w : World) (K : PySem.W.Frag) (mg : Str → Option Value) (base : Heap) (qual : Str) (scope : Scope) (g : Addr) (N : List Str) (k : Nat) (body : List Stmt) (vs : List V) (H : Hp) (Q : VK) : Prop :=
  ∀ (cdv : Value) (A : Around) (outer : List Env) (s : Shared) (E : XK), Room k (A.deeper (envOfC qual scope s.heap.objs.size g cdv)) →
    ∃ t, PSs (cxOf CX0 P w K mg base N qual scope g cdv A outer s H E).nox body t ∧ t { nx := fun _ H' => Q .non H', rt := Q } (start N vs) H
theorem ok_of {kws : List (Str × V)} (F : FunD K x qual params body scope dvs kws g fd) (S : FnScope N ps scope) (len : ∀ vs H Q E, sp vs H Q E → vs.length = ps.length)
    (hb : ∀ vs H Q E, sp vs H Q E → Bd P w K mg base qual scope g N k body vs H Q) : FnOk P w K mg base CX0 (k + 1) g fd ps sp := by
  refine F.ok S len fun cdv A outer s H vs Q E hr h => ?_
  obtain ⟨t, h1, h2⟩ := hb vs H Q E h cdv A outer s E hr
  exact ⟨t, PSs.nox h1, h2⟩
abbrev BindN (x qual : Str) (params : Arguments) (body : List Stmt) (scope : Scope) (ps : List Str) : Prop :=
  ∀ (kV doc pm : Value) (an : Option Addr) (cdv ct : Value) (us : List Value), us.length = ps.length → bindArgs (PySem.W.fnOf x qual params body scope .none kV doc pm an cdv ct) ⟨us, []⟩ = pure (ps.zip us)
theorem df_of (F : FunD K x qual params body scope [] [] g fd) (S : FnScope N ps scope) (bn : BindN x qual params body scope ps) (len : ∀ vs H Q E, sp vs H Q E → vs.length = ps.length)
    (hb : ∀ vs H Q E, sp vs H Q E → Bd P w K mg base qual scope g N k body vs H Q) : Df P w K mg base g (k + 1) [] sp :=
  ⟨⟨fd, ps, [], ok_of F S len hb, F.bindsN bn, .nil⟩, F.kp⟩
theorem df1 {p : V → Hp → VK → Prop} {a : Str} (F : FunD K x qual params body scope [] [] g fd) (S : FnScope N [a] scope) (bn : BindN x qual params body scope [a])
    (hb : ∀ x H Q, p x H Q → Bd P w K mg base qual scope g N k body [x] H Q) : Df P w K mg base g (k + 1) [] (s1 p) :=
  df_of F S bn (fun _ _ _ _ ⟨_, e, _⟩ => by rw [e]; rfl) fun _ _ _ _ ⟨_, e, h⟩ => by rw [e]; exact hb _ _ _ h
theorem df2 {p : V → V → Hp → VK → Prop} {a b : Str} (F : FunD K x qual params body scope [] [] g fd) (S : FnScope N [a, b] scope) (bn : BindN x qual params body scope [a, b])
    (hb : ∀ x y H Q, p x y H Q → Bd P w K mg base qual scope g N k body [x, y] H Q) : Df P w K mg base g (k + 1) [] (s2 p) :=
  df_of F S bn (fun _ _ _ _ ⟨_, _, e, _⟩ => by rw [e]; rfl) fun _ _ _ _ ⟨_, _, e, h⟩ => by rw [e]; exact hb _ _ _ _ h
theorem df3 {p : V → V → V → Hp → VK → Prop} {a b c : Str} (F : FunD K x qual params body scope [] [] g fd) (S : FnScope N [a, b, c] scope) (bn : BindN x qual params body scope [a, b, c])
    (hb : ∀ x y z H Q, p x y z H Q → Bd P w K mg base qual scope g N k body [x, y, z] H Q) : Df P w K mg base g (k + 1) [] (s3 p) :=
  df_of F S bn (fun _ _ _ _ ⟨_, _, _, e, _⟩ => by rw [e]; rfl) fun _ _ _ _ ⟨_, _, _, e, h⟩ => by rw [e]; exact hb _ _ _ _ _ h
theorem df4 {p : V → V → V → V → Hp → VK → Prop} {a b c d : Str} (F : FunD K x qual params body scope [] [] g fd) (S : FnScope N [a, b, c, d] scope) (bn : BindN x qual params body scope [a, b, c, d])
    (hb : ∀ x y z u H Q, p x y z u H Q → Bd P w K mg base qual scope g N k body [x, y, z, u] H Q) : Df P w K mg base g (k + 1) [] (s4 p) :=
  df_of F S bn (fun _ _ _ _ ⟨_, _, _, _, e, _⟩ => by rw [e]; rfl) fun _ _ _ _ ⟨_, _, _, _, e, h⟩ => by rw [e]; exact hb _ _ _ _ _ _ h
theorem df5 {p : V → V → V → V → V → Hp → VK → Prop} {a b c d e : Str} (F : FunD K x qual params body scope [] [] g fd) (S : FnScope N [a, b, c, d, e] scope) (bn : BindN x qual params body scope [a, b, c, d, e])
    (hb : ∀ x y z u v H Q, p x y z u v H Q → Bd P w K mg base qual scope g N k body [x, y, z, u, v] H Q) : Df P w K mg base g (k + 1) [] (s5 p) :=
  df_of F S bn (fun _ _ _ _ ⟨_, _, _, _, _, e, _⟩ => by rw [e]; rfl) fun _ _ _ _ ⟨_, _, _, _, _, e, h⟩ => by rw [e]; exact hb _ _ _ _ _ _ _ h
theorem df6 {p : V → V → V → V → V → V → Hp → VK → Prop} {a b c d e f : Str} (F : FunD K x qual params body scope [] [] g fd) (S : FnScope N [a, b, c, d, e, f] scope) (bn : BindN x qual params body scope [a, b, c, d, e, f])
    (hb : ∀ x y z u v w' H Q, p x y z u v w' H Q → Bd P w K mg base qual scope g N k body [x, y, z, u, v, w'] H Q) : Df P w K mg base g (k + 1) [] (s6 p) :=
  df_of F S bn (fun _ _ _ _ ⟨_, _, _, _, _, _, e, _⟩ => by rw [e]; rfl) fun _ _ _ _ ⟨_, _, _, _, _, _, e, h⟩ => by rw [e]; exact hb _ _ _ _ _ _ _ _ h
end

/-! ### what stays -/
theorem same_new {H : Hp} {p : Addr} {o : HO} (n : H p = none) : Same H (upd H p o) := fun b u e => by
  rw [upd_ne (ne_of_none e n)]
  exact e
/-- what no step writes: tuples, tables, code objects -/
def Im : HO → Bool
  | .tup _ => true
  | .tbl _ => true
  | .ext _ => true
  | _ => false
def Imx : HO → Bool
  | .tup _ => true
  | .ext _ => true
  | _ => false
theorem Imx.im : ∀ {o : HO}, Imx o = true → Im o = true
  | .tup _, _ => rfl
  | .ext _, _ => rfl
  | .lst _, h | .dK _, h | .dT _, h | .set _ _, h | .ins _ _ _, h | .own _, h | .xd _, h | .met _ _, h | .rng _ _, h | .frz _ _, h | .tbl _, h => by cases h
theorem Imx.not_tbl {o : HO} (h : Imx o = true) (ps : Array Value) : o ≠ .tbl ps := fun z => by
  rw [z] at h
  cases h
/-- something stands there that is no table -/
def NT (u : Option HO) : Prop := ∃ o, u = some o ∧ ∀ ps, o ≠ .tbl ps
theorem NT.of {H : Hp} {a : Addr} {o : HO} (e : H a = some o) (h : Im o = false) : NT (H a) := ⟨o, e, fun ps z => by
  rw [z] at h
  cases h⟩
theorem NT.not {H : Hp} {a : Addr} (n : NT (H a)) (e : H a = none) : False := by
  obtain ⟨o, h, _⟩ := n
  rw [e] at h
  cases h
/-- all but the places of fp stays -/
structure Chg (fp : List Addr) (H H' : Hp) : Prop where
  keep : ∀ a o, H a = some o → a ∉ fp → H' a = some o
  imm : ∀ a o, H a = some o → Im o = true → H' a = some o
  live : ∀ a, NT (H a) → NT (H' a)
theorem Chg.of {fp : List Addr} {H H' : Hp} (s : Same H H') : Chg fp H H' := ⟨fun a o e _ => s a o e, fun a o e _ => s a o e, fun a ⟨o, e, h⟩ => ⟨o, s a o e, h⟩⟩
theorem Chg.refl {fp : List Addr} (H : Hp) : Chg fp H H := .of (.refl H)
theorem Chg.trans {fp : List Addr} {H H1 H2 : Hp} (a : Chg fp H H1) (b : Chg fp H1 H2) : Chg fp H H2 := ⟨fun c o e n => b.keep c o (a.keep c o e n) n, fun c o e i => b.imm c o (a.imm c o e i) i, fun c h => b.live c (a.live c h)⟩
theorem Chg.mono {fp fp' : List Addr} {H H' : Hp} (c : Chg fp H H') (h : ∀ a ∈ fp, a ∈ fp') : Chg fp' H H' := ⟨fun a o e n => c.keep a o e fun z => n (h a z), c.imm, c.live⟩
theorem Chg.upd {fp : List Addr} {H : Hp} {a : Addr} {o u : HO} (e : H a = some u) (m : a ∈ fp) (nt : Im u = false := by rfl) (no : Im o = false := by rfl) : Chg fp H (L2.upd H a o) := by
  refine ⟨fun b v e' n => ?_, fun b v e' im => ?_, fun b h => ?_⟩
  · rw [upd_ne (fun z : b = a => n (by rw [z]; exact m))]
    exact e'
  · have hne : b ≠ a := fun z => by
      rw [z, e] at e'
      cases e'
      rw [nt] at im
      cases im
    rw [upd_ne hne]
    exact e'
  · by_cases hb : b = a
    · rw [hb]
      exact NT.of upd_same no
    · rw [upd_ne hb]
      exact h
/-- .. and the tables may have grown -/
structure ChT (fp : List Addr) (H H' : Hp) : Prop where
  keep : ∀ a o, H a = some o → a ∉ fp → (∀ ps, o ≠ .tbl ps) → H' a = some o
  imm : ∀ a o, H a = some o → Imx o = true → H' a = some o
  live : ∀ a, NT (H a) → NT (H' a)
theorem Chg.t {fp : List Addr} {H H' : Hp} (c : Chg fp H H') : ChT fp H H' := ⟨fun a o e n _ => c.keep a o e n, fun a o e i => c.imm a o e (Imx.im i), c.live⟩
theorem ChT.trans {fp : List Addr} {H H1 H2 : Hp} (a : ChT fp H H1) (b : ChT fp H1 H2) : ChT fp H H2 := ⟨fun c o e n t => b.keep c o (a.keep c o e n t) n t, fun c o e i => b.imm c o (a.imm c o e i) i, fun c h => b.live c (a.live c h)⟩
theorem ChT.mono {fp fp' : List Addr} {H H' : Hp} (c : ChT fp H H') (h : ∀ a ∈ fp, a ∈ fp') : ChT fp' H H' := ⟨fun a o e n => c.keep a o e fun z => n (h a z), c.imm, c.live⟩
/-- a step that frees nothing: what was there is there -/
theorem Same.there {H H' : Hp} (s : Same H H') {a : Addr} (h : H a ≠ none) : H' a ≠ none := by
  cases e : H a with
  | none => exact absurd e h
  | some o =>
    rw [s a o e]
    exact fun z => nomatch z

/-! ### data: scalars and tuples of data -/
def KTup (K : PySem.W.Frag) (a : Addr) (xs : List V) : Prop := ∃ (o : Obj) (its : Array Value) (n : Nat), K.lookup a = some o ∧ o.cls = .type "tuple" ∧ o.data = .seq its n ∧ its.size ≤ sizeLine ∧ Vals xs its.toList
def TqAt (K : PySem.W.Frag) (H : Hp) (a : Addr) (xs : List V) : Prop := H a = some (.tup xs) ∨ KTup K a xs
theorem TqAt.t {K : PySem.W.Frag} {H : Hp} {a : Addr} {xs : List V} (h : TqAt K H a xs) : SqT K H a xs := h.elim (fun z => .inl (.inl z)) .inr
mutual
inductive Td (K : PySem.W.Frag) (H : Hp) : V → PyData → Prop
  | non : Td K H .non .none
  | bl (b : Bool) : Td K H (.bl b) (.bool b)
  | int (i : Int) : Td K H (.int i) (.int i)
  | str (x : Str) : Td K H (.str x) (.str x)
  | tup {a : Addr} {xs : List V} {ds : List PyData} : TqAt K H a xs → Tds K H xs ds → Td K H (.ref a) (.tuple ds)
inductive Tds (K : PySem.W.Frag) (H : Hp) : List V → List PyData → Prop
  | nil : Tds K H [] []
  | cons {v : V} {vs : List V} {d : PyData} {ds : List PyData} : Td K H v d → Tds K H vs ds → Tds K H (v :: vs) (d :: ds)
end
def TKeep (H H' : Hp) : Prop := ∀ a xs, H a = some (.tup xs) → H' a = some (.tup xs)
theorem TqAt.keep {K : PySem.W.Frag} {H H' : Hp} {a : Addr} {xs : List V} (h : TqAt K H a xs) (k : TKeep H H') : TqAt K H' a xs := h.elim (fun z => .inl (k _ _ z)) .inr
mutual
theorem Td.keep {K : PySem.W.Frag} {H H' : Hp} (k : TKeep H H') : ∀ {v : V} {d : PyData}, Td K H v d → Td K H' v d
  | _, _, .non => .non
  | _, _, .bl b => .bl b
  | _, _, .int i => .int i
  | _, _, .str x => .str x
  | _, _, .tup h r => .tup (h.keep k) (Tds.keep k r)
theorem Tds.keep {K : PySem.W.Frag} {H H' : Hp} (k : TKeep H H') : ∀ {vs : List V} {ds : List PyData}, Tds K H vs ds → Tds K H' vs ds
  | _, _, .nil => .nil
  | _, _, .cons a r => .cons (Td.keep k a) (Tds.keep k r)
end
theorem Same.tk {H H' : Hp} (s : Same H H') : TKeep H H' := fun a xs e => s a _ e
theorem Chg.tk {fp : List Addr} {H H' : Hp} (c : Chg fp H H') : TKeep H H' := fun a xs e => c.imm a _ e rfl
theorem ChT.tk {fp : List Addr} {H H' : Hp} (c : ChT fp H H') : TKeep H H' := fun a xs e => c.imm a _ e rfl
theorem Td.same {K : PySem.W.Frag} {H H' : Hp} {v : V} {d : PyData} (h : Td K H v d) (s : Same H H') : Td K H' v d := h.keep (Same.tk s)
theorem Tds.same {K : PySem.W.Frag} {H H' : Hp} {vs : List V} {ds : List PyData} (h : Tds K H vs ds) (s : Same H H') : Tds K H' vs ds := h.keep (Same.tk s)
mutual
theorem Td.dp {K : PySem.W.Frag} {H : Hp} : ∀ {v : V} {d : PyData}, Td K H v d → Dp K H v d
  | _, _, .non => .non
  | _, _, .bl b => .bl b
  | _, _, .int i => .int i
  | _, _, .str x => .str x
  | _, _, .tup h r => .tup h.t (Tds.dp r)
theorem Tds.dp {K : PySem.W.Frag} {H : Hp} : ∀ {vs : List V} {ds : List PyData}, Tds K H vs ds → DpAll K H vs ds
  | _, _, .nil => .nil
  | _, _, .cons a r => .cons (Td.dp a) (Tds.dp r)
end
theorem Tds.length {K : PySem.W.Frag} {H : Hp} : ∀ {vs : List V} {ds : List PyData}, Tds K H vs ds → vs.length = ds.length
  | _, _, .nil => rfl
  | _, _, .cons _ r => congrArg Nat.succ (Tds.length r)
theorem Tds.get {K : PySem.W.Frag} {H : Hp} : ∀ {vs : List V} {ds : List PyData} {i : Nat} {d : PyData}, Tds K H vs ds → ds[i]? = some d → ∃ v, vs[i]? = some v ∧ Td K H v d
  | _, _, _, _, .nil, h => by simp at h
  | _, _, 0, _, .cons a _, h => by
    simp at h
    subst h
    exact ⟨_, rfl, a⟩
  | _, _, i + 1, _, .cons _ r, h => by
    obtain ⟨v, h1, h2⟩ := Tds.get (i := i) r (by simpa using h)
    exact ⟨v, by simpa using h1, h2⟩
theorem Tds.get2 {K : PySem.W.Frag} {H : Hp} : ∀ {vs : List V} {ds : List PyData} {i : Nat} {v : V}, Tds K H vs ds → vs[i]? = some v → ∃ d, ds[i]? = some d ∧ Td K H v d
  | _, _, _, _, .nil, h => by simp at h
  | _, _, 0, _, .cons a _, h => by
    simp at h
    subst h
    exact ⟨_, rfl, a⟩
  | _, _, i + 1, _, .cons _ r, h => by
    obtain ⟨v, h1, h2⟩ := Tds.get2 (i := i) r (by simpa using h)
    exact ⟨v, by simpa using h1, h2⟩
theorem Tds.app {K : PySem.W.Frag} {H : Hp} : ∀ {vs ws : List V} {ds es : List PyData}, Tds K H vs ds → Tds K H ws es → Tds K H (vs ++ ws) (ds ++ es)
  | _, _, _, _, .nil, s => s
  | _, _, _, _, .cons a r, s => .cons a (Tds.app r s)
theorem Tds.take {K : PySem.W.Frag} {H : Hp} : ∀ {vs : List V} {ds : List PyData} (n : Nat), Tds K H vs ds → Tds K H (vs.take n) (ds.take n)
  | _, _, 0, _ => by simp only [List.take_zero]; exact .nil
  | _, _, _ + 1, .nil => .nil
  | _, _, n + 1, .cons a r => .cons a (Tds.take n r)
theorem Tds.drop {K : PySem.W.Frag} {H : Hp} : ∀ {vs : List V} {ds : List PyData} (n : Nat), Tds K H vs ds → Tds K H (vs.drop n) (ds.drop n)
  | _, _, 0, r => r
  | _, _, _ + 1, .nil => .nil
  | _, _, n + 1, .cons _ r => Tds.drop n r
theorem Tds.set {K : PySem.W.Frag} {H : Hp} {v : V} {d : PyData} (a : Td K H v d) : ∀ {vs : List V} {ds : List PyData} (n : Nat), Tds K H vs ds → Tds K H (vs.set n v) (ds.set n d)
  | _, _, _, .nil => .nil
  | _, _, 0, .cons _ r => .cons a r
  | _, _, n + 1, .cons b r => .cons b (Tds.set a n r)
theorem Td.int_eq {K : PySem.W.Frag} {H : Hp} {v : V} {i : Int} (h : Td K H v (.int i)) : v = .int i := by cases h; rfl
theorem Td.str_eq {K : PySem.W.Frag} {H : Hp} {v : V} {x : Str} (h : Td K H v (.str x)) : v = .str x := by cases h; rfl
theorem Td.bl_eq {K : PySem.W.Frag} {H : Hp} {v : V} {b : Bool} (h : Td K H v (.bool b)) : v = .bl b := by cases h; rfl
theorem Td.non_eq {K : PySem.W.Frag} {H : Hp} {v : V} (h : Td K H v .none) : v = .non := by cases h; rfl
theorem Td.tup_eq {K : PySem.W.Frag} {H : Hp} {v : V} {ds : List PyData} (h : Td K H v (.tuple ds)) : ∃ a xs, v = .ref a ∧ TqAt K H a xs ∧ Tds K H xs ds := by
  cases h with
  | tup h r => exact ⟨_, _, rfl, h, r⟩

section
variable {X : Cx} {e o a b : Expr} {es : List Expr} {pos : Pos} {ta tb : TE} {tr : TA}
/-- x[i], x data, i a place -/
def tIxD (K : PySem.W.Frag) (ta tb : TE) : TE := fun σ H Q => ta σ H fun x H1 => tb σ H1 fun y H2 => ∃ ds i d, Td K H2 x (.tuple ds) ∧ y = .int ((i : Nat) : Int) ∧ ds[i]? = some d ∧ ∀ v, Td K H2 v d → Q v H2
theorem pe_ixd (ha : PE X a ta) (hb : PE X b tb) (hs : PlainIx b := by exact fun _ _ => rfl) : PE X (.Subscript a b pos) (tIxD X.K ta tb) := by
  refine ⟨fun pins s σ H Q I h => ?_⟩
  refine Subscript_ (binT ha hb I h fun v u s2 x y H2 I2 rx ry q => ?_)
  obtain ⟨ds, i, d, hd, ey, hi, q⟩ := q
  obtain ⟨p, xs, ex, hq, hr⟩ := hd.tup_eq
  obtain ⟨z, hz, hzd⟩ := hr.get hi
  exact ix_tup a b pins s2 σ H2 x y v u Q I2 rx ry ⟨p, xs, (i : Int), z, ex, ey, hq.t, atI_nat hz, q z hzd⟩ (hs _ _)
/-- (a, b, ..) of data -/
def tTupD (K : PySem.W.Frag) (t : TA) : TE := fun σ H Q => t σ H fun xs H1 => ∃ ds, Tds K H1 xs ds ∧ xs.length ≤ 1000 ∧ ∀ v H2, Same H1 H2 → Td K H2 v (.tuple ds) → Q v H2
theorem pe_tupd {x1} (h : PA X es tr) : PE X (.Tuple es x1 pos) (tTupD X.K tr) := by
  refine ⟨fun pins s σ H Q I q => ?_⟩
  refine wpAny_Tuple_spliced (thn (h.run pos pins s σ H _ I q) fun us s1 ⟨xs, H1, I1, r, ds, hd, z, q⟩ => ?_)
  have z' : xs.length ≤ sizeLine := Nat.le_of_lt (small1000 z)
  refine ⟨by rw [← r.length]; exact z', ?_⟩
  have hf : H1 s1.heap.objs.size = none := I1.hok.fresh (Nat.le_refl _)
  have sm : Same H1 (upd H1 s1.heap.objs.size (.tup xs)) := same_new hf
  exact ⟨.ref s1.heap.objs.size, upd H1 s1.heap.objs.size (.tup xs), I1.laid (t' := s1.toks) (fun b u e => Heap.get?_push_of_some _ e) (Nat.le_refl _) ⟨z', us, r, ⟨_, Heap.get?_push_size _ rfl, rfl, _, rfl⟩⟩, rfl, q _ _ sm (.tup (.inl upd_same) (hd.same sm))⟩
/-- t + u, data -/
def rCatD (K : PySem.W.Frag) : R2 := fun x y H Q => ∃ ds es, Td K H x (.tuple ds) ∧ Td K H y (.tuple es) ∧ ds.length + es.length ≤ 1000 ∧ ∀ v H2, Same H H2 → Td K H2 v (.tuple (ds ++ es)) → Q v H2
theorem op_catd : OpR X (binaryOp .Add) (rCatD X.K) := by
  intro pins s σ H x y v u Q I rx ry q
  obtain ⟨ds, es, h1, h2, l, q⟩ := q
  obtain ⟨p, xs, ex, hq, hr⟩ := h1.tup_eq
  obtain ⟨p2, ys, ey, hq2, hr2⟩ := h2.tup_eq
  have l1 := hr.length
  have l2 := hr2.length
  refine op_catA pins s σ H x y v u Q I rx ry ⟨p, p2, xs, ys, ex, ey, hq.t, hq2.t, Nat.le_of_lt (small1000 (by omega)), fun e => ?_, fun n e => ?_, fun n n2 r hn => ?_⟩
  · subst e
    cases hr
    exact q _ _ (.refl _) (.tup hq2 hr2)
  · subst e
    cases hr2
    rw [List.append_nil] at q
    exact q _ _ (.refl _) (.tup hq hr)
  · have sm : Same H (upd H r (.tup (xs ++ ys))) := same_new hn
    exact q _ _ sm (.tup (.inl upd_same) ((hr.same sm).app (hr2.same sm)))
/-- t[lo:hi], data -/
def cutD (ds : List PyData) (lo hi : Option Int) : List PyData := (ds.drop (HT.sIx ds.length 0 lo)).take (HT.sIx ds.length ds.length hi - HT.sIx ds.length 0 lo)
def rSlD (K : PySem.W.Frag) : V → Option Int → Option Int → Hp → VK → Prop := fun x lo hi H Q => ∃ ds, Td K H x (.tuple ds) ∧ ∀ v H2, Same H H2 → Td K H2 v (.tuple (cutD ds lo hi)) → Q v H2
theorem sl_d : SlR X (rSlD X.K) := by
  intro pins s σ H x v vl vu lo hi sl Q I rx hs pl pu q
  obtain ⟨ds, h1, q⟩ := q
  obtain ⟨p, xs, ex, hq, hr⟩ := h1.tup_eq
  have l1 := hr.length
  refine sl_tupA pins s σ H x v vl vu lo hi sl Q I rx hs pl pu ⟨p, xs, ex, hq.t, fun ⟨e1, e2⟩ => ?_, fun n r hn => ?_⟩
  · refine q _ _ (.refl _) ?_
    rw [l1] at e1 e2
    have e : cutD ds lo hi = ds := by
      unfold cutD
      rw [e1, e2]
      simp
    rw [e]
    exact .tup hq hr
  · have sm : Same H (upd H r (.tup (cutV xs lo hi))) := same_new hn
    have cut : ∀ H3, Tds X.K H3 xs ds → Tds X.K H3 (cutV xs lo hi) (cutD ds lo hi) := fun H3 z => by
      unfold cutV cutD
      rw [l1]
      exact (z.drop _).take _
    exact q _ _ sm (.tup (.inl upd_same) (cut _ (hr.same sm)))
end
end Rc

set_option Elab.async false
set_option linter.all false
set_option maxRecDepth 100000
set_option maxHeartbeats 4000000
/-! enumerate over a tuple -/
namespace Rc
open PySem PySem.Spec PyProof.Rows L2
open PySem.AutoSeq1 in
theorem new_enumT {v : Value} {ob : Obj} {G : Heap → Prop} (B : Begins v ob G) :
    Meets (Builtin.«enumerate.__new__» ⟨[.type "enumerate", v], []⟩) (fun _ R st => G st.heap ∧
      R (.ok (.ret (.ref (st.heap.push ob).objs.size))) { st with heap := (st.heap.push ob).push { cls := .type "enumerate", data := .fields #[.none, .bool false, .ref st.heap.objs.size, rawInt 0, .none, .none] } }) :=
  .of_wp fun prog w A R st z => by
    obtain ⟨hh, gg, dd, tt, oo⟩ := st
    obtain ⟨z1, z⟩ := z
    have hsub := sub_enumerate
    have q1 : ∀ {A1 : Around} {E1 : Value → Shared → Prop} {Q1 : Value → Shared → Prop}, Q1 (.ref hh.objs.size) ⟨hh.push ob, gg, dd, tt, oo⟩ → wpAny (model prog w) A1 (pyIter v) Q1 E1 ⟨hh, gg, dd, tt, oo⟩ :=
      fun q => B.iter prog w _ _ ⟨hh, gg, dd, tt, oo⟩ _ z1 q
    wp_walk using q1
    refine wpAny_stack_any fun sk => wpAny_pure ?_
    split
    · rename_i cc _ _ _ _ _
      cases (cc == Value.type "enumerate") <;> (wp_walk using q1; exact ⟨_, rfl, z⟩)
    · wp_walk using q1
      exact ⟨_, rfl, z⟩
theorem enum_beginsT {prog : Program} {w : World} {A : Around} {E : Value → Shared → Prop} {st : Shared} {v : Value} {ob : Obj} {G : Heap → Prop} {Q : Value → Shared → Prop} (B : Begins v ob G) (h1 : G st.heap)
    (hq : ∀ g, IsEnum g (st.heap.objs.size + 1) st.heap.objs.size 0 .none → g.get? st.heap.objs.size = some ob → (∀ b o, st.heap.get? b = some o → g.get? b = some o) → Q (.ref (st.heap.objs.size + 1)) { st with heap := g }) :
    wpAny (model prog w) A (call (.type "enumerate") [v]) Q E st := by
  refine callType_new F.called_enumerate (by decide) (F.typeCall_enumerate_1 _) (F.newCall_enumerate_1 _) (fun x => F.args_object_init_2 x _) F.entry_enumerate_new (new_enumT B) ⟨h1, ?_⟩
  have sz : (st.heap.push ob).objs.size = st.heap.objs.size + 1 := Heap.size_push ..
  show _ ∧ _
  rw [sz]
  have en : IsEnum ((st.heap.push ob).push { cls := .type "enumerate", data := .fields #[.none, .bool false, .ref st.heap.objs.size, rawInt 0, .none, .none] }) (st.heap.objs.size + 1) st.heap.objs.size 0 .none := by
    have y := Heap.get?_push_size (st.heap.push ob) (o := { cls := .type "enumerate", data := .fields #[.none, .bool false, .ref st.heap.objs.size, rawInt 0, .none, .none] }) rfl
    rw [sz] at y
    exact y
  exact ⟨⟨_, en, rfl⟩, hq _ en (Heap.get?_push_of_some _ (Heap.get?_push_size _ B.free)) fun b o x => Heap.get?_push_of_some _ (Heap.get?_push_of_some _ x)⟩
/-- the tuple at a, each item in a new pair -/
def Iet (K : PySem.W.Frag) (a : Addr) : It :=
  ⟨fun i H => ∃ (xs : List V) (x : V), SqT K H a xs ∧ xs[i]? = some x, fun i H v H' => ∃ T x, v = .ref T ∧ H T = none ∧ H' = upd H T (.tup [.int (i : Nat), x]) ∧ ∀ xs, SqT K H a xs → xs[i]? = some x, fun i H => ∃ xs : List V, SqT K H a xs ∧ xs.length ≤ i⟩
theorem turn_iet {P : Program} {w : World} {K : PySem.W.Frag} {elts : List Expr} {kk : Nat} {tpos : Pos} (a en it : Addr) (n1 : en ≠ it) (n2 : a ≠ en) (n3 : a ≠ it) :
    Turn P w K (.Tuple elts kk tpos) (Iet K a) [en, it] en (fun i g => (∃ old, IsEnum g en it ((i : Nat) : Int) old) ∧ g.IsTupleIter it a i) where
  mem := by simp
  obj := fun i g st b hb => by
    obtain ⟨⟨old, he⟩, ⟨o, ho, hc, hd⟩⟩ := st
    have hb' : b = en ∨ b = it := by simpa using hb
    rcases hb' with z | z
    · rw [z]
      exact ⟨_, he, fun v q => nomatch q⟩
    · rw [z]
      exact ⟨o, ho, fun v q => by rw [hd] at q; cases q⟩
  keep := fun i g g' st kp => let ⟨⟨old, he⟩, hi⟩ := st; ⟨⟨old, kp en (by simp) _ he⟩, hi.at fun o q => kp it (by simp) o q⟩
  item := by
    intro X hP hw hK hc i pins s σ H E I hf st hg
    subst hP hw hK
    obtain ⟨⟨old, he⟩, hit⟩ := st
    obtain ⟨xs, x, hq, hx⟩ := hg
    obtain ⟨its, rv, tp, hz⟩ := I.tuple hq
    have htp : s.heap.IsTuple a its.toArray := tp
    obtain ⟨u, hu, ru⟩ := rv.get hx
    have hel : en < s.heap.objs.size := Heap.lt_size he
    have hil : it < s.heap.objs.size := by obtain ⟨_, q, _⟩ := hit; exact Heap.lt_size q
    have hh : X.A.in1.handled = none := I.ok.hd hc
    have hin : i < its.toArray.size := by
      have q := (List.getElem?_eq_some_iff.mp hu).1
      simpa using q
    refine wpAny_pyNext_enum_itemC (Draws.tuple hh it a n3 its.toArray) he ⟨hit, htp⟩ hin n1 (by intro z; rcases List.mem_cons.mp z with z | z; exact n1 z; exact n2 (List.mem_singleton.mp z).symm) fun y g tk hy ho hst hT hsz hk => ?_
    have hy' : its[i]? = some y := by simpa using hy
    rw [hu] at hy'
    cases hy'
    refine ⟨_, rfl, wpAny_letOwnedTupleGo_enum (s := { s with heap := g, toks := tk + 1 }) ho fun g2 he2 sb => ?_⟩
    have hT2 : g2.get? s.heap.objs.size = some { cls := .type "tuple", data := .seq #[.int i tk, u] } := (sb.2 _ (Nat.ne_of_gt hel)).trans hT
    have new : ObjOk X.prog X.w (upd H s.heap.objs.size (.tup [.int (i : Nat), x])) g2 s.heap.objs.size (.tup [.int (i : Nat), x]) :=
      ⟨by show 2 ≤ sizeLine; decide, [.int i tk, u], .cons ⟨_, rfl⟩ (.cons ru .nil), ⟨_, hT2, rfl, _, rfl⟩⟩
    have I1 : Inv X pins σ (upd H s.heap.objs.size (.tup [.int (i : Nat), x])) { s with heap := g2, toks := tk + 1 } :=
      I.turnedNew (ch := [en, it]) (fun b ob hb q => (sb.2 b (fun z => hb (by simp [z]))).trans (hk b ob (fun z => hb (by simp [z])) (fun z => hb (by simp [z])) q)) hf (Nat.le_refl _) new
    refine ⟨.ref s.heap.objs.size, _, I1, rfl, ⟨_, x, rfl, I.hok.fresh (Nat.le_refl _), rfl, fun ys hy => by rw [I.tuple_inj hy hq]; exact hx⟩, ⟨⟨u, ?_⟩, hst.1.at fun o q => (sb.2 it (Ne.symm n1)).trans q⟩, fun b hb => ?_⟩
    · have e1 : ((i + 1 : Nat) : Int) = (i : Int) + 1 := by omega
      rw [e1]
      exact he2
    · have hb' : b < s.heap.objs.size := by
        have z : b = en ∨ b = it := by simpa using hb
        rcases z with z | z
        · rw [z]; exact hel
        · rw [z]; exact hil
      rw [upd_ne (Nat.ne_of_lt hb')]
      exact (hf b hb).1
  done := by
    intro X hP hw hK hc i pins s σ H E I hf st hg
    subst hP hw hK
    obtain ⟨⟨old, he⟩, hit⟩ := st
    obtain ⟨xs, hq, hx⟩ := hg
    obtain ⟨its, rv, tp, hz⟩ := I.tuple hq
    have htp : s.heap.IsTuple a its.toArray := tp
    obtain ⟨f0, f1, f2, f3, f4, f5⟩ := hf it (by simp)
    have hl := rv.length
    have hh : X.A.in1.handled = none := I.ok.hd hc
    have D2 : Draws X.prog X.w X.A.in1 it [it, a] 0 (fun _ _ => False) (fun _ g => g.IsTupleIter it a i ∧ g.IsTuple a its.toArray) :=
      ⟨fun _ _ st => let ⟨o, ho, _⟩ := st.1; ⟨o, ho⟩, fun _ _ _ st kp => ⟨st.1.at fun o e => kp it (by simp) o e, st.2.at fun o e => kp a (by simp) o e⟩, fun j _ _ _ hj => absurd hj (Nat.not_lt_zero j),
        fun s Q E st hE => wpAny_nextOf_tuple_end hh st.1 st.2 (by simp; omega) hE⟩
    exact wpAny_pyNext_enum_endD D2 he ⟨hit, htp⟩ fun g eb => ⟨rfl, I.turned (t' := s.toks) (fun b o hb q => eb b o hb q) f0 f1 f3 f4 f5⟩
  self := fun A i s Q E st q => let ⟨⟨_, he⟩, _⟩ := st; wpAny_pyIter_enum he q
def iEnumT (K : PySem.W.Frag) (ta : TA) : TI := fun σ H R => ta σ H fun vs H1 => ∃ a xs, vs = [.ref a] ∧ SqT K H1 a xs ∧ R (Iet K a) H1
theorem pi_enumT {X : Cx} {e : Expr} {ta : TA} {p pos tpos : Pos} {elts : List Expr} {kk : Nat} (hg : Gl X "enumerate") (hm : X.mg "enumerate" = none) (ha : PA X [e] ta) (hs : starEach [e] X.env = [(false, eval e X.env)] := by rfl) :
    PI X (.Tuple elts kk tpos) (.Call (.Name "enumerate" p) [e] [] pos) (iEnumT X.K ta) := by
  refine ⟨fun pins s σ H R I h => ?_⟩
  refine Call_ (ld_blt I hg hm boot_enumerate (PyProof.Rows.callWith_type1 (thn (ha.run pos pins s σ H _ I h) fun us s1 hz => ?_) hs rfl))
  obtain ⟨vs, H1, I1, r1, a, xs, ex, hq, q⟩ := hz
  subst ex
  cases r1 with
  | cons r rr =>
    cases rr
    cases r
    obtain ⟨its, rv, tp, _⟩ := I1.tuple hq
    have htp : s1.heap.IsTuple a its.toArray := tp
    have hal : a < s1.heap.objs.size := by obtain ⟨_, z, _⟩ := tp; exact Heap.lt_size z
    refine enum_beginsT (begins_tuple a its.toArray) htp fun g he hi hk => wpAny_pyIter_enum he ?_
    have I2 : Inv X pins σ H1 { s1 with heap := g } := I1.kept (t' := s1.toks) hk
    refine ⟨s1.heap.objs.size + 1, [s1.heap.objs.size + 1, s1.heap.objs.size], _, _, H1, rfl, I2, turn_iet a (s1.heap.objs.size + 1) s1.heap.objs.size (Nat.succ_ne_self _) (Nat.ne_of_lt (Nat.lt_succ_of_lt hal)) (Nat.ne_of_lt hal), ⟨⟨.none, he⟩, ⟨_, hi, rfl, rfl⟩⟩, fun b hb => ?_, q⟩
    have hb' : b = s1.heap.objs.size + 1 ∨ b = s1.heap.objs.size := by simpa using hb
    have hle : s1.heap.objs.size ≤ b := by
      rcases hb' with z | z
      · rw [z]; exact Nat.le_add_right _ _
      · rw [z]; exact Nat.le_refl _
    exact I1.fpOk hle (I1.hok.fresh hle)
end Rc

set_option Elab.async false
set_option linter.all false
set_option maxRecDepth 100000
set_option maxHeartbeats 4000000
/-! a lambda as a value; a dict comprehension over an empty dict; C.__init__(self, ..); a target o.f in a tuple of targets -/
namespace Rc
open PySem PySem.Spec PyProof.Rows L2
theorem ext_t {fp : List Addr} {H H1 : Hp} (e : LamX.ExtN H H1) : ChT fp H H1 := ⟨fun a o h _ n => e a o h n, fun a o h i => e a o h (Imx.not_tbl i), fun a ⟨o, h, n⟩ => ⟨o, e a o h n, n⟩⟩
theorem tabs_keep {T : List (Addr × Str)} {fp : List Addr} {H H1 : Hp} (t : LamX.Tabs T H) (c : Chg fp H H1) : LamX.Tabs T H1 := fun p hp => by
  obtain ⟨ps, h1, h2, h3⟩ := t p hp
  refine ⟨ps, c.imm _ _ h1 rfl, h2, fun pos cv hc => ?_⟩
  obtain ⟨d, e1, e2⟩ := h3 pos cv hc
  exact ⟨d, e1, c.imm _ _ e2 rfl⟩
section
variable {X : Cx} {e o : Expr} {es : List Expr} {pos pos' apos : Pos} {ta : TE} {tr : TA} {f m : Str} {ns : List Str} {i k : Nat} {C g : Addr} {sp : Sp} {dvs : List V}
/-- a lambda, made: some object -/
def tLamV (T : List (Addr × Str)) : TE := fun _ H Q => LamX.Tabs T H ∧ ∀ f H1, LamX.ExtN H H1 → LamX.Tabs T H1 → Q (.ref f) H1
theorem pe_lam {T : List (Addr × Str)} {c P : Addr} {params : Arguments} {body : Expr} {scope : Scope} (TB : LamX.TabB X.base X.mg c P) (hcode : X.env.code = .ref c) (hm : (P, X.env.qual ++ "<lambda>") ∈ T) (hu : ∀ p ∈ T, p.1 = P → p.2 = X.env.qual ++ "<lambda>")
    (hd : defaultsOf params X.env = ([], [])) (hc : ∀ y ∈ scope.names, y.2 = .free → X.env.kindOf y.1 = some .cell) : PE X (.Lambda params body scope pos) (tLamV T) := by
  refine ⟨fun pins s σ H Q I h => ?_⟩
  refine LamX.lam_make2 I TB hcode hm hu h.1 hd (fun y hy e => I.ok.has _ (.inl (hc y hy e))) fun fa c' pm ctv H1 s1 I1 ex tb _ _ _ _ => ?_
  exact ⟨.ref fa, H1, I1, rfl, h.2 fa H1 ex tb⟩
/-- C.m(x, ..), C a class of the module, m a def in it -/
theorem pe_cls (D : Df X.prog X.w X.K X.mg X.base g k dvs sp) (hr : Room k X.A) {x : Str} {p : Pos} {pl : Sem Bool} (hg : Gl X x) (hm : X.mg x = some (.ref C))
    (rd : PySem.W.readsIn X.K C (.type "type") = true ∧ PySem.W.specialIn X.K (.ref C) "__getattribute__" = some (some (.builtin "type.__getattribute__")) ∧ PySem.W.findCls X.K (.ref C) (.type "type") m = some (.val (.ref g))) (ha : PA X (e :: es) tr)
    (hd : (x == ("__debug__" : Str)) = false := by decide)
    (hst : starEach (e :: es) X.env = (false, eval e X.env) :: starEach es X.env := by rfl) (hpl : (backTo pos (starEach es X.env)).any (·.1) = false := by rfl)
    (ht : eval (.Call (.Attribute (.Name x p) m apos) (e :: es) [] pos) X.env = (do
      let recv ← eval (.Name x p) X.env
      standAt apos.atName
      let (fn, self) ← holding [recv] (getMethod recv m pl)
      callWith pos fn self (backTo pos (starEach (e :: es) X.env)) (backToKw pos (keywordEach [] X.env))) := by rfl) : PE X (.Call (.Attribute (.Name x p) m apos) (e :: es) [] pos) (tCall sp dvs E0 tr) := by
  obtain ⟨fd, ps, ds, F, hb, hd2⟩ := D.ex
  refine ⟨fun pins s σ H Q I h => ?_⟩
  refine PySem.W.methodCall_KW (pl := pl) (ld_glob I hg hm ?_ hd) ht
  refine PySem.W.method_cls I.kIn rd.2.1 (ClX.getcval_ok (f := m) (v := .ref g) I ⟨rd.1, rd.2.1⟩ ⟨rd.2.2, rfl⟩ fun s1 I1 => ?_)
  refine PySem.W.callWith_K (first := []) (h₀ := X.base) I.ok.mod.kin D.kp (thn (ha.run pos pins s1 σ H _ I1 h) fun us s2 ⟨ws, H2, I2, r, q2⟩ => ⟨I2.kIn, ?_⟩) hst hpl
  exact run_fn F hr hb hd2 pass0 I2 r q2
/-- .. o.f = v as a target -/
def gPut (C : Addr) (ns : List Str) (i : Nat) (ta : TE) : TG := fun v σ H Q => ta σ H fun x H1 => ∃ a dx vs, x = .ref a ∧ H1 a = some (Ob C dx ns vs) ∧ i < vs.length ∧ Q σ (upd H1 a (Ob C dx ns (vs.set i v)))
end
end Rc

set_option Elab.async false
set_option linter.all false
set_option maxRecDepth 100000
set_option maxHeartbeats 4000000
/-! a set comprehension whose items are ints -/
namespace Rc
open PySem PySem.Spec PyProof.Rows L2
/-- the turns of {elt for target in iter if ..}, elt an int, the new set at D -/
def SetWalk (w : World) (J : It) (D : Addr) (g : TG) (tt : TT) (te : TE) (vs : List Nat) (σ : L2.St) (H0 : Hp) (Q : Hp → Prop) : Prop :=
  ∃ W : Nat → Nat → Hp → Prop, (∃ m, W 0 m (upd H0 D (SetO w D (fun _ => false) 0))) ∧ ∀ i m G, W i m G →
    (J.stop i G ∧ Q G) ∨ (J.go i G ∧ ∃ Z : Hp → Prop, (∀ G', Z G' → ∃ m', m' < m ∧ W (i + 1) m' G') ∧ ∀ x G1, J.yld i G x G1 → g x (wipe σ vs) G1 fun ρ G2 => wipe ρ vs = wipe σ vs ∧ tt ρ G2 fun b G3 =>
      if b = true then te ρ G3 fun y G4 => ∃ (c : Int) (S : Int → Bool) (n : Nat), y = .int c ∧ G4 D = some (SetO w D S n) ∧ n + 1 < scanBound ∧ Z (upd G4 D (SetO w D (fun j => S j || decide (j = c)) (if S c = true then n else n + 1))) else Z G3)
def tSetI (w : World) (wi : TI) (g : TG) (tt : TT) (te : TE) (vs : List Nat) : TE := fun σ H Q => wi σ H fun J H1 => ∀ D, H1 D = none → SetWalk w J D g tt te vs σ H1 fun G => Q (.ref D) G
section
variable {X : Cx} {pins : List (Addr × Obj)} {σ : L2.St} {H : Hp} {s : Shared}
theorem add_int {E : Value → Shared → Prop} {D : Addr} {S : Int → Bool} {n : Nat} {y : Int} {tk : Tok} {R : Value → Shared → Prop} (I : Inv X pins σ H s) (hD : H D = some (SetO X.w D S n)) (small : n + 1 < scanBound)
    (k : ∀ s2, Inv X pins σ (upd H D (SetO X.w D (fun j => S j || decide (j = y)) (if S y = true then n else n + 1))) s2 → R .none s2) : wpAny (model X.prog X.w) X.A (call (.builtin "set.add") [.ref D, .int y tk]) R E s := by
  refine setR_add (setO_get I hD) small fun g sb new => ?_
  obtain ⟨ob, a1, a2, a3, a4, a5⟩ := id new
  exact k _ (I.write (e := D) (t' := s.toks + 1) (by rw [hD]; exact True.intro) (.inl rfl) (fun b u hb hu => (sb.2 b hb).trans hu) ⟨ob, a4⟩ (setO_new new))
theorem set_walk {Q : VK} {elt tg iter : Expr} {ifs : List Expr} {scope : Scope} {own : List (PySem.Str × Nat)} {pos pos' : Pos} {wi : TI} {g : TG} {tt : TT} {te : TE} {Qf : Value → Shared → Prop}
    (calm : X.calm = true) (nd : X.N.Nodup) (I : Inv X pins σ H s) (hi : PI X tg iter wi) (ok : BlkOk X.N X.env.scope scope own)
    (hg : ∀ (z : Shared) (G : Hp) (C : Addr) (cl : List (PySem.Str × Addr)) (fp : List Addr), PG (X.blk z G scope (compEnvC scope cl C X.env) fp) tg g)
    (ht : ∀ (z : Shared) (G : Hp) (C : Addr) (cl : List (PySem.Str × Addr)) (fp : List Addr), PTs (X.blk z G scope (compEnvC scope cl C X.env) fp) ifs tt)
    (he : ∀ (z : Shared) (G : Hp) (C : Addr) (cl : List (PySem.Str × Addr)) (fp : List Addr), PE (X.blk z G scope (compEnvC scope cl C X.env) fp) elt te) (hs : ∀ x, foldedSetIterable iter X.env x = pure x)
    (h : tSetI X.w wi g tt te (own.map (·.2)) σ H Q)
    (back : ∀ D C z m G, Inv X pins σ G z → Q (.ref D) G → z.heap.Ns C m → FpOk X pins G C → compPost (model X.prog X.w) X.A X.xe none Qf (.ref D) C (.ok .next) z) :
    wpAny (model X.prog X.w) X.A (comprehension (.SetComp elt [⟨tg, iter, ifs, 0⟩] scope pos) scope X.env pos' (newSet (.type "set")) false (eval iter X.env) none) Qf X.xe s := by
  have caps : ∀ y ∈ scope.names, y.2 = .free → ∃ c, X.env.cells.lookup y.1 = some c := fun y hy z => I.ok.has _ (ok.free y hy z)
  refine wpAny_comprehension_free (use := none) rfl hs (closure_ok caps) ok.kind (fun y hy z => by rw [ok.uniq y hy, z])
    (thn (hi.run pins s σ H _ I h) fun xv sa hx => thn hx fun itv sb hb => ?_)
  obtain ⟨it, fp, tn, J, H2, e, I2, T, stB, fB, q⟩ := hb
  subst e
  refine PpSet.newSet_ok (newEnv_comp ?_)
  generalize hD : sb.heap.objs.size = D
  have freshD : H2 D = none := I2.hok.fresh (Nat.le_of_eq hD)
  obtain ⟨W, ⟨m0, w0⟩, turn⟩ := q D freshD
  generalize hsc : ({ sb with heap := sb.heap.push { cls := .type "set", dict := none, data := .set #[] 0 (.fresh 0 0 (!X.w.params.followText "set-order")) } } : Shared) = sc
  have I3 : Inv X pins σ (upd H2 D (SetO X.w D (fun _ => false) 0)) sc := by
    rw [← hsc]
    refine I2.laid (t' := sb.toks) (fun b o z => Heap.get?_push_of_some _ z) (Nat.le_of_eq hD) ?_
    rw [← hD]
    exact setO_new (setR_fresh X.w)
  have hpC : sc.heap = sb.heap.push { cls := .type "set", dict := none, data := .set #[] 0 (.fresh 0 0 (!X.w.params.followText "set-order")) } := by rw [← hsc]
  have below : ∀ b ∈ fp, b < sb.heap.objs.size := fun b hb => let ⟨o, z, _⟩ := T.obj _ _ stB b hb; Heap.lt_size z
  have fC : ∀ b ∈ fp, FpOk X pins (upd H2 D (SetO X.w D (fun _ => false) 0)) b ∧ b < sc.heap.objs.size := fun b hb => by
    have lt := below b hb
    refine ⟨⟨?_, (fB b hb).2⟩, by rw [hpC, Heap.size_push]; exact Nat.lt_succ_of_lt lt⟩
    rw [upd_ne (by rw [← hD]; exact Nat.ne_of_lt lt)]
    exact (fB b hb).1
  have stC : tn 0 sc.heap := T.keep _ _ _ stB fun b _ o z => by rw [hpC]; exact Heap.get?_push_of_some _ z
  have I4 := block_start I3 ok nd fC
  have pg := hg sc (upd H2 D (SetO X.w D (fun _ => false) 0)) sc.heap.objs.size (cellsFrom (sc.heap.objs.size + 1) scope.names (cloFrom X.env.cells scope.names [])) fp
  have pt := ht sc (upd H2 D (SetO X.w D (fun _ => false) 0)) sc.heap.objs.size (cellsFrom (sc.heap.objs.size + 1) scope.names (cloFrom X.env.cells scope.names [])) fp
  have pe := he sc (upd H2 D (SetO X.w D (fun _ => false) 0)) sc.heap.objs.size (cellsFrom (sc.heap.objs.size + 1) scope.names (cloFrom X.env.cells scope.names [])) fp
  show codeAny _ _ (.compStart (.SetComp elt [⟨tg, iter, ifs, 0⟩] scope pos) 0 (.ref it) (.ref D) (compEnvC scope (cellsFrom (sc.heap.objs.size + 1) scope.names (cloFrom X.env.cells scope.names [])) sc.heap.objs.size X.env)) (compPost (model X.prog X.w) X.A X.xe none Qf (.ref D) sc.heap.objs.size) { sc with heap := pushCells (sc.heap.push { cls := .type "dict", data := .dict #[] }) scope.names }
  have nfp : ∀ b ∈ fp, (upd H2 D (SetO X.w D (fun _ => false) 0)) b = none := fun b hb => (fC b hb).1.1
  generalize hce : compEnvC scope (cellsFrom (sc.heap.objs.size + 1) scope.names (cloFrom X.env.cells scope.names [])) sc.heap.objs.size X.env = ce at I4 pg pt pe ⊢
  have loc : ce.locals = sc.heap.objs.size := by rw [← hce]; rfl
  generalize hHC : upd H2 D (SetO X.w D (fun _ => false) 0) = HC at I3 I4 pg pt pe w0 nfp fC
  generalize hsd : ({ sc with heap := pushCells (sc.heap.push { cls := .type "dict", data := .dict #[] }) scope.names } : Shared) = sd at I4 ⊢
  have stD : tn 0 sd.heap := T.keep _ _ _ stC fun b _ o z => by rw [← hsd]; exact pushCells_keeps _ _ _ _ (Heap.get?_push_of_some _ z)
  have stat : ∀ {ρ : L2.St} {G : Hp} {z : Shared}, Inv (X.blk sc HC scope ce fp) [] ρ G z → (∀ b ∈ fp, G b = none) → ∀ b ∈ fp, FpOk (X.blk sc HC scope ce fp) [] G b := fun {ρ G z} IZ hn b hb =>
    ⟨hn b hb, (IZ.ok.exf b hb).1, IZ.ok.exfs b hb, .inl hb, fun x c z => (IZ.ok.exf b hb).2 x c z, fun p hp => absurd (show p ∈ ([] : List (Addr × Obj)) ++ [] from hp) (by simp)⟩
  have loop : codeAny (model X.prog X.w) X.A (.compLoop (.SetComp elt [⟨tg, iter, ifs, 0⟩] scope pos) 0 (.ref it) (.ref D) ce) (compPost (model X.prog X.w) X.A X.xe none Qf (.ref D) sc.heap.objs.size) sd := by
    refine PpSet.compLoopS_any (fun n z => ∃ i G, Inv (X.blk sc HC scope ce fp) [] (wipe σ (own.map (·.2))) G z ∧ tn i z.heap ∧ (∀ b ∈ fp, G b = none) ∧ W i n G) ?_ m0 ⟨0, HC, I4, stD, nfp, w0⟩
    rintro n s5 ⟨i, G5, I5, st5, n5, w5⟩
    rcases turn i n G5 w5 with ⟨stop, qq⟩ | ⟨go, Z, hZ, step⟩
    · refine thnF (T.done (X.blk sc HC scope ce fp) rfl rfl rfl calm i [] s5 _ G5 (fun _ _ => False) I5 (stat I5 n5) st5 stop) fun r s6 ⟨hr, I6⟩ => ?_
      subst hr
      have I7 : Inv X pins σ G5 s6 := I3.call' (ch := fp) I6.os I6.base I6.hok I6.bare fun b hb => ⟨(fC b hb).1.2.2.2.1, (fC b hb).1.2.1, (fC b hb).1.2.2.2.2.1, (fC b hb).1.2.2.2.2.2⟩
      have frL : G5 sc.heap.objs.size = none := by
        have z : G5 ce.locals = none := I6.free
        rw [loc] at z
        exact z
      obtain ⟨m, hn, _⟩ := I6.loc
      have hn : s6.heap.Ns ce.locals m := hn
      rw [loc] at hn
      exact back D sc.heap.objs.size s6 m G5 I7 qq hn (I3.fpOk (Nat.le_refl _) frL)
    · refine thnF (T.item (X.blk sc HC scope ce fp) rfl rfl rfl calm i [] s5 _ G5 (fun _ _ => False) I5 (stat I5 n5) st5 go) fun r s6 ⟨u, hr, h6⟩ => ?_
      subst hr
      refine thnF h6 fun _ s7 ⟨x, G7, I7, r7, y7, st7, n7⟩ => ?_
      refine thnF (pg.run _ s7 _ G7 x u _ (I7.pinned (stat I7 n7) (T.obj _ _ st7)) r7 (step x G7 y7)) fun _ s8 ⟨ρ, G8, I8, w8, q8⟩ => ?_
      refine thnF (pt.run _ s8 ρ G8 _ I8 q8) fun b s9 ⟨G9, I9, q9⟩ => ?_
      have next : ∀ {z : Shared} {G : Hp}, Inv (X.blk sc HC scope ce fp) ([] ++ pinsAt fp s7.heap) ρ G z → Z G → ∃ m, m < n ∧ ∃ i G, Inv (X.blk sc HC scope ce fp) [] (wipe σ (own.map (·.2))) G z ∧ tn i z.heap ∧ (∀ b ∈ fp, G b = none) ∧ W i m G := fun {z G} IZ nx => by
        obtain ⟨m', hm, w'⟩ := hZ G nx
        have held : ∀ b ∈ fp, ∀ o, s7.heap.get? b = some o → z.heap.get? b = some o ∧ G b = none := fun b hb o y =>
          let r := IZ.pin (b, o) (List.mem_append_right _ (List.mem_append_right _ (mem_pinsAt hb y)))
          ⟨r.1, r.2.1⟩
        refine ⟨m', hm, i + 1, G, (IZ.unpinned (pins := [])).weak (by rw [← w8, wipe_length]) (fun j v y => ?_), T.keep _ _ _ st7 fun b hb o y => (held b hb o y).1, fun b hb => ?_, w'⟩
        · rw [← w8] at y
          exact (wipe_some y).1
        · obtain ⟨o, y, _⟩ := T.obj _ _ st7 b hb
          exact (held b hb o y).2
      cases b with
      | false =>
        simp only [Bool.false_eq_true, if_false] at q9 ⊢
        exact next I9 q9
      | true =>
        simp only [if_true] at q9 ⊢
        refine thnF (pe.run _ s9 ρ G9 _ I9 q9) fun u9 s10 ⟨yv, G10, I10, r10, c, S, k, ey, hD10, room, nx⟩ => ?_
        subst ey
        obtain ⟨tk, hu⟩ := (show ∃ tk, u9 = Value.int c tk from r10)
        subst hu
        exact add_int (X := X.blk sc HC scope ce fp) I10 hD10 room fun s11 I11 => next I11 nx
  exact PpSet.codeAny_compStart_set loop (T.self X.A 0 _ _ _ stD loop)
theorem pe_setI {elt tg iter : Expr} {ifs : List Expr} {scope : Scope} {own : List (PySem.Str × Nat)} {pos : Pos} {wi : TI} {g : TG} {tt : TT} {te : TE} (calm : X.calm = true) (nd : X.N.Nodup) (hi : PI X tg iter wi) (ok : BlkOk X.N X.env.scope scope own)
    (hg : ∀ (z : Shared) (G : Hp) (C : Addr) (cl : List (PySem.Str × Addr)) (fp : List Addr), PG (X.blk z G scope (compEnvC scope cl C X.env) fp) tg g)
    (ht : ∀ (z : Shared) (G : Hp) (C : Addr) (cl : List (PySem.Str × Addr)) (fp : List Addr), PTs (X.blk z G scope (compEnvC scope cl C X.env) fp) ifs tt)
    (he : ∀ (z : Shared) (G : Hp) (C : Addr) (cl : List (PySem.Str × Addr)) (fp : List Addr), PE (X.blk z G scope (compEnvC scope cl C X.env) fp) elt te) (hs : ∀ x, foldedSetIterable iter X.env x = pure x := by intro _; rfl) :
    PE X (.SetComp elt [⟨tg, iter, ifs, 0⟩] scope pos) (tSetI X.w wi g tt te (own.map (·.2))) := by
  refine ⟨fun pins s σ H Q I h => ?_⟩
  rw [PpSet.eval_SetComp]
  refine set_walk calm nd I hi ok hg ht he hs h fun D C z m G IZ q hn f => ⟨m, hn, fun g2 sb => ?_⟩
  obtain ⟨f0, f1, f2, f3, f4, f5⟩ := f
  exact ⟨.ref D, G, IZ.turned (t' := z.toks) (fun b o hb y => (sb.2 b hb).trans y) f0 f1 f3 f4 f5, rfl, q⟩
end
end Rc

set_option Elab.async false
set_option linter.all false
set_option maxRecDepth 100000
set_option maxHeartbeats 4000000
/-! sorted of any length (texts; a dict's int keys), min of a dict's int keys, a dict beside an empty one, o.f as a target among others -/
namespace Rc
open PySem PySem.Spec PyProof.Rows L2
section
variable {X : Cx}
/-! ### sorted(d), ints as keys, any number -/
def rSortDk : List V → Hp → VK → Prop := fun vs H Q => ∃ (a : Addr) (kvs : List (Key × V)) (ks : List Int), vs = [.ref a] ∧ H a = some (.dK kvs) ∧ kvs.map (·.1) = ks.map Sum.inl ∧
  ∀ (ys : List Int) (p : Addr), ys.Perm ks → ys.Pairwise (· ≤ ·) → H p = none → Q (.ref p) (upd H p (.lst (ys.map V.int)))
theorem cr_sortedDk (calm : X.calm = true) : CallR X (.builtin "sorted") rSortDk := by
  intro pins s σ H xs us Q I r h
  obtain ⟨a, kvs, ks, ex, hd, hks, q⟩ := h
  subst ex
  rw [Vals.ref1 r]
  obtain ⟨z, lo, vs, rel, dd⟩ := dk_of I.hok hd
  obtain ⟨ep, hat⟩ := dd.dictAt
  have keys : vs.map (·.1) = ks.map Sum.inl := rel.keys.symm.trans hks
  have len : vs.length = ks.length := by simpa using congrArg List.length keys
  have len2 : kvs.length = ks.length := by simpa using congrArg List.length hks
  have small : vs.length ≤ sizeLine := by omega
  refine Calls.call_function_entry PyProof.Rows.kind_sorted PyProof.Rows.plain_sorted PyProof.Rows.entry_sorted (PyProof.Rows.args_sorted1 _) ?_
  unfold Builtin.«sorted»
  refine wpAny_bind (m := checkCount "sorted" 1 1 _) (wpAny_pure (wpAny_bind (PySem.W.kdu_collect (A := X.A.in1) (PySem.W.kdl_dict (knd := mixKind X.prog X.w) (kvs := vs) (ep := ep) lo) (I.ok.hd calm) hat small fun g tk acc hk hacc => ?_)))
  have lacc : acc.toList.length = ks.length := by rw [Array.length_toList, hacc.1, len]
  have hI : IntsAre acc.toList ks := ints_each lacc fun j v e => by
    obtain ⟨k, x, e1, e2⟩ := hacc.2 j v (by rw [← Array.getElem?_toList]; exact e)
    have e3 : (ks.map Sum.inl)[j]? = some k := by rw [← keys, List.getElem?_map, e1]; rfl
    rw [List.getElem?_map] at e3
    obtain ⟨y, e4, e5⟩ := Option.map_eq_some_iff.mp e3
    subst e5
    rcases keyIs_shape (show keyIs (Sum.inl y) v = true from e2) with ⟨i, t, ek, ev⟩ | ⟨z, t, ek, ev⟩
    · cases ek
      exact ⟨y, t, e4, ev⟩
    · cases ek
  have I1 : Inv X pins σ H { s with heap := g, toks := tk } := I.kept hk
  refine wpAny_bind (wpAny_newList ?_ (by omega))
  have at_ : (g.push (seqObj "list" acc.toList.toArray 0)).get? g.objs.size = some (seqObj "list" acc.toList.toArray 0) := Heap.get?_push_size _ rfl
  show wpAny _ _ _ _ _ { s with heap := g.push (seqObj "list" acc.toList.toArray 0), toks := tk }
  refine wpAny_bind (wpAny_holding (wpAny_call_entry PyProof.Rows.slot_list_sort ⟨_, at_, rfl⟩ PyProof.Rows.entry_list_sort
    (SrtO.list_sort_ord (s := { s with heap := g.push (seqObj "list" acc.toList.toArray 0), toks := tk }) SrtO.swo_int at_ (by omega) (fun h2 => SrtO.ints_sortable hI h2) fun out g1 g2 => ⟨_, rfl, ?_⟩) (PyProof.Rows.args_list_sort _)))
  obtain ⟨k1, k2, k3⟩ := SrtO.ints_out hI g1 g2
  obtain ⟨e', he'⟩ := PyProof.Rows.sortedHeap_at (vs := acc.toList) (out := out.toArray) at_
  have lo2 : ((out.map SrtO.iv).map V.int).length ≤ sizeLine := by
    rw [List.length_map, k2.length_eq]
    omega
  refine wpAny_pure ⟨_, rfl, .ref g.objs.size, upd H g.objs.size (.lst ((out.map SrtO.iv).map V.int)), I1.laid (t' := tk) (fun b u e => ?_) (Nat.le_refl _)
    (show ObjOk X.prog X.w _ _ _ (.lst ((out.map SrtO.iv).map V.int)) from ⟨lo2, out, e', vals_of_ints k1, he'⟩), rfl, q _ _ k2 k3 (I1.hok.fresh (Nat.le_refl _))⟩
  have lb : b < g.objs.size := Heap.lt_size e
  rw [PyProof.Rows.sortedHeap_old (Nat.ne_of_lt lb) (by rw [PyProof.Rows.size_push']; exact Nat.lt_succ_of_lt lb)]
  exact Heap.get?_push_of_some _ e

/-! ### sorted(xs), texts, any number -/
def leS (a b : Str) : Bool := decide (a.cps.toList ≤ b.cps.toList)
def rSortT (K : PySem.W.Frag) : List V → Hp → VK → Prop := fun vs H Q => ∃ (a : Addr) (zs : List Str), vs = [.ref a] ∧ SqL K H a (zs.map V.str) ∧
  ∀ p : Addr, H p = none → Q (.ref p) (upd H p (.lst ((zs.mergeSort leS).map V.str)))
theorem each_strs : ∀ {zs : List Str} {us : List Value}, Vals (zs.map V.str) us → PySem.W.EachIs (fun (v : Value) (b : Str) => ∃ t, v = Value.str b t) us zs
  | [], _, r => by
    cases r
    exact .nil
  | z :: zs, _, r => by
    cases r with
    | cons a r => exact .cons a (each_strs r)
theorem strs_each : ∀ {zs : List Str} {us : List Value}, PySem.W.EachIs (fun (v : Value) (b : Str) => ∃ t, v = Value.str b t) us zs → Vals (zs.map V.str) us
  | _, _, .nil => .nil
  | _, _, .cons a r => .cons a (strs_each r)
theorem cr_sortedT (hu : X.A.units + 64 < cLine) : CallR X (.builtin "sorted") (rSortT X.K) := by
  intro pins s σ H xs us Q I r h
  obtain ⟨a, zs, ex, hs, q⟩ := h
  subst ex
  rw [Vals.ref1 r]
  obtain ⟨its, rv, hl, hz⟩ := I.list hs
  rw [List.length_map] at hz
  have ea := each_strs rv
  have er : PySem.W.EachIs (fun (v : Value) (b : Str) => ∃ as, Reads s.heap v (PyData.str b) as) its zs := ea.mono fun v b ⟨t, e⟩ => by
    rw [e]
    exact ⟨_, .str b t⟩
  refine PySem.W.sorted_data (enc := fun b : Str => PyData.str b) hl.isList ea er ?_ ?_ hz ?_ fun out ho he => ?_
  · intro d hd d' hd'
    obtain ⟨x, _, e1⟩ := List.mem_map.mp hd
    obtain ⟨y, _, e2⟩ := List.mem_map.mp hd'
    rw [← e1, ← e2]
    rfl
  · refine .inr fun d hd => ?_
    obtain ⟨x, _, e1⟩ := List.mem_map.mp hd
    rw [← e1]
    exact ⟨(fun z => by cases z), (fun _ z => by cases z)⟩
  · intro b _
    show X.A.units + 2 + 0 < cLine
    omega
  · rw [PySem.W.dataLe_str (fun b : Str => b)] at he
    have hv := strs_each he
    obtain ⟨ep, he'⟩ := PyProof.Rows.sortedAll_at s.heap its out.toArray
    have lz : ((zs.mergeSort leS).map V.str).length ≤ sizeLine := by
      rw [List.length_map, List.length_mergeSort]
      exact hz
    exact ⟨.ref _, upd H (s.heap.objs.size + 1) (.lst ((zs.mergeSort leS).map V.str)), I.laid (t' := s.toks) (fun _ _ => PyProof.Rows.sortedAll_old) (Nat.le_succ _) ⟨lz, out, ep, hv, he'⟩, rfl, q _ (I.hok.fresh (Nat.le_succ _))⟩

/-! ### min(d), ints as keys -/
def rMinD : List V → Hp → VK → Prop := fun vs H Q => ∃ (a : Addr) (kvs : List (Key × V)) (ks : List Int), vs = [.ref a] ∧ H a = some (.dK kvs) ∧ kvs.map (·.1) = ks.map Sum.inl ∧ ks ≠ [] ∧ ∀ m, m ∈ ks → (∀ y ∈ ks, m ≤ y) → Q (.int m) H
theorem cr_minD (calm : X.calm = true) : CallR X (.builtin "min") rMinD := by
  intro pins s σ H xs us Q I r h
  obtain ⟨a, kvs, ks, ex, hd, hks, hne, q⟩ := h
  subst ex
  rw [Vals.ref1 r]
  obtain ⟨z, lo, vs, rel, dd⟩ := dk_of I.hok hd
  obtain ⟨ep, hat⟩ := dd.dictAt
  have keys : vs.map (·.1) = ks.map Sum.inl := rel.keys.symm.trans hks
  have len : vs.length = ks.length := by simpa using congrArg List.length keys
  have pos : 0 < ks.length := List.length_pos_iff.mpr hne
  have hne2 : a ≠ s.heap.objs.size := by
    obtain ⟨o, es, ho, _⟩ := hat
    exact Nat.ne_of_lt (Heap.lt_size ho)
  have hval : ∀ (i : Nat) (v : Value), (∃ k x, vs[i]? = some (k, x) ∧ (mixKind X.prog X.w).is k v = true) → ∃ t, v = .int (ks.getD i 0) t := fun i v ⟨k, x, e1, e2⟩ => by
    have e3 : (ks.map Sum.inl)[i]? = some k := by rw [← keys, List.getElem?_map, e1]; rfl
    rw [List.getElem?_map] at e3
    obtain ⟨y, e4, e5⟩ := Option.map_eq_some_iff.mp e3
    subst e5
    rcases keyIs_shape (show keyIs (Sum.inl y) v = true from e2) with ⟨j, t, ek, ev⟩ | ⟨z, t, ek, ev⟩
    · cases ek
      refine ⟨t, ?_⟩
      rw [List.getD_eq_getElem?_getD, e4]
      exact ev
    · cases ek
  refine call_min_walk (wpAny_pyIter_dict (knd := mixKind X.prog X.w) lo hat ?_)
  have hat2 : (s.heap.push { cls := .type "dict_keyiterator", data := .fields #[.ref a, .int 0 0, .int vs.length 0, .int ep 0] }).DictAt (mixKind X.prog X.w) a vs ep := hat.at' fun o e => Heap.get?_push_of_some _ e
  refine ⟨_, [s.heap.objs.size, a], [s.heap.objs.size], vs.length, _, _, _, rfl, Walks.dictKeys (A := X.A.in1) (I.ok.hd calm) s.heap.objs.size a hne2 vs ep, ⟨⟨_, Heap.get?_push_size _ rfl, rfl, rfl⟩, hat2⟩, fun b hb => ?_, by omega, CmpOf.ints_lt (fun i => ks.getD i 0) hval, fun v g tk hP hk => ?_⟩
  · show b < (s.heap.push _).objs.size
    rw [Heap.size_push]
    rcases List.mem_cons.mp hb with e | e
    · rw [e]
      exact Nat.lt_succ_self _
    · rw [List.mem_singleton.mp e]
      obtain ⟨o, es, ho, _⟩ := hat
      exact Nat.lt_succ_of_lt (Heap.lt_size ho)
  · obtain ⟨t, ev⟩ := hval _ v hP
    subst ev
    obtain ⟨h1, h2⟩ := argBest_lt (fun i => ks.getD i 0) (vs.length - 1)
    have I2 : Inv X pins σ H { s with heap := g, toks := tk } := I.kept fun b u e => hk b u (fun z => Nat.lt_irrefl _ (by rw [List.mem_singleton.mp z] at e; exact Heap.lt_size e)) (Heap.get?_push_of_some _ e)
    refine ⟨.int _, H, I2, ⟨_, rfl⟩, q _ ?_ fun y hy => ?_⟩
    · rw [List.getD_eq_getElem?_getD, List.getElem?_eq_getElem (by omega)]
      exact List.getElem_mem _
    · obtain ⟨j, hj, e⟩ := List.mem_iff_getElem.mp hy
      have := h2 j (by omega)
      rw [← e]
      rw [show ks.getD j 0 = ks[j] by rw [List.getD_eq_getElem?_getD, List.getElem?_eq_getElem hj]; rfl] at this
      exact this

/-! ### d == {} -/
def rEqE : R2 := fun x y H Q => ∃ a b ks, x = .ref a ∧ y = .ref b ∧ H a = some (.dK ks) ∧ H b = some (.dK []) ∧ Q (.bl (decide (ks = []))) H
theorem op_eqE (hu : X.A.units < cLine) : OpR X (compareOp .Eq) rEqE := by
  intro pins s σ H x y v u Q I rx ry h
  obtain ⟨a, b, ks, ex, ey, ea, eb, q⟩ := h
  subst ex ey
  obtain rfl : v = Value.ref a := rx
  obtain rfl : u = Value.ref b := ry
  obtain ⟨_, ya, va, ra, da⟩ := dk_of I.hok ea
  obtain ⟨_, yb, vb, rb, db⟩ := dk_of I.hok eb
  have lb : vb.length = 0 := rb.length.symm
  have la : ks.length = va.length := ra.length
  refine PySem.W.keq_eq (knd := mixKind X.prog X.w) (r := true) ya yb da db hu (fun e => ?_) (fin_bl I q ?_)
  · have e0 : va = [] := List.length_eq_zero_iff.mp (by omega)
    subst e0
    exact .nil
  · rw [lb, Bool.and_true]
    cases ks with
    | nil =>
      rw [← la]
      rfl
    | cons p r =>
      rw [← la]
      rfl
/-! ### o.f among the targets -/
theorem pg_put {o : Expr} {f : Str} {ns : List Str} {i : Nat} {C : Addr} {ta : TE} {pos : Pos} (F : FF X.K C ns f i) (ho : PE X o ta) : PG X (.Attribute o f pos) (gPut C ns i ta) := by
  refine ⟨fun pins s σ H v u Q I r h => ?_⟩
  rw [assign_Attribute]
  refine wpAny_bind (wpAny_holding (thn (ho.run pins s σ H _ I h) fun ov s1 ⟨x, H1, I1, rx, a, dx, vs, ex, ea, l, q⟩ => ?_))
  subst ex
  obtain rfl : ov = Value.ref a := rx
  refine wpAny_bind (wpAny_standAt (wpAny_bind (wpAny_holding (setattr_ok I1 ea F.cl F.na (zip_len F.ln) r fun s2 I2 => wpAny_release ⟨σ, _, I2, ?_⟩))))
  rw [zip_set F.nd F.ix l]
  exact q
end
end Rc

set_option Elab.async false
set_option linter.all false
set_option maxRecDepth 100000
set_option maxHeartbeats 4000000
/-! loops and comprehensions over any iterator of the layer; enumerate -/
namespace Rc
open PySem PySem.Spec PyProof.Rows L2
section
variable {J : It} {n : Nat} {g : TG} {tb : TS} {D : Ends} {σ : L2.St} {H : Hp}
def ForW (J : It) (g : TG) (tb : TS) (D : Ends) (σ : L2.St) (H : Hp) : Prop := ∃ W : Nat → Nat → L2.St → Hp → Prop, (∃ m, W 0 m σ H) ∧ ∀ i m σ H, W i m σ H →
  (J.stop i H ∧ D.nx σ H) ∨ (J.go i H ∧ ∃ N : L2.St → Hp → Prop, (∀ σ' H', N σ' H' → ∃ m', m' < m ∧ W (i + 1) m' σ' H') ∧ ∀ x H', J.yld i H x H' → g x σ H' fun σ2 H2 => tb { D with nx := N, ct := N, bk := D.nx } σ2 H2)
theorem for_any (Pv : Nat → L2.St → Hp → Prop) (h0 : Pv 0 σ H) (hgo : ∀ i σ H, i < n → Pv i σ H → J.go i H) (hst : ∀ σ H, Pv n σ H → J.stop n H)
    (hs : ∀ i σ H x H', i < n → Pv i σ H → J.yld i H x H' → g x σ H' fun σ2 H2 => tb { D with nx := Pv (i + 1), ct := Pv (i + 1), bk := D.nx } σ2 H2) (hd : ∀ σ H, Pv n σ H → D.nx σ H) : ForW J g tb D σ H := by
  refine ⟨fun i m σ H => m = n - i ∧ i ≤ n ∧ Pv i σ H, ⟨n, rfl, Nat.zero_le _, h0⟩, ?_⟩
  rintro i m σ H ⟨em, hi, p⟩
  by_cases hlt : i < n
  · exact .inr ⟨hgo i σ H hlt p, Pv (i + 1), fun σ' H' p' => ⟨n - (i + 1), by omega, rfl, hlt, p'⟩, fun x H' y => hs i σ H x H' hlt p y⟩
  · have e : i = n := by omega
    subst e
    exact .inl ⟨hst σ H p, hd σ H p⟩
/-- enumerate over a list at a that stays xs -/
theorem for_en {K : PySem.W.Frag} {a : Addr} {xs : List V} (Pv : Nat → L2.St → Hp → Prop) (h0 : Pv 0 σ H) (hl : ∀ i σ H, i ≤ xs.length → Pv i σ H → SqL K H a xs)
    (hs : ∀ i x σ H T, xs[i]? = some x → Pv i σ H → H T = none → g (.ref T) σ (upd H T (.tup [.int (i : Nat), x])) fun σ2 H2 => tb { D with nx := Pv (i + 1), ct := Pv (i + 1), bk := D.nx } σ2 H2)
    (hd : ∀ σ H, Pv xs.length σ H → D.nx σ H) : ForW (Ite K a) g tb D σ H :=
  for_any (n := xs.length) Pv h0 (fun i σ H hi p => ⟨xs, xs[i], hl i σ H (Nat.le_of_lt hi) p, List.getElem?_eq_getElem hi⟩) (fun σ H p => ⟨xs, hl _ σ H (Nat.le_refl _) p, Nat.le_refl _⟩)
    (fun i σ H x H' hi p ⟨T, y, ex, hT, eH, hy⟩ => by
      subst ex eH
      exact hs i y σ H T (hy xs (hl i σ H (Nat.le_of_lt hi) p)) p hT) hd
/-- enumerate over a tuple at a -/
theorem for_et {K : PySem.W.Frag} {a : Addr} {xs : List V} (Pv : Nat → L2.St → Hp → Prop) (h0 : Pv 0 σ H) (hl : ∀ i σ H, i ≤ xs.length → Pv i σ H → SqT K H a xs)
    (hs : ∀ i x σ H T, xs[i]? = some x → Pv i σ H → H T = none → g (.ref T) σ (upd H T (.tup [.int (i : Nat), x])) fun σ2 H2 => tb { D with nx := Pv (i + 1), ct := Pv (i + 1), bk := D.nx } σ2 H2)
    (hd : ∀ σ H, Pv xs.length σ H → D.nx σ H) : ForW (Iet K a) g tb D σ H :=
  for_any (n := xs.length) Pv h0 (fun i σ H hi p => ⟨xs, xs[i], hl i σ H (Nat.le_of_lt hi) p, List.getElem?_eq_getElem hi⟩) (fun σ H p => ⟨xs, hl _ σ H (Nat.le_refl _) p, Nat.le_refl _⟩)
    (fun i σ H x H' hi p ⟨T, y, ex, hT, eH, hy⟩ => by
      subst ex eH
      exact hs i y σ H T (hy xs (hl i σ H (Nat.le_of_lt hi) p)) p hT) hd
end
section
variable {J : It} {n : Nat} {g : TG} {tt : TT} {te : TE} {vs : List Nat} {σ : L2.St} {H1 : Hp} {D : Addr} {Qd : Hp → Prop}
def LcW (J : It) (g : TG) (tt : TT) (te : TE) (vs : List Nat) (σ : L2.St) (H1 : Hp) (D : Addr) (Qd : Hp → Prop) : Prop := ∃ W : Nat → Nat → Hp → Prop, (∃ m, W 0 m (upd H1 D (.lst []))) ∧ ∀ i m H, W i m H →
  (J.stop i H ∧ Qd H) ∨ (J.go i H ∧ ∃ Nx : Hp → Prop, (∀ H', Nx H' → ∃ m', m' < m ∧ W (i + 1) m' H') ∧ ∀ x H', J.yld i H x H' → g x (wipe σ vs) H' fun σ2 H2 => wipe σ2 vs = wipe σ vs ∧ tt σ2 H2 fun b H3 =>
    if b = true then te σ2 H3 fun y H4 => ∃ acc, H4 D = some (.lst acc) ∧ acc.length < sizeLine ∧ Nx (upd H4 D (.lst (acc ++ [y]))) else Nx H3)
theorem lc_any (Pv : Nat → Hp → Prop) (h0 : Pv 0 (upd H1 D (.lst []))) (hgo : ∀ i H, i < n → Pv i H → J.go i H) (hst : ∀ H, Pv n H → J.stop n H)
    (hs : ∀ i H x H', i < n → Pv i H → J.yld i H x H' → g x (wipe σ vs) H' fun σ2 H2 => wipe σ2 vs = wipe σ vs ∧ tt σ2 H2 fun b H3 =>
      if b = true then te σ2 H3 fun y H4 => ∃ acc, H4 D = some (.lst acc) ∧ acc.length < sizeLine ∧ Pv (i + 1) (upd H4 D (.lst (acc ++ [y]))) else Pv (i + 1) H3) (hd : ∀ H, Pv n H → Qd H) : LcW J g tt te vs σ H1 D Qd := by
  refine ⟨fun i m H => m = n - i ∧ i ≤ n ∧ Pv i H, ⟨n, rfl, Nat.zero_le _, h0⟩, ?_⟩
  rintro i m H ⟨em, hi, p⟩
  by_cases hlt : i < n
  · exact .inr ⟨hgo i H hlt p, Pv (i + 1), fun H' p' => ⟨n - (i + 1), by omega, rfl, hlt, p'⟩, fun x H' y => hs i H x H' hlt p y⟩
  · have e : i = n := by omega
    subst e
    exact .inl ⟨hst H p, hd H p⟩
theorem lc_en {K : PySem.W.Frag} {a : Addr} {xs : List V} (Pv : Nat → Hp → Prop) (h0 : Pv 0 (upd H1 D (.lst []))) (hl : ∀ i H, i ≤ xs.length → Pv i H → SqL K H a xs)
    (hs : ∀ i x H T, xs[i]? = some x → Pv i H → H T = none → g (.ref T) (wipe σ vs) (upd H T (.tup [.int (i : Nat), x])) fun σ2 H2 => wipe σ2 vs = wipe σ vs ∧ tt σ2 H2 fun b H3 =>
      if b = true then te σ2 H3 fun y H4 => ∃ acc, H4 D = some (.lst acc) ∧ acc.length < sizeLine ∧ Pv (i + 1) (upd H4 D (.lst (acc ++ [y]))) else Pv (i + 1) H3) (hd : ∀ H, Pv xs.length H → Qd H) : LcW (Ite K a) g tt te vs σ H1 D Qd :=
  lc_any (n := xs.length) Pv h0 (fun i H hi p => ⟨xs, xs[i], hl i H (Nat.le_of_lt hi) p, List.getElem?_eq_getElem hi⟩) (fun H p => ⟨xs, hl _ H (Nat.le_refl _) p, Nat.le_refl _⟩)
    (fun i H x H' hi p ⟨T, y, ex, hT, eH, hy⟩ => by
      subst ex eH
      exact hs i y H T (hy xs (hl i H (Nat.le_of_lt hi) p)) p hT) hd
theorem lc_et {K : PySem.W.Frag} {a : Addr} {xs : List V} (Pv : Nat → Hp → Prop) (h0 : Pv 0 (upd H1 D (.lst []))) (hl : ∀ i H, i ≤ xs.length → Pv i H → SqT K H a xs)
    (hs : ∀ i x H T, xs[i]? = some x → Pv i H → H T = none → g (.ref T) (wipe σ vs) (upd H T (.tup [.int (i : Nat), x])) fun σ2 H2 => wipe σ2 vs = wipe σ vs ∧ tt σ2 H2 fun b H3 =>
      if b = true then te σ2 H3 fun y H4 => ∃ acc, H4 D = some (.lst acc) ∧ acc.length < sizeLine ∧ Pv (i + 1) (upd H4 D (.lst (acc ++ [y]))) else Pv (i + 1) H3) (hd : ∀ H, Pv xs.length H → Qd H) : LcW (Iet K a) g tt te vs σ H1 D Qd :=
  lc_any (n := xs.length) Pv h0 (fun i H hi p => ⟨xs, xs[i], hl i H (Nat.le_of_lt hi) p, List.getElem?_eq_getElem hi⟩) (fun H p => ⟨xs, hl _ H (Nat.le_refl _) p, Nat.le_refl _⟩)
    (fun i H x H' hi p ⟨T, y, ex, hT, eH, hy⟩ => by
      subst ex eH
      exact hs i y H T (hy xs (hl i H (Nat.le_of_lt hi) p)) p hT) hd
end
/-- the heap of a comprehension: what was there, and its list -/
structure CmW (H : Hp) (D : Addr) (acc : List V) (H' : Hp) : Prop where
  sm : Same H H'
  at_ : H' D = some (.lst acc)
theorem CmW.start {H : Hp} {D : Addr} (n : H D = none) : CmW H D [] (upd H D (.lst [])) := ⟨same_new n, upd_same⟩
theorem CmW.push {H H' : Hp} {D : Addr} {acc : List V} (c : CmW H D acc H') (n : H D = none) (x : V) : CmW H D (acc ++ [x]) (upd H' D (.lst (acc ++ [x]))) :=
  ⟨fun b o e => by rw [upd_ne (ne_of_none e n)]; exact c.sm b o e, upd_same⟩
theorem CmW.same {H H' H2 : Hp} {D : Addr} {acc : List V} (c : CmW H D acc H') (s : Same H' H2) : CmW H D acc H2 := ⟨c.sm.trans s, s _ _ c.at_⟩
end Rc

set_option Elab.async false
set_option linter.all false
set_option maxRecDepth 100000
set_option maxHeartbeats 4000000
/-! the rules whose reading names the written part K, with K given (within a comprehension's block X.K is not yet K to the sign) -/
namespace Rc
open PySem PySem.Spec PyProof.Rows L2
section
variable {X : Cx} {e o a b : Expr} {es : List Expr} {pos p tpos : Pos} {ta tb te tl : TE} {tr : TA} (K : PySem.W.Frag)
theorem pe_ixdK (ha : PE X a ta) (hb : PE X b tb) (hs : PlainIx b := by exact fun _ _ => rfl) (hK : X.K = K := by rfl) : PE X (.Subscript a b pos) (tIxD K ta tb) := by subst hK; exact pe_ixd ha hb hs
theorem pe_tupdK {x1} (h : PA X es tr) (hK : X.K = K := by rfl) : PE X (.Tuple es x1 pos) (tTupD K tr) := by subst hK; exact pe_tupd h
theorem op_catdK (hK : X.K = K := by rfl) : OpR X (binaryOp .Add) (rCatD K) := by subst hK; exact op_catd
theorem sl_dK (hK : X.K = K := by rfl) : SlR X (rSlD K) := by subst hK; exact sl_d
theorem ix_listK (hK : X.K = K := by rfl) : IxR X (rIxL K) := by subst hK; exact ix_list
theorem ix_tupK (hK : X.K = K := by rfl) : IxR X (rIxT K) := by subst hK; exact ix_tup
theorem sl_listK (hK : X.K = K := by rfl) : SlR X (rSlL K) := by subst hK; exact sl_list
theorem call_isiK' (hK : X.K = K := by rfl) : CallR X (.builtin "isinstance") (rIsi K) := by subst hK; exact call_isi
theorem call_isiTK (hK : X.K = K := by rfl) : CallR X (.builtin "isinstance") (rIsiT K) := by subst hK; exact call_isiT
theorem cr_sumK (hc : X.calm = true) (hK : X.K = K := by rfl) : CallR X (.builtin "sum") (rSum K) := by subst hK; exact cr_sum hc
theorem cr_anyK (hc : X.calm = true) (hK : X.K = K := by rfl) : CallR X (.builtin "any") (rAny K) := by subst hK; exact cr_any hc
theorem cr_allK (hc : X.calm = true) (hK : X.K = K := by rfl) : CallR X (.builtin "all") (rAll K) := by subst hK; exact cr_all hc
theorem op_in_seqK (hK : X.K = K := by rfl) : OpR X (compareOp .In) (rIn K false) := by subst hK; exact op_in_seq
theorem op_notIn_seqK (hK : X.K = K := by rfl) : OpR X (compareOp .NotIn) (rIn K true) := by subst hK; exact op_notIn_seq
def rLenQ (K : PySem.W.Frag) : List V → Hp → VK → Prop := fun xs H Q => ∃ p ys, xs = [V.ref p] ∧ (SqL K H p ys ∨ SqT K H p ys) ∧ Q (.int ys.length) H
theorem call_len_seqK (hK : X.K = K := by rfl) : CallR X (.builtin "len") (rLenQ K) := by subst hK; exact call_len_seq
def rListOf (K : PySem.W.Frag) : List V → Hp → VK → Prop := fun xs H Q => ∃ p ys, xs = [V.ref p] ∧ (SqL K H p ys ∨ SqT K H p ys) ∧ ∀ l, H l = none → Q (.ref l) (upd H l (.lst ys))
theorem call_list_ofK (hK : X.K = K := by rfl) : CallR X (.type "list") (rListOf K) := by subst hK; exact call_list_of
def rTupOf (K : PySem.W.Frag) : List V → Hp → VK → Prop := fun xs H Q => ∃ p ys, xs = [V.ref p] ∧ ((SqL K H p ys ∧ ∀ l, H l = none → Q (.ref l) (upd H l (.tup ys))) ∨ (SqT K H p ys ∧ Q (.ref p) H))
theorem call_tuple_ofK (hK : X.K = K := by rfl) : CallR X (.type "tuple") (rTupOf K) := by subst hK; exact call_tuple_of
theorem op_eqDK (hu : X.A.units + 64 < cLine) (hK : X.K = K := by rfl) : OpR X (compareOp .Eq) (rEqD K) := by subst hK; exact op_eqD hu
theorem op_neDK (hu : X.A.units + 64 < cLine) (hK : X.K = K := by rfl) : OpR X (compareOp .NotEq) (rNeD K) := by subst hK; exact op_neD hu
theorem pg_tupK {k : Nat} {t : TGs} {n : Nat} (hc : X.calm = true) (h : PGs X es t) (hn : (assignEach es X.env).length = n := by rfl) (hst : (assignEach es X.env).findIdx? (·.1) = none := by rfl) (hK : X.K = K := by rfl) : PG X (.Tuple es k pos) (gTup K n t) := by
  subst hK; exact pg_tup hc h hn hst
theorem pi_listK {tg : Expr} (hl : PE X e tl) (hK : X.K = K := by rfl) : PI X tg e (iList K tl) := by subst hK; exact pi_list hl
theorem pi_tupK {tg : Expr} (hl : PE X e tl) (hK : X.K = K := by rfl) : PI X tg e (iTup K tl) := by subst hK; exact pi_tup hl
theorem pi_enumK {kk : Nat} (hg : Gl X "enumerate") (hm : X.mg "enumerate" = none) (ha : PA X [e] tr) (hs : starEach [e] X.env = [(false, eval e X.env)] := by rfl) (hK : X.K = K := by rfl) :
    PI X (.Tuple es kk tpos) (.Call (.Name "enumerate" p) [e] [] pos) (iEnum K tr) := by subst hK; exact pi_enum hg hm ha hs
theorem pi_enumTK {kk : Nat} (hg : Gl X "enumerate") (hm : X.mg "enumerate" = none) (ha : PA X [e] tr) (hs : starEach [e] X.env = [(false, eval e X.env)] := by rfl) (hK : X.K = K := by rfl) :
    PI X (.Tuple es kk tpos) (.Call (.Name "enumerate" p) [e] [] pos) (iEnumT K tr) := by subst hK; exact pi_enumT hg hm ha hs
theorem cr_sortedIK (hK : X.K = K := by rfl) : CallR X (.builtin "sorted") (rSortedI K) := by subst hK; exact cr_sortedI
theorem cr_sortedTK (hu : X.A.units + 64 < cLine) (hK : X.K = K := by rfl) : CallR X (.builtin "sorted") (rSortT K) := by subst hK; exact cr_sortedT hu
theorem pa_starK (he : PE X e te) (hr : PA X es tr) (hs : starEach (.Starred e p :: es) X.env = (true, eval e X.env) :: starEach es X.env := by rfl) (hK : X.K = K := by rfl) : PA X (.Starred e p :: es) (StX.tStar K te tr) := by
  subst hK; exact StX.pa_star he hr hs
end
end Rc

set_option Elab.async false
set_option linter.all false
set_option maxRecDepth 100000
set_option maxHeartbeats 2000000
namespace Rc
open PySem PySem.Spec PyProof.Rows L2 He
/-- what the walks take from the head -/
structure Tx (K : PySem.W.Frag) (mg : Str → Option Value) : Prop where
  fact : ∀ (i : Nat) (f : He.Fa), fa[i]? = some f → f.ok K = true
  dfn : ∀ (i : Nat) (d : He.DefD), fn[i]? = some d → ∃ fd, FunD K d.name d.qual d.params d.body d.scope (d.dvs K) (d.kws K) (fAd K d.at_) fd
  ns : ∃ h : Heap, K.In h ∧ h.Ns mainGlobals mg
  unu : He.tupB K "UNUSED_table" [.str "unused"] = true
  dea : He.tupB K "DEAD_table" [.str "dead"] = true
  rdD : PySem.W.readsIn K (ga K "Deals") (.type "type") = true ∧ PySem.W.specialIn K (.ref (ga K "Deals")) "__getattribute__" = some (some (.builtin "type.__getattribute__")) ∧ PySem.W.findCls K (.ref (ga K "Deals")) (.type "type") "__init__" = some (.val (.ref (fAd K ("Deals", some "__init__"))))
  rdC : PySem.W.readsIn K (ga K "Cursor") (.type "type") = true ∧ PySem.W.specialIn K (.ref (ga K "Cursor")) "__getattribute__" = some (some (.builtin "type.__getattribute__")) ∧ PySem.W.findCls K (.ref (ga K "Cursor")) (.type "type") "__init__" = some (.val (.ref (fAd K ("Cursor", some "__init__"))))
namespace Tx
variable {K : PySem.W.Frag} {mg : Str → Option Value}
theorem glo (T : Tx K mg) {x : Str} (c : (He.Fa.glo x).ok K = true) : mg x = some (.ref (ga K x)) := let ⟨_, X, G⟩ := T.ns; He.glo_ok X G c
theorem free (T : Tx K mg) {x : Str} (c : (He.Fa.free x).ok K = true) : mg x = none := let ⟨_, X, G⟩ := T.ns; He.free_ok X G c
theorem int (T : Tx K mg) {x : Str} {i : Int} (c : (He.Fa.int x i).ok K = true) : ∃ t, mg x = some (.int i t) := let ⟨_, X, G⟩ := T.ns; He.int_ok X G c
theorem str (T : Tx K mg) {x z : Str} (c : (He.Fa.str x z).ok K = true) : ∃ t, mg x = some (.str z t) := let ⟨_, X, G⟩ := T.ns; He.str_ok X G c
theorem cl_Deal (T : Tx K mg) : Cls K (ga K "Deal") := cls_ok (T.fact 0 _ rfl)
theorem cl_Ledger (T : Tx K mg) : Cls K (ga K "Ledger") := cls_ok (T.fact 1 _ rfl)
theorem cl_Table (T : Tx K mg) : Cls K (ga K "Table") := cls_ok (T.fact 2 _ rfl)
theorem cl_Base (T : Tx K mg) : Cls K (ga K "Base") := cls_ok (T.fact 3 _ rfl)
theorem cl_Vacuum (T : Tx K mg) : Cls K (ga K "Vacuum") := cls_ok (T.fact 4 _ rfl)
theorem cl_HeapCursor (T : Tx K mg) : Cls K (ga K "HeapCursor") := cls_ok (T.fact 5 _ rfl)
theorem na_Deal_own_parts (T : Tx K mg) : NoAttr K (ga K "Deal") "own_parts" := noat_ok (T.fact 6 _ rfl)
theorem na_Deal_own_level (T : Tx K mg) : NoAttr K (ga K "Deal") "own_level" := noat_ok (T.fact 7 _ rfl)
theorem na_Deal_own_commands (T : Tx K mg) : NoAttr K (ga K "Deal") "own_commands" := noat_ok (T.fact 8 _ rfl)
theorem na_Ledger_own_deals (T : Tx K mg) : NoAttr K (ga K "Ledger") "own_deals" := noat_ok (T.fact 9 _ rfl)
theorem na_Ledger_own_owners (T : Tx K mg) : NoAttr K (ga K "Ledger") "own_owners" := noat_ok (T.fact 10 _ rfl)
theorem na_Ledger_own_states (T : Tx K mg) : NoAttr K (ga K "Ledger") "own_states" := noat_ok (T.fact 11 _ rfl)
theorem na_Table_own_pages (T : Tx K mg) : NoAttr K (ga K "Table") "own_pages" := noat_ok (T.fact 12 _ rfl)
theorem na_Table_own_marks (T : Tx K mg) : NoAttr K (ga K "Table") "own_marks" := noat_ok (T.fact 13 _ rfl)
theorem na_Base_own_columns (T : Tx K mg) : NoAttr K (ga K "Base") "own_columns" := noat_ok (T.fact 14 _ rfl)
theorem na_Base_own_ledger (T : Tx K mg) : NoAttr K (ga K "Base") "own_ledger" := noat_ok (T.fact 15 _ rfl)
theorem na_Base_own_table (T : Tx K mg) : NoAttr K (ga K "Base") "own_table" := noat_ok (T.fact 16 _ rfl)
theorem na_Base_own_indexes (T : Tx K mg) : NoAttr K (ga K "Base") "own_indexes" := noat_ok (T.fact 17 _ rfl)
theorem na_Base_own_cursors (T : Tx K mg) : NoAttr K (ga K "Base") "own_cursors" := noat_ok (T.fact 18 _ rfl)
theorem na_Base_own_opened (T : Tx K mg) : NoAttr K (ga K "Base") "own_opened" := noat_ok (T.fact 19 _ rfl)
theorem na_Base_own_firsts (T : Tx K mg) : NoAttr K (ga K "Base") "own_firsts" := noat_ok (T.fact 20 _ rfl)
theorem na_Base_own_writers (T : Tx K mg) : NoAttr K (ga K "Base") "own_writers" := noat_ok (T.fact 21 _ rfl)
theorem na_Base_own_vacuum (T : Tx K mg) : NoAttr K (ga K "Base") "own_vacuum" := noat_ok (T.fact 22 _ rfl)
theorem na_Vacuum_own_many (T : Tx K mg) : NoAttr K (ga K "Vacuum") "own_many" := noat_ok (T.fact 23 _ rfl)
theorem na_Vacuum_own_memory (T : Tx K mg) : NoAttr K (ga K "Vacuum") "own_memory" := noat_ok (T.fact 24 _ rfl)
theorem na_Vacuum_own_page (T : Tx K mg) : NoAttr K (ga K "Vacuum") "own_page" := noat_ok (T.fact 25 _ rfl)
theorem na_Vacuum_own_noted (T : Tx K mg) : NoAttr K (ga K "Vacuum") "own_noted" := noat_ok (T.fact 26 _ rfl)
theorem na_Vacuum_own_cleaned (T : Tx K mg) : NoAttr K (ga K "Vacuum") "own_cleaned" := noat_ok (T.fact 27 _ rfl)
theorem na_Vacuum_own_stage (T : Tx K mg) : NoAttr K (ga K "Vacuum") "own_stage" := noat_ok (T.fact 28 _ rfl)
theorem na_HeapCursor_own_owner (T : Tx K mg) : NoAttr K (ga K "HeapCursor") "own_owner" := noat_ok (T.fact 29 _ rfl)
theorem na_HeapCursor_own_part (T : Tx K mg) : NoAttr K (ga K "HeapCursor") "own_part" := noat_ok (T.fact 30 _ rfl)
theorem na_HeapCursor_own_snapshot (T : Tx K mg) : NoAttr K (ga K "HeapCursor") "own_snapshot" := noat_ok (T.fact 31 _ rfl)
theorem na_HeapCursor_own_told (T : Tx K mg) : NoAttr K (ga K "HeapCursor") "own_told" := noat_ok (T.fact 32 _ rfl)
theorem na_HeapCursor_own_many (T : Tx K mg) : NoAttr K (ga K "HeapCursor") "own_many" := noat_ok (T.fact 33 _ rfl)
theorem na_HeapCursor_own_page (T : Tx K mg) : NoAttr K (ga K "HeapCursor") "own_page" := noat_ok (T.fact 34 _ rfl)
theorem na_HeapCursor_own_noted (T : Tx K mg) : NoAttr K (ga K "HeapCursor") "own_noted" := noat_ok (T.fact 35 _ rfl)
theorem me_Deal_init (T : Tx K mg) : Meth K (ga K "Deal") "__init__" (fAd K ("Deal", some "__init__")) := meth_ok (T.fact 36 _ rfl)
theorem me_Ledger_init (T : Tx K mg) : Meth K (ga K "Ledger") "__init__" (fAd K ("Ledger", some "__init__")) := meth_ok (T.fact 37 _ rfl)
theorem me_Ledger_following (T : Tx K mg) : Meth K (ga K "Ledger") "following" (fAd K ("Ledger", some "following")) := meth_ok (T.fact 38 _ rfl)
theorem me_Ledger_take_number (T : Tx K mg) : Meth K (ga K "Ledger") "take_number" (fAd K ("Ledger", some "take_number")) := meth_ok (T.fact 39 _ rfl)
theorem me_Ledger_owner_of (T : Tx K mg) : Meth K (ga K "Ledger") "owner_of" (fAd K ("Ledger", some "owner_of")) := meth_ok (T.fact 40 _ rfl)
theorem me_Ledger_look_running (T : Tx K mg) : Meth K (ga K "Ledger") "look_running" (fAd K ("Ledger", some "look_running")) := meth_ok (T.fact 41 _ rfl)
theorem me_Ledger_begin (T : Tx K mg) : Meth K (ga K "Ledger") "begin" (fAd K ("Ledger", some "begin")) := meth_ok (T.fact 42 _ rfl)
theorem me_Ledger_save (T : Tx K mg) : Meth K (ga K "Ledger") "save" (fAd K ("Ledger", some "save")) := meth_ok (T.fact 43 _ rfl)
theorem me_Ledger_undo (T : Tx K mg) : Meth K (ga K "Ledger") "undo" (fAd K ("Ledger", some "undo")) := meth_ok (T.fact 44 _ rfl)
theorem me_Ledger_running_parts (T : Tx K mg) : Meth K (ga K "Ledger") "running_parts" (fAd K ("Ledger", some "running_parts")) := meth_ok (T.fact 45 _ rfl)
theorem me_Ledger_enter (T : Tx K mg) : Meth K (ga K "Ledger") "enter" (fAd K ("Ledger", some "enter")) := meth_ok (T.fact 46 _ rfl)
theorem me_Ledger_finish (T : Tx K mg) : Meth K (ga K "Ledger") "finish" (fAd K ("Ledger", some "finish")) := meth_ok (T.fact 47 _ rfl)
theorem me_Ledger_state (T : Tx K mg) : Meth K (ga K "Ledger") "state" (fAd K ("Ledger", some "state")) := meth_ok (T.fact 48 _ rfl)
theorem me_Ledger_with_state (T : Tx K mg) : Meth K (ga K "Ledger") "with_state" (fAd K ("Ledger", some "with_state")) := meth_ok (T.fact 49 _ rfl)
theorem me_Ledger_undone (T : Tx K mg) : Meth K (ga K "Ledger") "undone" (fAd K ("Ledger", some "undone")) := meth_ok (T.fact 50 _ rfl)
theorem me_Ledger_committed (T : Tx K mg) : Meth K (ga K "Ledger") "committed" (fAd K ("Ledger", some "committed")) := meth_ok (T.fact 51 _ rfl)
theorem me_Ledger_running (T : Tx K mg) : Meth K (ga K "Ledger") "running" (fAd K ("Ledger", some "running")) := meth_ok (T.fact 52 _ rfl)
theorem me_Ledger_running_beside (T : Tx K mg) : Meth K (ga K "Ledger") "running_beside" (fAd K ("Ledger", some "running_beside")) := meth_ok (T.fact 53 _ rfl)
theorem me_Ledger_parts (T : Tx K mg) : Meth K (ga K "Ledger") "parts" (fAd K ("Ledger", some "parts")) := meth_ok (T.fact 54 _ rfl)
theorem me_Ledger_working (T : Tx K mg) : Meth K (ga K "Ledger") "working" (fAd K ("Ledger", some "working")) := meth_ok (T.fact 55 _ rfl)
theorem me_Ledger_level (T : Tx K mg) : Meth K (ga K "Ledger") "level" (fAd K ("Ledger", some "level")) := meth_ok (T.fact 56 _ rfl)
theorem me_Ledger_command (T : Tx K mg) : Meth K (ga K "Ledger") "command" (fAd K ("Ledger", some "command")) := meth_ok (T.fact 57 _ rfl)
theorem me_Ledger_stepped (T : Tx K mg) : Meth K (ga K "Ledger") "stepped" (fAd K ("Ledger", some "stepped")) := meth_ok (T.fact 58 _ rfl)
theorem me_Ledger_snapshot_now (T : Tx K mg) : Meth K (ga K "Ledger") "snapshot_now" (fAd K ("Ledger", some "snapshot_now")) := meth_ok (T.fact 59 _ rfl)
theorem me_Table_init (T : Tx K mg) : Meth K (ga K "Table") "__init__" (fAd K ("Table", some "__init__")) := meth_ok (T.fact 60 _ rfl)
theorem me_Table_pages (T : Tx K mg) : Meth K (ga K "Table") "pages" (fAd K ("Table", some "pages")) := meth_ok (T.fact 61 _ rfl)
theorem me_Table_many (T : Tx K mg) : Meth K (ga K "Table") "many" (fAd K ("Table", some "many")) := meth_ok (T.fact 62 _ rfl)
theorem me_Table_page (T : Tx K mg) : Meth K (ga K "Table") "page" (fAd K ("Table", some "page")) := meth_ok (T.fact 63 _ rfl)
theorem me_Table_slot (T : Tx K mg) : Meth K (ga K "Table") "slot" (fAd K ("Table", some "slot")) := meth_ok (T.fact 64 _ rfl)
theorem me_Table_marked (T : Tx K mg) : Meth K (ga K "Table") "marked" (fAd K ("Table", some "marked")) := meth_ok (T.fact 65 _ rfl)
theorem me_Table_dead_slots (T : Tx K mg) : Meth K (ga K "Table") "dead_slots" (fAd K ("Table", some "dead_slots")) := meth_ok (T.fact 66 _ rfl)
theorem me_Table_keep (T : Tx K mg) : Meth K (ga K "Table") "keep" (fAd K ("Table", some "keep")) := meth_ok (T.fact 67 _ rfl)
theorem me_Table_end (T : Tx K mg) : Meth K (ga K "Table") "end" (fAd K ("Table", some "end")) := meth_ok (T.fact 68 _ rfl)
theorem me_Table_look (T : Tx K mg) : Meth K (ga K "Table") "look" (fAd K ("Table", some "look")) := meth_ok (T.fact 69 _ rfl)
theorem me_Table_prune (T : Tx K mg) : Meth K (ga K "Table") "prune" (fAd K ("Table", some "prune")) := meth_ok (T.fact 70 _ rfl)
theorem me_Table_free (T : Tx K mg) : Meth K (ga K "Table") "free" (fAd K ("Table", some "free")) := meth_ok (T.fact 71 _ rfl)
theorem me_Table_place_for (T : Tx K mg) : Meth K (ga K "Table") "place_for" (fAd K ("Table", some "place_for")) := meth_ok (T.fact 72 _ rfl)
theorem me_Table_placing (T : Tx K mg) : Meth K (ga K "Table") "placing" (fAd K ("Table", some "placing")) := meth_ok (T.fact 73 _ rfl)
theorem me_Table_newest (T : Tx K mg) : Meth K (ga K "Table") "newest" (fAd K ("Table", some "newest")) := meth_ok (T.fact 74 _ rfl)
theorem me_HeapCursor_init (T : Tx K mg) : Meth K (ga K "HeapCursor") "__init__" (fAd K ("HeapCursor", some "__init__")) := meth_ok (T.fact 75 _ rfl)
theorem me_HeapCursor_owner (T : Tx K mg) : Meth K (ga K "HeapCursor") "owner" (fAd K ("HeapCursor", some "owner")) := meth_ok (T.fact 76 _ rfl)
theorem me_HeapCursor_opened_in (T : Tx K mg) : Meth K (ga K "HeapCursor") "opened_in" (fAd K ("HeapCursor", some "opened_in")) := meth_ok (T.fact 77 _ rfl)
theorem me_HeapCursor_snapshot (T : Tx K mg) : Meth K (ga K "HeapCursor") "snapshot" (fAd K ("HeapCursor", some "snapshot")) := meth_ok (T.fact 78 _ rfl)
theorem me_HeapCursor_told (T : Tx K mg) : Meth K (ga K "HeapCursor") "told" (fAd K ("HeapCursor", some "told")) := meth_ok (T.fact 79 _ rfl)
theorem me_HeapCursor_tell (T : Tx K mg) : Meth K (ga K "HeapCursor") "tell" (fAd K ("HeapCursor", some "tell")) := meth_ok (T.fact 80 _ rfl)
theorem me_HeapCursor_note_page (T : Tx K mg) : Meth K (ga K "HeapCursor") "note_page" (fAd K ("HeapCursor", some "note_page")) := meth_ok (T.fact 81 _ rfl)
theorem me_HeapCursor_next (T : Tx K mg) : Meth K (ga K "HeapCursor") "next" (fAd K ("HeapCursor", some "next")) := meth_ok (T.fact 82 _ rfl)
theorem me_Base_init (T : Tx K mg) : Meth K (ga K "Base") "__init__" (fAd K ("Base", some "__init__")) := meth_ok (T.fact 83 _ rfl)
theorem me_Base_close_where (T : Tx K mg) : Meth K (ga K "Base") "close_where" (fAd K ("Base", some "close_where")) := meth_ok (T.fact 84 _ rfl)
theorem me_Base_finish (T : Tx K mg) : Meth K (ga K "Base") "finish" (fAd K ("Base", some "finish")) := meth_ok (T.fact 85 _ rfl)
theorem me_Base_undone (T : Tx K mg) : Meth K (ga K "Base") "undone" (fAd K ("Base", some "undone")) := meth_ok (T.fact 86 _ rfl)
theorem me_Base_kept (T : Tx K mg) : Meth K (ga K "Base") "kept" (fAd K ("Base", some "kept")) := meth_ok (T.fact 87 _ rfl)
theorem me_Base_settled (T : Tx K mg) : Meth K (ga K "Base") "settled" (fAd K ("Base", some "settled")) := meth_ok (T.fact 88 _ rfl)
theorem me_Base_snapshot_for (T : Tx K mg) : Meth K (ga K "Base") "snapshot_for" (fAd K ("Base", some "snapshot_for")) := meth_ok (T.fact 89 _ rfl)
theorem me_Base_cursor_for (T : Tx K mg) : Meth K (ga K "Base") "cursor_for" (fAd K ("Base", some "cursor_for")) := meth_ok (T.fact 90 _ rfl)
theorem me_Base_cursor (T : Tx K mg) : Meth K (ga K "Base") "cursor" (fAd K ("Base", some "cursor")) := meth_ok (T.fact 91 _ rfl)
theorem me_Base_names (T : Tx K mg) : Meth K (ga K "Base") "names" (fAd K ("Base", some "names")) := meth_ok (T.fact 92 _ rfl)
theorem me_Base_begin (T : Tx K mg) : Meth K (ga K "Base") "begin" (fAd K ("Base", some "begin")) := meth_ok (T.fact 93 _ rfl)
theorem me_Base_save (T : Tx K mg) : Meth K (ga K "Base") "save" (fAd K ("Base", some "save")) := meth_ok (T.fact 94 _ rfl)
theorem me_Base_undo (T : Tx K mg) : Meth K (ga K "Base") "undo" (fAd K ("Base", some "undo")) := meth_ok (T.fact 95 _ rfl)
theorem me_Base_commit (T : Tx K mg) : Meth K (ga K "Base") "commit" (fAd K ("Base", some "commit")) := meth_ok (T.fact 96 _ rfl)
theorem me_Base_abort (T : Tx K mg) : Meth K (ga K "Base") "abort" (fAd K ("Base", some "abort")) := meth_ok (T.fact 97 _ rfl)
theorem me_Base_scan (T : Tx K mg) : Meth K (ga K "Base") "scan" (fAd K ("Base", some "scan")) := meth_ok (T.fact 98 _ rfl)
theorem me_Base_close (T : Tx K mg) : Meth K (ga K "Base") "close" (fAd K ("Base", some "close")) := meth_ok (T.fact 99 _ rfl)
theorem me_Base_next (T : Tx K mg) : Meth K (ga K "Base") "next" (fAd K ("Base", some "next")) := meth_ok (T.fact 100 _ rfl)
theorem me_Base_read (T : Tx K mg) : Meth K (ga K "Base") "read" (fAd K ("Base", some "read")) := meth_ok (T.fact 101 _ rfl)
theorem me_Base_writing_names (T : Tx K mg) : Meth K (ga K "Base") "writing_names" (fAd K ("Base", some "writing_names")) := meth_ok (T.fact 102 _ rfl)
theorem me_Base_refusal (T : Tx K mg) : Meth K (ga K "Base") "refusal" (fAd K ("Base", some "refusal")) := meth_ok (T.fact 103 _ rfl)
theorem me_Base_keep_new (T : Tx K mg) : Meth K (ga K "Base") "keep_new" (fAd K ("Base", some "keep_new")) := meth_ok (T.fact 104 _ rfl)
theorem me_Base_wrote (T : Tx K mg) : Meth K (ga K "Base") "wrote" (fAd K ("Base", some "wrote")) := meth_ok (T.fact 105 _ rfl)
theorem me_Base_put (T : Tx K mg) : Meth K (ga K "Base") "put" (fAd K ("Base", some "put")) := meth_ok (T.fact 106 _ rfl)
theorem me_Base_newest (T : Tx K mg) : Meth K (ga K "Base") "newest" (fAd K ("Base", some "newest")) := meth_ok (T.fact 107 _ rfl)
theorem me_Base_remove (T : Tx K mg) : Meth K (ga K "Base") "remove" (fAd K ("Base", some "remove")) := meth_ok (T.fact 108 _ rfl)
theorem me_Base_change (T : Tx K mg) : Meth K (ga K "Base") "change" (fAd K ("Base", some "change")) := meth_ok (T.fact 109 _ rfl)
theorem me_Base_prune (T : Tx K mg) : Meth K (ga K "Base") "prune" (fAd K ("Base", some "prune")) := meth_ok (T.fact 110 _ rfl)
theorem me_Base_dead_slots (T : Tx K mg) : Meth K (ga K "Base") "dead_slots" (fAd K ("Base", some "dead_slots")) := meth_ok (T.fact 111 _ rfl)
theorem me_Base_free (T : Tx K mg) : Meth K (ga K "Base") "free" (fAd K ("Base", some "free")) := meth_ok (T.fact 112 _ rfl)
theorem me_Base_look_held (T : Tx K mg) : Meth K (ga K "Base") "look_held" (fAd K ("Base", some "look_held")) := meth_ok (T.fact 113 _ rfl)
theorem me_Base_vacuum (T : Tx K mg) : Meth K (ga K "Base") "vacuum" (fAd K ("Base", some "vacuum")) := meth_ok (T.fact 114 _ rfl)
theorem me_Base_step (T : Tx K mg) : Meth K (ga K "Base") "step" (fAd K ("Base", some "step")) := meth_ok (T.fact 115 _ rfl)
theorem me_Base_pages (T : Tx K mg) : Meth K (ga K "Base") "pages" (fAd K ("Base", some "pages")) := meth_ok (T.fact 116 _ rfl)
theorem me_Base_marked (T : Tx K mg) : Meth K (ga K "Base") "marked" (fAd K ("Base", some "marked")) := meth_ok (T.fact 117 _ rfl)
theorem me_Base_image (T : Tx K mg) : Meth K (ga K "Base") "image" (fAd K ("Base", some "image")) := meth_ok (T.fact 118 _ rfl)
theorem me_Vacuum_init (T : Tx K mg) : Meth K (ga K "Vacuum") "__init__" (fAd K ("Vacuum", some "__init__")) := meth_ok (T.fact 119 _ rfl)
theorem me_Vacuum_noted (T : Tx K mg) : Meth K (ga K "Vacuum") "noted" (fAd K ("Vacuum", some "noted")) := meth_ok (T.fact 120 _ rfl)
theorem me_Vacuum_prune_next (T : Tx K mg) : Meth K (ga K "Vacuum") "prune_next" (fAd K ("Vacuum", some "prune_next")) := meth_ok (T.fact 121 _ rfl)
theorem me_Vacuum_name_next (T : Tx K mg) : Meth K (ga K "Vacuum") "name_next" (fAd K ("Vacuum", some "name_next")) := meth_ok (T.fact 122 _ rfl)
theorem me_Vacuum_free_next (T : Tx K mg) : Meth K (ga K "Vacuum") "free_next" (fAd K ("Vacuum", some "free_next")) := meth_ok (T.fact 123 _ rfl)
theorem me_Vacuum_step (T : Tx K mg) : Meth K (ga K "Vacuum") "step" (fAd K ("Vacuum", some "step")) := meth_ok (T.fact 124 _ rfl)
theorem k_Deal (T : Tx K mg) : Mk K (ga K "Deal") (fAd K ("Deal", some "__init__")) := mkr_ok (T.fact 125 _ rfl)
theorem k_Ledger (T : Tx K mg) : Mk K (ga K "Ledger") (fAd K ("Ledger", some "__init__")) := mkr_ok (T.fact 126 _ rfl)
theorem k_Table (T : Tx K mg) : Mk K (ga K "Table") (fAd K ("Table", some "__init__")) := mkr_ok (T.fact 127 _ rfl)
theorem k_Base (T : Tx K mg) : Mk K (ga K "Base") (fAd K ("Base", some "__init__")) := mkr_ok (T.fact 128 _ rfl)
theorem k_Vacuum (T : Tx K mg) : Mk K (ga K "Vacuum") (fAd K ("Vacuum", some "__init__")) := mkr_ok (T.fact 129 _ rfl)
theorem k_HeapCursor (T : Tx K mg) : Mk K (ga K "HeapCursor") (fAd K ("HeapCursor", some "__init__")) := mkr_ok (T.fact 130 _ rfl)
theorem g_tupled (T : Tx K mg) : mg "tupled" = some (.ref (ga K "tupled")) := T.glo (T.fact 131 _ rfl)
theorem g_is_number (T : Tx K mg) : mg "is_number" = some (.ref (ga K "is_number")) := T.glo (T.fact 132 _ rfl)
theorem g_size_of (T : Tx K mg) : mg "size_of" = some (.ref (ga K "size_of")) := T.glo (T.fact 133 _ rfl)
theorem g_changed (T : Tx K mg) : mg "changed" = some (.ref (ga K "changed")) := T.glo (T.fact 134 _ rfl)
theorem g_is_version (T : Tx K mg) : mg "is_version" = some (.ref (ga K "is_version")) := T.glo (T.fact 135 _ rfl)
theorem g_is_only (T : Tx K mg) : mg "is_only" = some (.ref (ga K "is_only")) := T.glo (T.fact 136 _ rfl)
theorem g_first_in (T : Tx K mg) : mg "first_in" = some (.ref (ga K "first_in")) := T.glo (T.fact 137 _ rfl)
theorem g_follower (T : Tx K mg) : mg "follower" = some (.ref (ga K "follower")) := T.glo (T.fact 138 _ rfl)
theorem g_chain (T : Tx K mg) : mg "chain" = some (.ref (ga K "chain")) := T.glo (T.fact 139 _ rfl)
theorem g_room (T : Tx K mg) : mg "room" = some (.ref (ga K "room")) := T.glo (T.fact 140 _ rfl)
theorem g_free_slot (T : Tx K mg) : mg "free_slot" = some (.ref (ga K "free_slot")) := T.glo (T.fact 141 _ rfl)
theorem g_fits (T : Tx K mg) : mg "fits" = some (.ref (ga K "fits")) := T.glo (T.fact 142 _ rfl)
theorem g_is_dead (T : Tx K mg) : mg "is_dead" = some (.ref (ga K "is_dead")) := T.glo (T.fact 143 _ rfl)
theorem g_dead_ahead (T : Tx K mg) : mg "dead_ahead" = some (.ref (ga K "dead_ahead")) := T.glo (T.fact 144 _ rfl)
theorem g_pruned (T : Tx K mg) : mg "pruned" = some (.ref (ga K "pruned")) := T.glo (T.fact 145 _ rfl)
theorem g_is_seen_by_all (T : Tx K mg) : mg "is_seen_by_all" = some (.ref (ga K "is_seen_by_all")) := T.glo (T.fact 146 _ rfl)
theorem g_is_clear (T : Tx K mg) : mg "is_clear" = some (.ref (ga K "is_clear")) := T.glo (T.fact 147 _ rfl)
theorem g_counts (T : Tx K mg) : mg "counts" = some (.ref (ga K "counts")) := T.glo (T.fact 148 _ rfl)
theorem g_sees (T : Tx K mg) : mg "sees" = some (.ref (ga K "sees")) := T.glo (T.fact 149 _ rfl)
theorem g_is_past (T : Tx K mg) : mg "is_past" = some (.ref (ga K "is_past")) := T.glo (T.fact 150 _ rfl)
theorem g_settled (T : Tx K mg) : mg "settled" = some (.ref (ga K "settled")) := T.glo (T.fact 151 _ rfl)
theorem g_version_of (T : Tx K mg) : mg "version_of" = some (.ref (ga K "version_of")) := T.glo (T.fact 152 _ rfl)
theorem g_with_slot (T : Tx K mg) : mg "with_slot" = some (.ref (ga K "with_slot")) := T.glo (T.fact 153 _ rfl)
theorem g__law_cells (T : Tx K mg) : mg "_law_cells" = some (.ref (ga K "_law_cells")) := T.glo (T.fact 154 _ rfl)
theorem g__law_box (T : Tx K mg) : mg "_law_box" = some (.ref (ga K "_law_box")) := T.glo (T.fact 155 _ rfl)
theorem g__law_take (T : Tx K mg) : mg "_law_take" = some (.ref (ga K "_law_take")) := T.glo (T.fact 156 _ rfl)
theorem g__law_of (T : Tx K mg) : mg "_law_of" = some (.ref (ga K "_law_of")) := T.glo (T.fact 157 _ rfl)
theorem g__law_same (T : Tx K mg) : mg "_law_same" = some (.ref (ga K "_law_same")) := T.glo (T.fact 158 _ rfl)
theorem g__law_done (T : Tx K mg) : mg "_law_done" = some (.ref (ga K "_law_done")) := T.glo (T.fact 159 _ rfl)
theorem g__law_drawn (T : Tx K mg) : mg "_law_drawn" = some (.ref (ga K "_law_drawn")) := T.glo (T.fact 160 _ rfl)
theorem g__law_session (T : Tx K mg) : mg "_law_session" = some (.ref (ga K "_law_session")) := T.glo (T.fact 161 _ rfl)
theorem g__law_read_now (T : Tx K mg) : mg "_law_read_now" = some (.ref (ga K "_law_read_now")) := T.glo (T.fact 162 _ rfl)
theorem g__law_swept (T : Tx K mg) : mg "_law_swept" = some (.ref (ga K "_law_swept")) := T.glo (T.fact 163 _ rfl)
theorem g__law_right (T : Tx K mg) : mg "_law_right" = some (.ref (ga K "_law_right")) := T.glo (T.fact 164 _ rfl)
theorem g_law (T : Tx K mg) : mg "law" = some (.ref (ga K "law")) := T.glo (T.fact 165 _ rfl)
theorem g_Deal (T : Tx K mg) : mg "Deal" = some (.ref (ga K "Deal")) := T.glo (T.fact 166 _ rfl)
theorem g_Ledger (T : Tx K mg) : mg "Ledger" = some (.ref (ga K "Ledger")) := T.glo (T.fact 167 _ rfl)
theorem g_Table (T : Tx K mg) : mg "Table" = some (.ref (ga K "Table")) := T.glo (T.fact 168 _ rfl)
theorem g_Base (T : Tx K mg) : mg "Base" = some (.ref (ga K "Base")) := T.glo (T.fact 169 _ rfl)
theorem g_Vacuum (T : Tx K mg) : mg "Vacuum" = some (.ref (ga K "Vacuum")) := T.glo (T.fact 170 _ rfl)
theorem g_HeapCursor (T : Tx K mg) : mg "HeapCursor" = some (.ref (ga K "HeapCursor")) := T.glo (T.fact 171 _ rfl)
theorem gx_settled_sight (T : Tx K mg) : mg "settled_sight" = some (.ref (ga K "settled_sight")) := T.glo (T.fact 172 _ rfl)
theorem g_Deals (T : Tx K mg) : mg "Deals" = some (.ref (ga K "Deals")) := T.glo (T.fact 173 _ rfl)
theorem g_Cursor (T : Tx K mg) : mg "Cursor" = some (.ref (ga K "Cursor")) := T.glo (T.fact 174 _ rfl)
theorem g_UNUSED_table (T : Tx K mg) : mg "UNUSED_table" = some (.ref (ga K "UNUSED_table")) := T.glo (T.fact 175 _ rfl)
theorem g_DEAD_table (T : Tx K mg) : mg "DEAD_table" = some (.ref (ga K "DEAD_table")) := T.glo (T.fact 176 _ rfl)
theorem b_len (T : Tx K mg) : mg "len" = none := T.free (T.fact 177 _ rfl)
theorem b_range (T : Tx K mg) : mg "range" = none := T.free (T.fact 178 _ rfl)
theorem b_enumerate (T : Tx K mg) : mg "enumerate" = none := T.free (T.fact 179 _ rfl)
theorem b_sorted (T : Tx K mg) : mg "sorted" = none := T.free (T.fact 180 _ rfl)
theorem b_list (T : Tx K mg) : mg "list" = none := T.free (T.fact 181 _ rfl)
theorem b_tuple (T : Tx K mg) : mg "tuple" = none := T.free (T.fact 182 _ rfl)
theorem b_int (T : Tx K mg) : mg "int" = none := T.free (T.fact 183 _ rfl)
theorem b_sum (T : Tx K mg) : mg "sum" = none := T.free (T.fact 184 _ rfl)
theorem b_isinstance (T : Tx K mg) : mg "isinstance" = none := T.free (T.fact 185 _ rfl)
theorem b_any (T : Tx K mg) : mg "any" = none := T.free (T.fact 186 _ rfl)
theorem b_all (T : Tx K mg) : mg "all" = none := T.free (T.fact 187 _ rfl)
theorem b_min (T : Tx K mg) : mg "min" = none := T.free (T.fact 188 _ rfl)
theorem b_repr (T : Tx K mg) : mg "repr" = none := T.free (T.fact 189 _ rfl)
theorem b_dict (T : Tx K mg) : mg "dict" = none := T.free (T.fact 190 _ rfl)
theorem b_abs (T : Tx K mg) : mg "abs" = none := T.free (T.fact 191 _ rfl)
theorem b_bool (T : Tx K mg) : mg "bool" = none := T.free (T.fact 192 _ rfl)
theorem b_str (T : Tx K mg) : mg "str" = none := T.free (T.fact 193 _ rfl)
theorem g_ROOM (T : Tx K mg) : ∃ u, mg "ROOM" = some (.int 30 u) := T.int (T.fact 194 _ rfl)
theorem g_SLOTS (T : Tx K mg) : ∃ u, mg "SLOTS" = some (.int 8 u) := T.int (T.fact 195 _ rfl)
theorem g_MEMORY (T : Tx K mg) : ∃ u, mg "MEMORY" = some (.int 4 u) := T.int (T.fact 196 _ rfl)
theorem g_HEAD_SIZE (T : Tx K mg) : ∃ u, mg "HEAD_SIZE" = some (.int 2 u) := T.int (T.fact 197 _ rfl)
theorem g_MAKER_chains (T : Tx K mg) : ∃ u, mg "MAKER_chains" = some (.int 1 u) := T.int (T.fact 198 _ rfl)
theorem g_ENDER_chains (T : Tx K mg) : ∃ u, mg "ENDER_chains" = some (.int 3 u) := T.int (T.fact 199 _ rfl)
theorem g_NEXT_chains (T : Tx K mg) : ∃ u, mg "NEXT_chains" = some (.int 5 u) := T.int (T.fact 200 _ rfl)
theorem g_ONLY (T : Tx K mg) : ∃ u, mg "ONLY" = some (.int 6 u) := T.int (T.fact 201 _ rfl)
theorem g_CELLS (T : Tx K mg) : ∃ u, mg "CELLS" = some (.int 7 u) := T.int (T.fact 202 _ rfl)
theorem g_MAKER_sight (T : Tx K mg) : ∃ u, mg "MAKER_sight" = some (.int 1 u) := T.int (T.fact 203 _ rfl)
theorem g_MADE (T : Tx K mg) : ∃ u, mg "MADE" = some (.int 2 u) := T.int (T.fact 204 _ rfl)
theorem g_ENDER_sight (T : Tx K mg) : ∃ u, mg "ENDER_sight" = some (.int 3 u) := T.int (T.fact 205 _ rfl)
theorem g_ENDED (T : Tx K mg) : ∃ u, mg "ENDED" = some (.int 4 u) := T.int (T.fact 206 _ rfl)
theorem g_ENDER_table (T : Tx K mg) : ∃ u, mg "ENDER_table" = some (.int 3 u) := T.int (T.fact 207 _ rfl)
theorem g_NEXT_table (T : Tx K mg) : ∃ u, mg "NEXT_table" = some (.int 5 u) := T.int (T.fact 208 _ rfl)
theorem g_ADD (T : Tx K mg) : ∃ u, mg "ADD" = some (.str "add" u) := T.str (T.fact 209 _ rfl)
theorem g_UNUSED_chains (T : Tx K mg) : ∃ u, mg "UNUSED_chains" = some (.str "unused" u) := T.str (T.fact 210 _ rfl)
theorem g_DEAD_chains (T : Tx K mg) : ∃ u, mg "DEAD_chains" = some (.str "dead" u) := T.str (T.fact 211 _ rfl)
theorem g_REDIRECT (T : Tx K mg) : ∃ u, mg "REDIRECT" = some (.str "redirect" u) := T.str (T.fact 212 _ rfl)
theorem g_ROW_chains (T : Tx K mg) : ∃ u, mg "ROW_chains" = some (.str "row" u) := T.str (T.fact 213 _ rfl)
theorem g_RUNS (T : Tx K mg) : ∃ u, mg "RUNS" = some (.str "runs" u) := T.str (T.fact 214 _ rfl)
theorem g_COMMITTED (T : Tx K mg) : ∃ u, mg "COMMITTED" = some (.str "committed" u) := T.str (T.fact 215 _ rfl)
theorem g_UNDONE (T : Tx K mg) : ∃ u, mg "UNDONE" = some (.str "undone" u) := T.str (T.fact 216 _ rfl)
theorem g_BUILT (T : Tx K mg) : ∃ u, mg "BUILT" = some (.str "built" u) := T.str (T.fact 217 _ rfl)
theorem g_EACH (T : Tx K mg) : ∃ u, mg "EACH" = some (.str "each" u) := T.str (T.fact 218 _ rfl)
theorem g_ONCE (T : Tx K mg) : ∃ u, mg "ONCE" = some (.str "once" u) := T.str (T.fact 219 _ rfl)
theorem g_BUSY_entries (T : Tx K mg) : ∃ u, mg "BUSY_entries" = some (.str "busy" u) := T.str (T.fact 220 _ rfl)
theorem g_DOUBLE (T : Tx K mg) : ∃ u, mg "DOUBLE" = some (.str "double" u) := T.str (T.fact 221 _ rfl)
theorem g_DECLARED (T : Tx K mg) : ∃ u, mg "DECLARED" = some (.str "declared" u) := T.str (T.fact 222 _ rfl)
theorem g_SCANNING (T : Tx K mg) : ∃ u, mg "SCANNING" = some (.str "scanning" u) := T.str (T.fact 223 _ rfl)
theorem g_READY (T : Tx K mg) : ∃ u, mg "READY" = some (.str "ready" u) := T.str (T.fact 224 _ rfl)
theorem g_CHECKING (T : Tx K mg) : ∃ u, mg "CHECKING" = some (.str "checking" u) := T.str (T.fact 225 _ rfl)
theorem g_VALID (T : Tx K mg) : ∃ u, mg "VALID" = some (.str "valid" u) := T.str (T.fact 226 _ rfl)
theorem g_LEFT (T : Tx K mg) : ∃ u, mg "LEFT" = some (.str "left" u) := T.str (T.fact 227 _ rfl)
theorem g_SCANNED (T : Tx K mg) : ∃ u, mg "SCANNED" = some (.str "scanned" u) := T.str (T.fact 228 _ rfl)
theorem g_CHECKED (T : Tx K mg) : ∃ u, mg "CHECKED" = some (.str "checked" u) := T.str (T.fact 229 _ rfl)
theorem g_ROW_table (T : Tx K mg) : ∃ u, mg "ROW_table" = some (.str "row" u) := T.str (T.fact 230 _ rfl)
theorem g_HERE (T : Tx K mg) : ∃ u, mg "HERE" = some (.str "here" u) := T.str (T.fact 231 _ rfl)
theorem g_BUSY_table (T : Tx K mg) : ∃ u, mg "BUSY_table" = some (.str "busy" u) := T.str (T.fact 232 _ rfl)
theorem g_GONE (T : Tx K mg) : ∃ u, mg "GONE" = some (.str "gone" u) := T.str (T.fact 233 _ rfl)
theorem g_HEAP (T : Tx K mg) : ∃ u, mg "HEAP" = some (.str "heap" u) := T.str (T.fact 234 _ rfl)
theorem g_PRUNED (T : Tx K mg) : ∃ u, mg "PRUNED" = some (.str "pruned" u) := T.str (T.fact 235 _ rfl)
theorem g_CLEANED (T : Tx K mg) : ∃ u, mg "CLEANED" = some (.str "cleaned" u) := T.str (T.fact 236 _ rfl)
theorem g_FREED (T : Tx K mg) : ∃ u, mg "FREED" = some (.str "freed" u) := T.str (T.fact 237 _ rfl)
theorem g_OVER (T : Tx K mg) : ∃ u, mg "OVER" = some (.str "over" u) := T.str (T.fact 238 _ rfl)
theorem g_DONE (T : Tx K mg) : ∃ u, mg "DONE" = some (.str "done" u) := T.str (T.fact 239 _ rfl)
theorem f_Deal_own_parts (T : Tx K mg) : FF K (ga K "Deal") nsDeal "own_parts" 0 := ⟨T.cl_Deal, T.na_Deal_own_parts, rfl, nd_Deal, by decide⟩
theorem f_Deal_own_level (T : Tx K mg) : FF K (ga K "Deal") nsDeal "own_level" 1 := ⟨T.cl_Deal, T.na_Deal_own_level, rfl, nd_Deal, by decide⟩
theorem f_Deal_own_commands (T : Tx K mg) : FF K (ga K "Deal") nsDeal "own_commands" 2 := ⟨T.cl_Deal, T.na_Deal_own_commands, rfl, nd_Deal, by decide⟩
theorem f_Ledger_own_deals (T : Tx K mg) : FF K (ga K "Ledger") nsLedger "own_deals" 0 := ⟨T.cl_Ledger, T.na_Ledger_own_deals, rfl, nd_Ledger, by decide⟩
theorem f_Ledger_own_owners (T : Tx K mg) : FF K (ga K "Ledger") nsLedger "own_owners" 1 := ⟨T.cl_Ledger, T.na_Ledger_own_owners, rfl, nd_Ledger, by decide⟩
theorem f_Ledger_own_states (T : Tx K mg) : FF K (ga K "Ledger") nsLedger "own_states" 2 := ⟨T.cl_Ledger, T.na_Ledger_own_states, rfl, nd_Ledger, by decide⟩
theorem f_Table_own_pages (T : Tx K mg) : FF K (ga K "Table") nsTable "own_pages" 0 := ⟨T.cl_Table, T.na_Table_own_pages, rfl, nd_Table, by decide⟩
theorem f_Table_own_marks (T : Tx K mg) : FF K (ga K "Table") nsTable "own_marks" 1 := ⟨T.cl_Table, T.na_Table_own_marks, rfl, nd_Table, by decide⟩
theorem f_Base_own_columns (T : Tx K mg) : FF K (ga K "Base") nsBase "own_columns" 0 := ⟨T.cl_Base, T.na_Base_own_columns, rfl, nd_Base, by decide⟩
theorem f_Base_own_ledger (T : Tx K mg) : FF K (ga K "Base") nsBase "own_ledger" 1 := ⟨T.cl_Base, T.na_Base_own_ledger, rfl, nd_Base, by decide⟩
theorem f_Base_own_table (T : Tx K mg) : FF K (ga K "Base") nsBase "own_table" 2 := ⟨T.cl_Base, T.na_Base_own_table, rfl, nd_Base, by decide⟩
theorem f_Base_own_indexes (T : Tx K mg) : FF K (ga K "Base") nsBase "own_indexes" 3 := ⟨T.cl_Base, T.na_Base_own_indexes, rfl, nd_Base, by decide⟩
theorem f_Base_own_cursors (T : Tx K mg) : FF K (ga K "Base") nsBase "own_cursors" 4 := ⟨T.cl_Base, T.na_Base_own_cursors, rfl, nd_Base, by decide⟩
theorem f_Base_own_opened (T : Tx K mg) : FF K (ga K "Base") nsBase "own_opened" 5 := ⟨T.cl_Base, T.na_Base_own_opened, rfl, nd_Base, by decide⟩
theorem f_Base_own_firsts (T : Tx K mg) : FF K (ga K "Base") nsBase "own_firsts" 6 := ⟨T.cl_Base, T.na_Base_own_firsts, rfl, nd_Base, by decide⟩
theorem f_Base_own_writers (T : Tx K mg) : FF K (ga K "Base") nsBase "own_writers" 7 := ⟨T.cl_Base, T.na_Base_own_writers, rfl, nd_Base, by decide⟩
theorem f_Base_own_vacuum (T : Tx K mg) : FF K (ga K "Base") nsBase "own_vacuum" 8 := ⟨T.cl_Base, T.na_Base_own_vacuum, rfl, nd_Base, by decide⟩
theorem f_Vacuum_own_many (T : Tx K mg) : FF K (ga K "Vacuum") nsVacuum "own_many" 0 := ⟨T.cl_Vacuum, T.na_Vacuum_own_many, rfl, nd_Vacuum, by decide⟩
theorem f_Vacuum_own_memory (T : Tx K mg) : FF K (ga K "Vacuum") nsVacuum "own_memory" 1 := ⟨T.cl_Vacuum, T.na_Vacuum_own_memory, rfl, nd_Vacuum, by decide⟩
theorem f_Vacuum_own_page (T : Tx K mg) : FF K (ga K "Vacuum") nsVacuum "own_page" 2 := ⟨T.cl_Vacuum, T.na_Vacuum_own_page, rfl, nd_Vacuum, by decide⟩
theorem f_Vacuum_own_noted (T : Tx K mg) : FF K (ga K "Vacuum") nsVacuum "own_noted" 3 := ⟨T.cl_Vacuum, T.na_Vacuum_own_noted, rfl, nd_Vacuum, by decide⟩
theorem f_Vacuum_own_cleaned (T : Tx K mg) : FF K (ga K "Vacuum") nsVacuum "own_cleaned" 4 := ⟨T.cl_Vacuum, T.na_Vacuum_own_cleaned, rfl, nd_Vacuum, by decide⟩
theorem f_Vacuum_own_stage (T : Tx K mg) : FF K (ga K "Vacuum") nsVacuum "own_stage" 5 := ⟨T.cl_Vacuum, T.na_Vacuum_own_stage, rfl, nd_Vacuum, by decide⟩
theorem f_HeapCursor_own_owner (T : Tx K mg) : FF K (ga K "HeapCursor") nsHeapCursor "own_owner" 0 := ⟨T.cl_HeapCursor, T.na_HeapCursor_own_owner, rfl, nd_HeapCursor, by decide⟩
theorem f_HeapCursor_own_part (T : Tx K mg) : FF K (ga K "HeapCursor") nsHeapCursor "own_part" 1 := ⟨T.cl_HeapCursor, T.na_HeapCursor_own_part, rfl, nd_HeapCursor, by decide⟩
theorem f_HeapCursor_own_snapshot (T : Tx K mg) : FF K (ga K "HeapCursor") nsHeapCursor "own_snapshot" 2 := ⟨T.cl_HeapCursor, T.na_HeapCursor_own_snapshot, rfl, nd_HeapCursor, by decide⟩
theorem f_HeapCursor_own_told (T : Tx K mg) : FF K (ga K "HeapCursor") nsHeapCursor "own_told" 3 := ⟨T.cl_HeapCursor, T.na_HeapCursor_own_told, rfl, nd_HeapCursor, by decide⟩
theorem f_HeapCursor_own_many (T : Tx K mg) : FF K (ga K "HeapCursor") nsHeapCursor "own_many" 4 := ⟨T.cl_HeapCursor, T.na_HeapCursor_own_many, rfl, nd_HeapCursor, by decide⟩
theorem f_HeapCursor_own_page (T : Tx K mg) : FF K (ga K "HeapCursor") nsHeapCursor "own_page" 5 := ⟨T.cl_HeapCursor, T.na_HeapCursor_own_page, rfl, nd_HeapCursor, by decide⟩
theorem f_HeapCursor_own_noted (T : Tx K mg) : FF K (ga K "HeapCursor") nsHeapCursor "own_noted" 6 := ⟨T.cl_HeapCursor, T.na_HeapCursor_own_noted, rfl, nd_HeapCursor, by decide⟩
theorem m_Deal_init (T : Tx K mg) : MF K (ga K "Deal") nsDeal "__init__" (fAd K ("Deal", some "__init__")) := ⟨T.cl_Deal, T.me_Deal_init, by decide +kernel⟩
theorem m_Ledger_init (T : Tx K mg) : MF K (ga K "Ledger") nsLedger "__init__" (fAd K ("Ledger", some "__init__")) := ⟨T.cl_Ledger, T.me_Ledger_init, by decide +kernel⟩
theorem m_Ledger_following (T : Tx K mg) : MF K (ga K "Ledger") nsLedger "following" (fAd K ("Ledger", some "following")) := ⟨T.cl_Ledger, T.me_Ledger_following, by decide +kernel⟩
theorem m_Ledger_take_number (T : Tx K mg) : MF K (ga K "Ledger") nsLedger "take_number" (fAd K ("Ledger", some "take_number")) := ⟨T.cl_Ledger, T.me_Ledger_take_number, by decide +kernel⟩
theorem m_Ledger_owner_of (T : Tx K mg) : MF K (ga K "Ledger") nsLedger "owner_of" (fAd K ("Ledger", some "owner_of")) := ⟨T.cl_Ledger, T.me_Ledger_owner_of, by decide +kernel⟩
theorem m_Ledger_look_running (T : Tx K mg) : MF K (ga K "Ledger") nsLedger "look_running" (fAd K ("Ledger", some "look_running")) := ⟨T.cl_Ledger, T.me_Ledger_look_running, by decide +kernel⟩
theorem m_Ledger_begin (T : Tx K mg) : MF K (ga K "Ledger") nsLedger "begin" (fAd K ("Ledger", some "begin")) := ⟨T.cl_Ledger, T.me_Ledger_begin, by decide +kernel⟩
theorem m_Ledger_save (T : Tx K mg) : MF K (ga K "Ledger") nsLedger "save" (fAd K ("Ledger", some "save")) := ⟨T.cl_Ledger, T.me_Ledger_save, by decide +kernel⟩
theorem m_Ledger_undo (T : Tx K mg) : MF K (ga K "Ledger") nsLedger "undo" (fAd K ("Ledger", some "undo")) := ⟨T.cl_Ledger, T.me_Ledger_undo, by decide +kernel⟩
theorem m_Ledger_running_parts (T : Tx K mg) : MF K (ga K "Ledger") nsLedger "running_parts" (fAd K ("Ledger", some "running_parts")) := ⟨T.cl_Ledger, T.me_Ledger_running_parts, by decide +kernel⟩
theorem m_Ledger_enter (T : Tx K mg) : MF K (ga K "Ledger") nsLedger "enter" (fAd K ("Ledger", some "enter")) := ⟨T.cl_Ledger, T.me_Ledger_enter, by decide +kernel⟩
theorem m_Ledger_finish (T : Tx K mg) : MF K (ga K "Ledger") nsLedger "finish" (fAd K ("Ledger", some "finish")) := ⟨T.cl_Ledger, T.me_Ledger_finish, by decide +kernel⟩
theorem m_Ledger_state (T : Tx K mg) : MF K (ga K "Ledger") nsLedger "state" (fAd K ("Ledger", some "state")) := ⟨T.cl_Ledger, T.me_Ledger_state, by decide +kernel⟩
theorem m_Ledger_with_state (T : Tx K mg) : MF K (ga K "Ledger") nsLedger "with_state" (fAd K ("Ledger", some "with_state")) := ⟨T.cl_Ledger, T.me_Ledger_with_state, by decide +kernel⟩
theorem m_Ledger_undone (T : Tx K mg) : MF K (ga K "Ledger") nsLedger "undone" (fAd K ("Ledger", some "undone")) := ⟨T.cl_Ledger, T.me_Ledger_undone, by decide +kernel⟩
theorem m_Ledger_committed (T : Tx K mg) : MF K (ga K "Ledger") nsLedger "committed" (fAd K ("Ledger", some "committed")) := ⟨T.cl_Ledger, T.me_Ledger_committed, by decide +kernel⟩
theorem m_Ledger_running (T : Tx K mg) : MF K (ga K "Ledger") nsLedger "running" (fAd K ("Ledger", some "running")) := ⟨T.cl_Ledger, T.me_Ledger_running, by decide +kernel⟩
theorem m_Ledger_running_beside (T : Tx K mg) : MF K (ga K "Ledger") nsLedger "running_beside" (fAd K ("Ledger", some "running_beside")) := ⟨T.cl_Ledger, T.me_Ledger_running_beside, by decide +kernel⟩
theorem m_Ledger_parts (T : Tx K mg) : MF K (ga K "Ledger") nsLedger "parts" (fAd K ("Ledger", some "parts")) := ⟨T.cl_Ledger, T.me_Ledger_parts, by decide +kernel⟩
theorem m_Ledger_working (T : Tx K mg) : MF K (ga K "Ledger") nsLedger "working" (fAd K ("Ledger", some "working")) := ⟨T.cl_Ledger, T.me_Ledger_working, by decide +kernel⟩
theorem m_Ledger_level (T : Tx K mg) : MF K (ga K "Ledger") nsLedger "level" (fAd K ("Ledger", some "level")) := ⟨T.cl_Ledger, T.me_Ledger_level, by decide +kernel⟩
theorem m_Ledger_command (T : Tx K mg) : MF K (ga K "Ledger") nsLedger "command" (fAd K ("Ledger", some "command")) := ⟨T.cl_Ledger, T.me_Ledger_command, by decide +kernel⟩
theorem m_Ledger_stepped (T : Tx K mg) : MF K (ga K "Ledger") nsLedger "stepped" (fAd K ("Ledger", some "stepped")) := ⟨T.cl_Ledger, T.me_Ledger_stepped, by decide +kernel⟩
theorem m_Ledger_snapshot_now (T : Tx K mg) : MF K (ga K "Ledger") nsLedger "snapshot_now" (fAd K ("Ledger", some "snapshot_now")) := ⟨T.cl_Ledger, T.me_Ledger_snapshot_now, by decide +kernel⟩
theorem m_Table_init (T : Tx K mg) : MF K (ga K "Table") nsTable "__init__" (fAd K ("Table", some "__init__")) := ⟨T.cl_Table, T.me_Table_init, by decide +kernel⟩
theorem m_Table_pages (T : Tx K mg) : MF K (ga K "Table") nsTable "pages" (fAd K ("Table", some "pages")) := ⟨T.cl_Table, T.me_Table_pages, by decide +kernel⟩
theorem m_Table_many (T : Tx K mg) : MF K (ga K "Table") nsTable "many" (fAd K ("Table", some "many")) := ⟨T.cl_Table, T.me_Table_many, by decide +kernel⟩
theorem m_Table_page (T : Tx K mg) : MF K (ga K "Table") nsTable "page" (fAd K ("Table", some "page")) := ⟨T.cl_Table, T.me_Table_page, by decide +kernel⟩
theorem m_Table_slot (T : Tx K mg) : MF K (ga K "Table") nsTable "slot" (fAd K ("Table", some "slot")) := ⟨T.cl_Table, T.me_Table_slot, by decide +kernel⟩
theorem m_Table_marked (T : Tx K mg) : MF K (ga K "Table") nsTable "marked" (fAd K ("Table", some "marked")) := ⟨T.cl_Table, T.me_Table_marked, by decide +kernel⟩
theorem m_Table_dead_slots (T : Tx K mg) : MF K (ga K "Table") nsTable "dead_slots" (fAd K ("Table", some "dead_slots")) := ⟨T.cl_Table, T.me_Table_dead_slots, by decide +kernel⟩
theorem m_Table_keep (T : Tx K mg) : MF K (ga K "Table") nsTable "keep" (fAd K ("Table", some "keep")) := ⟨T.cl_Table, T.me_Table_keep, by decide +kernel⟩
theorem m_Table_end (T : Tx K mg) : MF K (ga K "Table") nsTable "end" (fAd K ("Table", some "end")) := ⟨T.cl_Table, T.me_Table_end, by decide +kernel⟩
theorem m_Table_look (T : Tx K mg) : MF K (ga K "Table") nsTable "look" (fAd K ("Table", some "look")) := ⟨T.cl_Table, T.me_Table_look, by decide +kernel⟩
theorem m_Table_prune (T : Tx K mg) : MF K (ga K "Table") nsTable "prune" (fAd K ("Table", some "prune")) := ⟨T.cl_Table, T.me_Table_prune, by decide +kernel⟩
theorem m_Table_free (T : Tx K mg) : MF K (ga K "Table") nsTable "free" (fAd K ("Table", some "free")) := ⟨T.cl_Table, T.me_Table_free, by decide +kernel⟩
theorem m_Table_place_for (T : Tx K mg) : MF K (ga K "Table") nsTable "place_for" (fAd K ("Table", some "place_for")) := ⟨T.cl_Table, T.me_Table_place_for, by decide +kernel⟩
theorem m_Table_placing (T : Tx K mg) : MF K (ga K "Table") nsTable "placing" (fAd K ("Table", some "placing")) := ⟨T.cl_Table, T.me_Table_placing, by decide +kernel⟩
theorem m_Table_newest (T : Tx K mg) : MF K (ga K "Table") nsTable "newest" (fAd K ("Table", some "newest")) := ⟨T.cl_Table, T.me_Table_newest, by decide +kernel⟩
theorem m_HeapCursor_init (T : Tx K mg) : MF K (ga K "HeapCursor") nsHeapCursor "__init__" (fAd K ("HeapCursor", some "__init__")) := ⟨T.cl_HeapCursor, T.me_HeapCursor_init, by decide +kernel⟩
theorem m_HeapCursor_owner (T : Tx K mg) : MF K (ga K "HeapCursor") nsHeapCursor "owner" (fAd K ("HeapCursor", some "owner")) := ⟨T.cl_HeapCursor, T.me_HeapCursor_owner, by decide +kernel⟩
theorem m_HeapCursor_opened_in (T : Tx K mg) : MF K (ga K "HeapCursor") nsHeapCursor "opened_in" (fAd K ("HeapCursor", some "opened_in")) := ⟨T.cl_HeapCursor, T.me_HeapCursor_opened_in, by decide +kernel⟩
theorem m_HeapCursor_snapshot (T : Tx K mg) : MF K (ga K "HeapCursor") nsHeapCursor "snapshot" (fAd K ("HeapCursor", some "snapshot")) := ⟨T.cl_HeapCursor, T.me_HeapCursor_snapshot, by decide +kernel⟩
theorem m_HeapCursor_told (T : Tx K mg) : MF K (ga K "HeapCursor") nsHeapCursor "told" (fAd K ("HeapCursor", some "told")) := ⟨T.cl_HeapCursor, T.me_HeapCursor_told, by decide +kernel⟩
theorem m_HeapCursor_tell (T : Tx K mg) : MF K (ga K "HeapCursor") nsHeapCursor "tell" (fAd K ("HeapCursor", some "tell")) := ⟨T.cl_HeapCursor, T.me_HeapCursor_tell, by decide +kernel⟩
theorem m_HeapCursor_note_page (T : Tx K mg) : MF K (ga K "HeapCursor") nsHeapCursor "note_page" (fAd K ("HeapCursor", some "note_page")) := ⟨T.cl_HeapCursor, T.me_HeapCursor_note_page, by decide +kernel⟩
theorem m_HeapCursor_next (T : Tx K mg) : MF K (ga K "HeapCursor") nsHeapCursor "next" (fAd K ("HeapCursor", some "next")) := ⟨T.cl_HeapCursor, T.me_HeapCursor_next, by decide +kernel⟩
theorem m_Base_init (T : Tx K mg) : MF K (ga K "Base") nsBase "__init__" (fAd K ("Base", some "__init__")) := ⟨T.cl_Base, T.me_Base_init, by decide +kernel⟩
theorem m_Base_close_where (T : Tx K mg) : MF K (ga K "Base") nsBase "close_where" (fAd K ("Base", some "close_where")) := ⟨T.cl_Base, T.me_Base_close_where, by decide +kernel⟩
theorem m_Base_finish (T : Tx K mg) : MF K (ga K "Base") nsBase "finish" (fAd K ("Base", some "finish")) := ⟨T.cl_Base, T.me_Base_finish, by decide +kernel⟩
theorem m_Base_undone (T : Tx K mg) : MF K (ga K "Base") nsBase "undone" (fAd K ("Base", some "undone")) := ⟨T.cl_Base, T.me_Base_undone, by decide +kernel⟩
theorem m_Base_kept (T : Tx K mg) : MF K (ga K "Base") nsBase "kept" (fAd K ("Base", some "kept")) := ⟨T.cl_Base, T.me_Base_kept, by decide +kernel⟩
theorem m_Base_settled (T : Tx K mg) : MF K (ga K "Base") nsBase "settled" (fAd K ("Base", some "settled")) := ⟨T.cl_Base, T.me_Base_settled, by decide +kernel⟩
theorem m_Base_snapshot_for (T : Tx K mg) : MF K (ga K "Base") nsBase "snapshot_for" (fAd K ("Base", some "snapshot_for")) := ⟨T.cl_Base, T.me_Base_snapshot_for, by decide +kernel⟩
theorem m_Base_cursor_for (T : Tx K mg) : MF K (ga K "Base") nsBase "cursor_for" (fAd K ("Base", some "cursor_for")) := ⟨T.cl_Base, T.me_Base_cursor_for, by decide +kernel⟩
theorem m_Base_cursor (T : Tx K mg) : MF K (ga K "Base") nsBase "cursor" (fAd K ("Base", some "cursor")) := ⟨T.cl_Base, T.me_Base_cursor, by decide +kernel⟩
theorem m_Base_names (T : Tx K mg) : MF K (ga K "Base") nsBase "names" (fAd K ("Base", some "names")) := ⟨T.cl_Base, T.me_Base_names, by decide +kernel⟩
theorem m_Base_begin (T : Tx K mg) : MF K (ga K "Base") nsBase "begin" (fAd K ("Base", some "begin")) := ⟨T.cl_Base, T.me_Base_begin, by decide +kernel⟩
theorem m_Base_save (T : Tx K mg) : MF K (ga K "Base") nsBase "save" (fAd K ("Base", some "save")) := ⟨T.cl_Base, T.me_Base_save, by decide +kernel⟩
theorem m_Base_undo (T : Tx K mg) : MF K (ga K "Base") nsBase "undo" (fAd K ("Base", some "undo")) := ⟨T.cl_Base, T.me_Base_undo, by decide +kernel⟩
theorem m_Base_commit (T : Tx K mg) : MF K (ga K "Base") nsBase "commit" (fAd K ("Base", some "commit")) := ⟨T.cl_Base, T.me_Base_commit, by decide +kernel⟩
theorem m_Base_abort (T : Tx K mg) : MF K (ga K "Base") nsBase "abort" (fAd K ("Base", some "abort")) := ⟨T.cl_Base, T.me_Base_abort, by decide +kernel⟩
theorem m_Base_scan (T : Tx K mg) : MF K (ga K "Base") nsBase "scan" (fAd K ("Base", some "scan")) := ⟨T.cl_Base, T.me_Base_scan, by decide +kernel⟩
theorem m_Base_close (T : Tx K mg) : MF K (ga K "Base") nsBase "close" (fAd K ("Base", some "close")) := ⟨T.cl_Base, T.me_Base_close, by decide +kernel⟩
theorem m_Base_next (T : Tx K mg) : MF K (ga K "Base") nsBase "next" (fAd K ("Base", some "next")) := ⟨T.cl_Base, T.me_Base_next, by decide +kernel⟩
theorem m_Base_read (T : Tx K mg) : MF K (ga K "Base") nsBase "read" (fAd K ("Base", some "read")) := ⟨T.cl_Base, T.me_Base_read, by decide +kernel⟩
theorem m_Base_writing_names (T : Tx K mg) : MF K (ga K "Base") nsBase "writing_names" (fAd K ("Base", some "writing_names")) := ⟨T.cl_Base, T.me_Base_writing_names, by decide +kernel⟩
theorem m_Base_refusal (T : Tx K mg) : MF K (ga K "Base") nsBase "refusal" (fAd K ("Base", some "refusal")) := ⟨T.cl_Base, T.me_Base_refusal, by decide +kernel⟩
theorem m_Base_keep_new (T : Tx K mg) : MF K (ga K "Base") nsBase "keep_new" (fAd K ("Base", some "keep_new")) := ⟨T.cl_Base, T.me_Base_keep_new, by decide +kernel⟩
theorem m_Base_wrote (T : Tx K mg) : MF K (ga K "Base") nsBase "wrote" (fAd K ("Base", some "wrote")) := ⟨T.cl_Base, T.me_Base_wrote, by decide +kernel⟩
theorem m_Base_put (T : Tx K mg) : MF K (ga K "Base") nsBase "put" (fAd K ("Base", some "put")) := ⟨T.cl_Base, T.me_Base_put, by decide +kernel⟩
theorem m_Base_newest (T : Tx K mg) : MF K (ga K "Base") nsBase "newest" (fAd K ("Base", some "newest")) := ⟨T.cl_Base, T.me_Base_newest, by decide +kernel⟩
theorem m_Base_remove (T : Tx K mg) : MF K (ga K "Base") nsBase "remove" (fAd K ("Base", some "remove")) := ⟨T.cl_Base, T.me_Base_remove, by decide +kernel⟩
theorem m_Base_change (T : Tx K mg) : MF K (ga K "Base") nsBase "change" (fAd K ("Base", some "change")) := ⟨T.cl_Base, T.me_Base_change, by decide +kernel⟩
theorem m_Base_prune (T : Tx K mg) : MF K (ga K "Base") nsBase "prune" (fAd K ("Base", some "prune")) := ⟨T.cl_Base, T.me_Base_prune, by decide +kernel⟩
theorem m_Base_dead_slots (T : Tx K mg) : MF K (ga K "Base") nsBase "dead_slots" (fAd K ("Base", some "dead_slots")) := ⟨T.cl_Base, T.me_Base_dead_slots, by decide +kernel⟩
theorem m_Base_free (T : Tx K mg) : MF K (ga K "Base") nsBase "free" (fAd K ("Base", some "free")) := ⟨T.cl_Base, T.me_Base_free, by decide +kernel⟩
theorem m_Base_look_held (T : Tx K mg) : MF K (ga K "Base") nsBase "look_held" (fAd K ("Base", some "look_held")) := ⟨T.cl_Base, T.me_Base_look_held, by decide +kernel⟩
theorem m_Base_vacuum (T : Tx K mg) : MF K (ga K "Base") nsBase "vacuum" (fAd K ("Base", some "vacuum")) := ⟨T.cl_Base, T.me_Base_vacuum, by decide +kernel⟩
theorem m_Base_step (T : Tx K mg) : MF K (ga K "Base") nsBase "step" (fAd K ("Base", some "step")) := ⟨T.cl_Base, T.me_Base_step, by decide +kernel⟩
theorem m_Base_pages (T : Tx K mg) : MF K (ga K "Base") nsBase "pages" (fAd K ("Base", some "pages")) := ⟨T.cl_Base, T.me_Base_pages, by decide +kernel⟩
theorem m_Base_marked (T : Tx K mg) : MF K (ga K "Base") nsBase "marked" (fAd K ("Base", some "marked")) := ⟨T.cl_Base, T.me_Base_marked, by decide +kernel⟩
theorem m_Base_image (T : Tx K mg) : MF K (ga K "Base") nsBase "image" (fAd K ("Base", some "image")) := ⟨T.cl_Base, T.me_Base_image, by decide +kernel⟩
theorem m_Vacuum_init (T : Tx K mg) : MF K (ga K "Vacuum") nsVacuum "__init__" (fAd K ("Vacuum", some "__init__")) := ⟨T.cl_Vacuum, T.me_Vacuum_init, by decide +kernel⟩
theorem m_Vacuum_noted (T : Tx K mg) : MF K (ga K "Vacuum") nsVacuum "noted" (fAd K ("Vacuum", some "noted")) := ⟨T.cl_Vacuum, T.me_Vacuum_noted, by decide +kernel⟩
theorem m_Vacuum_prune_next (T : Tx K mg) : MF K (ga K "Vacuum") nsVacuum "prune_next" (fAd K ("Vacuum", some "prune_next")) := ⟨T.cl_Vacuum, T.me_Vacuum_prune_next, by decide +kernel⟩
theorem m_Vacuum_name_next (T : Tx K mg) : MF K (ga K "Vacuum") nsVacuum "name_next" (fAd K ("Vacuum", some "name_next")) := ⟨T.cl_Vacuum, T.me_Vacuum_name_next, by decide +kernel⟩
theorem m_Vacuum_free_next (T : Tx K mg) : MF K (ga K "Vacuum") nsVacuum "free_next" (fAd K ("Vacuum", some "free_next")) := ⟨T.cl_Vacuum, T.me_Vacuum_free_next, by decide +kernel⟩
theorem m_Vacuum_step (T : Tx K mg) : MF K (ga K "Vacuum") nsVacuum "step" (fAd K ("Vacuum", some "step")) := ⟨T.cl_Vacuum, T.me_Vacuum_step, by decide +kernel⟩
end Tx
theorem sc_tupled : FnScope ["thing", "part"] ["thing"] (defScope t_tupled) := ⟨rfl, rfl, rfl, by decide +kernel, rfl, by decide +kernel, by decide +kernel⟩
theorem sc_is_number : FnScope ["thing"] ["thing"] (defScope t_is_number) := ⟨rfl, rfl, rfl, by decide +kernel, rfl, by decide +kernel, by decide +kernel⟩
theorem sc_size_of : FnScope ["cells", "cell"] ["cells"] (defScope t_size_of) := ⟨rfl, rfl, rfl, by decide +kernel, rfl, by decide +kernel, by decide +kernel⟩
theorem sc_changed : FnScope ["columns", "cells", "changes", "found", "word", "column", "value", "place"] ["columns", "cells", "changes"] (defScope t_changed) := ⟨rfl, rfl, rfl, by decide +kernel, rfl, by decide +kernel, by decide +kernel⟩
theorem sc_is_version : FnScope ["slot"] ["slot"] (defScope t_is_version) := ⟨rfl, rfl, rfl, by decide +kernel, rfl, by decide +kernel, by decide +kernel⟩
theorem sc_is_only : FnScope ["page", "slot"] ["page", "slot"] (defScope t_is_only) := ⟨rfl, rfl, rfl, by decide +kernel, rfl, by decide +kernel, by decide +kernel⟩
theorem sc_first_in : FnScope ["page", "slot"] ["page", "slot"] (defScope t_first_in) := ⟨rfl, rfl, rfl, by decide +kernel, rfl, by decide +kernel, by decide +kernel⟩
theorem sc_follower : FnScope ["page", "number", "slot", "version"] ["page", "number", "slot"] (defScope t_follower) := ⟨rfl, rfl, rfl, by decide +kernel, rfl, by decide +kernel, by decide +kernel⟩
theorem sc_chain : FnScope ["page", "number", "slot", "found", "here"] ["page", "number", "slot"] (defScope t_chain) := ⟨rfl, rfl, rfl, by decide +kernel, rfl, by decide +kernel, by decide +kernel⟩
theorem sc_room : FnScope ["page", "slot"] ["page"] (defScope t_room) := ⟨rfl, rfl, rfl, by decide +kernel, rfl, by decide +kernel, by decide +kernel⟩
theorem sc_free_slot : FnScope ["page", "place", "slot"] ["page"] (defScope t_free_slot) := ⟨rfl, rfl, rfl, by decide +kernel, rfl, by decide +kernel, by decide +kernel⟩
theorem sc_fits : FnScope ["page", "cells"] ["page", "cells"] (defScope t_fits) := ⟨rfl, rfl, rfl, by decide +kernel, rfl, by decide +kernel, by decide +kernel⟩
theorem sc_is_dead : FnScope ["version", "undone", "settled"] ["version", "undone", "settled"] (defScope t_is_dead) := ⟨rfl, rfl, rfl, by decide +kernel, rfl, by decide +kernel, by decide +kernel⟩
theorem sc_dead_ahead : FnScope ["page", "row", "undone", "settled", "many"] ["page", "row", "undone", "settled"] (defScope t_dead_ahead) := ⟨rfl, rfl, rfl, by decide +kernel, rfl, by decide +kernel, by decide +kernel⟩
theorem sc_pruned : FnScope ["page", "number", "undone", "settled", "root", "slots", "freed", "died", "row", "many", "slot", "place"] ["page", "number", "undone", "settled"] (defScope t_pruned) := ⟨rfl, rfl, rfl, by decide +kernel, rfl, by decide +kernel, by decide +kernel⟩
theorem sc_is_seen_by_all : FnScope ["version", "undone", "settled"] ["version", "undone", "settled"] (defScope t_is_seen_by_all) := ⟨rfl, rfl, rfl, by decide +kernel, rfl, by decide +kernel, by decide +kernel⟩
theorem sc_is_clear : FnScope ["page", "undone", "settled", "slot"] ["page", "undone", "settled"] (defScope t_is_clear) := ⟨rfl, rfl, rfl, by decide +kernel, rfl, by decide +kernel, by decide +kernel⟩
theorem sc_counts : FnScope ["snapshot", "number", "command", "undone", "following", "running", "own", "before"] ["snapshot", "number", "command", "undone"] (defScope t_counts) := ⟨rfl, rfl, rfl, by decide +kernel, rfl, by decide +kernel, by decide +kernel⟩
theorem sc_sees : FnScope ["snapshot", "version", "undone"] ["snapshot", "version", "undone"] (defScope t_sees) := ⟨rfl, rfl, rfl, by decide +kernel, rfl, by decide +kernel, by decide +kernel⟩
theorem sc_is_past : FnScope ["snapshot", "number"] ["snapshot", "number"] (defScope t_is_past) := ⟨rfl, rfl, rfl, by decide +kernel, rfl, by decide +kernel, by decide +kernel⟩
theorem sc_settled : FnScope ["committed", "snapshots", "number", "snapshot"] ["committed", "snapshots"] (defScope t_settled) := ⟨rfl, rfl, rfl, by decide +kernel, rfl, by decide +kernel, by decide +kernel⟩
theorem sc_version_of : FnScope ["part", "command", "only", "cells"] ["part", "command", "only", "cells"] (defScope t_version_of) := ⟨rfl, rfl, rfl, by decide +kernel, rfl, by decide +kernel, by decide +kernel⟩
theorem sc_with_slot : FnScope ["page", "slot", "what"] ["page", "slot", "what"] (defScope t_with_slot) := ⟨rfl, rfl, rfl, by decide +kernel, rfl, by decide +kernel, by decide +kernel⟩
theorem sc_Deal_init : FnScope ["self", "number", "level"] ["self", "number", "level"] (defScope t_Deal_init) := ⟨rfl, rfl, rfl, by decide +kernel, rfl, by decide +kernel, by decide +kernel⟩
theorem sc_Ledger_init : FnScope ["self"] ["self"] (defScope t_Ledger_init) := ⟨rfl, rfl, rfl, by decide +kernel, rfl, by decide +kernel, by decide +kernel⟩
theorem sc_Ledger_following : FnScope ["self"] ["self"] (defScope t_Ledger_following) := ⟨rfl, rfl, rfl, by decide +kernel, rfl, by decide +kernel, by decide +kernel⟩
theorem sc_Ledger_take_number : FnScope ["self", "owner"] ["self", "owner"] (defScope t_Ledger_take_number) := ⟨rfl, rfl, rfl, by decide +kernel, rfl, by decide +kernel, by decide +kernel⟩
theorem sc_Ledger_owner_of : FnScope ["self", "number"] ["self", "number"] (defScope t_Ledger_owner_of) := ⟨rfl, rfl, rfl, by decide +kernel, rfl, by decide +kernel, by decide +kernel⟩
theorem sc_Ledger_look_running : FnScope ["self", "number"] ["self", "number"] (defScope t_Ledger_look_running) := ⟨rfl, rfl, rfl, by decide +kernel, rfl, by decide +kernel, by decide +kernel⟩
theorem sc_Ledger_begin : FnScope ["self", "level", "number"] ["self", "level"] (defScope t_Ledger_begin) := ⟨rfl, rfl, rfl, by decide +kernel, rfl, by decide +kernel, by decide +kernel⟩
theorem sc_Ledger_save : FnScope ["self", "number", "part"] ["self", "number"] (defScope t_Ledger_save) := ⟨rfl, rfl, rfl, by decide +kernel, rfl, by decide +kernel, by decide +kernel⟩
theorem sc_Ledger_undo : FnScope ["self", "number", "part", "gone", "other"] ["self", "number", "part"] (defScope t_Ledger_undo) := ⟨rfl, rfl, rfl, by decide +kernel, rfl, by decide +kernel, by decide +kernel⟩
theorem sc_Ledger_running_parts : FnScope ["self", "number", "part"] ["self", "number"] (defScope t_Ledger_running_parts) := ⟨rfl, rfl, rfl, by decide +kernel, rfl, by decide +kernel, by decide +kernel⟩
theorem sc_Ledger_enter : FnScope ["self", "parts", "state", "part"] ["self", "parts", "state"] (defScope t_Ledger_enter) := ⟨rfl, rfl, rfl, by decide +kernel, rfl, by decide +kernel, by decide +kernel⟩
theorem sc_Ledger_finish : FnScope ["self", "number", "state"] ["self", "number", "state"] (defScope t_Ledger_finish) := ⟨rfl, rfl, rfl, by decide +kernel, rfl, by decide +kernel, by decide +kernel⟩
theorem sc_Ledger_state : FnScope ["self", "number"] ["self", "number"] (defScope t_Ledger_state) := ⟨rfl, rfl, rfl, by decide +kernel, rfl, by decide +kernel, by decide +kernel⟩
theorem sc_Ledger_with_state : FnScope ["self", "state", "place", "own"] ["self", "state"] (defScope t_Ledger_with_state) := ⟨rfl, rfl, rfl, by decide +kernel, rfl, by decide +kernel, by decide +kernel⟩
theorem sc_Ledger_undone : FnScope ["self"] ["self"] (defScope t_Ledger_undone) := ⟨rfl, rfl, rfl, by decide +kernel, rfl, by decide +kernel, by decide +kernel⟩
theorem sc_Ledger_committed : FnScope ["self"] ["self"] (defScope t_Ledger_committed) := ⟨rfl, rfl, rfl, by decide +kernel, rfl, by decide +kernel, by decide +kernel⟩
theorem sc_Ledger_running : FnScope ["self", "number"] ["self"] (defScope t_Ledger_running) := ⟨rfl, rfl, rfl, by decide +kernel, rfl, by decide +kernel, by decide +kernel⟩
theorem sc_Ledger_running_beside : FnScope ["self", "number", "found", "other"] ["self", "number"] (defScope t_Ledger_running_beside) := ⟨rfl, rfl, rfl, by decide +kernel, rfl, by decide +kernel, by decide +kernel⟩
theorem sc_Ledger_parts : FnScope ["self", "number"] ["self", "number"] (defScope t_Ledger_parts) := ⟨rfl, rfl, rfl, by decide +kernel, rfl, by decide +kernel, by decide +kernel⟩
theorem sc_Ledger_working : FnScope ["self", "number"] ["self", "number"] (defScope t_Ledger_working) := ⟨rfl, rfl, rfl, by decide +kernel, rfl, by decide +kernel, by decide +kernel⟩
theorem sc_Ledger_level : FnScope ["self", "number"] ["self", "number"] (defScope t_Ledger_level) := ⟨rfl, rfl, rfl, by decide +kernel, rfl, by decide +kernel, by decide +kernel⟩
theorem sc_Ledger_command : FnScope ["self", "number"] ["self", "number"] (defScope t_Ledger_command) := ⟨rfl, rfl, rfl, by decide +kernel, rfl, by decide +kernel, by decide +kernel⟩
theorem sc_Ledger_stepped : FnScope ["self", "number"] ["self", "number"] (defScope t_Ledger_stepped) := ⟨rfl, rfl, rfl, by decide +kernel, rfl, by decide +kernel, by decide +kernel⟩
theorem sc_Ledger_snapshot_now : FnScope ["self", "number", "head"] ["self", "number"] (defScope t_Ledger_snapshot_now) := ⟨rfl, rfl, rfl, by decide +kernel, rfl, by decide +kernel, by decide +kernel⟩
theorem sc_Table_init : FnScope ["self"] ["self"] (defScope t_Table_init) := ⟨rfl, rfl, rfl, by decide +kernel, rfl, by decide +kernel, by decide +kernel⟩
theorem sc_Table_pages : FnScope ["self"] ["self"] (defScope t_Table_pages) := ⟨rfl, rfl, rfl, by decide +kernel, rfl, by decide +kernel, by decide +kernel⟩
theorem sc_Table_many : FnScope ["self"] ["self"] (defScope t_Table_many) := ⟨rfl, rfl, rfl, by decide +kernel, rfl, by decide +kernel, by decide +kernel⟩
theorem sc_Table_page : FnScope ["self", "number"] ["self", "number"] (defScope t_Table_page) := ⟨rfl, rfl, rfl, by decide +kernel, rfl, by decide +kernel, by decide +kernel⟩
theorem sc_Table_slot : FnScope ["self", "place"] ["self", "place"] (defScope t_Table_slot) := ⟨rfl, rfl, rfl, by decide +kernel, rfl, by decide +kernel, by decide +kernel⟩
theorem sc_Table_marked : FnScope ["self"] ["self"] (defScope t_Table_marked) := ⟨rfl, rfl, rfl, by decide +kernel, rfl, by decide +kernel, by decide +kernel⟩
theorem sc_Table_dead_slots : FnScope ["self", "number", "slot", "what"] ["self", "number"] (defScope t_Table_dead_slots) := ⟨rfl, rfl, rfl, by decide +kernel, rfl, by decide +kernel, by decide +kernel⟩
theorem sc_Table_keep : FnScope ["self", "place", "what", "number", "slot"] ["self", "place", "what"] (defScope t_Table_keep) := ⟨rfl, rfl, rfl, by decide +kernel, rfl, by decide +kernel, by decide +kernel⟩
theorem sc_Table_end : FnScope ["self", "place", "part", "command", "following", "old"] ["self", "place", "part", "command", "following"] (defScope t_Table_end) := ⟨rfl, rfl, rfl, by decide +kernel, rfl, by decide +kernel, by decide +kernel⟩
theorem sc_Table_look : FnScope ["self", "number", "undone", "settled"] ["self", "number", "undone", "settled"] (defScope t_Table_look) := ⟨rfl, rfl, rfl, by decide +kernel, rfl, by decide +kernel, by decide +kernel⟩
theorem sc_Table_prune : FnScope ["self", "number", "undone", "settled", "freed", "died"] ["self", "number", "undone", "settled"] (defScope t_Table_prune) := ⟨rfl, rfl, rfl, by decide +kernel, rfl, by decide +kernel, by decide +kernel⟩
theorem sc_Table_free : FnScope ["self", "number", "slots", "undone", "settled", "slot"] ["self", "number", "slots", "undone", "settled"] (defScope t_Table_free) := ⟨rfl, rfl, rfl, by decide +kernel, rfl, by decide +kernel, by decide +kernel⟩
theorem sc_Table_place_for : FnScope ["self", "cells", "instead", "pages", "number", "page"] ["self", "cells", "instead"] (defScope t_Table_place_for) := ⟨rfl, rfl, rfl, by decide +kernel, rfl, by decide +kernel, by decide +kernel⟩
theorem sc_Table_placing : FnScope ["self", "place", "cells", "keeps_keys", "undone", "settled", "page", "number", "lacks"] ["self", "place", "cells", "keeps_keys", "undone", "settled"] (defScope t_Table_placing) := ⟨rfl, rfl, rfl, by decide +kernel, rfl, by decide +kernel, by decide +kernel⟩
theorem sc_Table_newest : FnScope ["self", "place", "ledger", "number", "ender", "first", "here", "owner"] ["self", "place", "ledger", "number"] (defScope t_Table_newest) := ⟨rfl, rfl, rfl, by decide +kernel, rfl, by decide +kernel, by decide +kernel⟩
theorem sc_HeapCursor_init : FnScope ["self", "owner", "part", "snapshot", "many"] ["self", "owner", "part", "snapshot", "many"] (defScope t_HeapCursor_init) := ⟨rfl, rfl, rfl, by decide +kernel, rfl, by decide +kernel, by decide +kernel⟩
theorem sc_HeapCursor_owner : FnScope ["self"] ["self"] (defScope t_HeapCursor_owner) := ⟨rfl, rfl, rfl, by decide +kernel, rfl, by decide +kernel, by decide +kernel⟩
theorem sc_HeapCursor_opened_in : FnScope ["self"] ["self"] (defScope t_HeapCursor_opened_in) := ⟨rfl, rfl, rfl, by decide +kernel, rfl, by decide +kernel, by decide +kernel⟩
theorem sc_HeapCursor_snapshot : FnScope ["self"] ["self"] (defScope t_HeapCursor_snapshot) := ⟨rfl, rfl, rfl, by decide +kernel, rfl, by decide +kernel, by decide +kernel⟩
theorem sc_HeapCursor_told : FnScope ["self"] ["self"] (defScope t_HeapCursor_told) := ⟨rfl, rfl, rfl, by decide +kernel, rfl, by decide +kernel, by decide +kernel⟩
theorem sc_HeapCursor_tell : FnScope ["self", "place", "cells"] ["self", "place", "cells"] (defScope t_HeapCursor_tell) := ⟨rfl, rfl, rfl, by decide +kernel, rfl, by decide +kernel, by decide +kernel⟩
theorem sc_HeapCursor_note_page : FnScope ["self", "table", "undone", "page", "slot", "what"] ["self", "table", "undone"] (defScope t_HeapCursor_note_page) := ⟨rfl, rfl, rfl, by decide +kernel, rfl, by decide +kernel, by decide +kernel⟩
theorem sc_HeapCursor_next : FnScope ["self", "table", "undone", "place", "cells"] ["self", "table", "undone"] (defScope t_HeapCursor_next) := ⟨rfl, rfl, rfl, by decide +kernel, rfl, by decide +kernel, by decide +kernel⟩
theorem sc_Cursor_init : FnScope ["self", "owner", "part", "snapshot"] ["self", "owner", "part", "snapshot"] (defScope t_Cursor_init) := ⟨rfl, rfl, rfl, by decide +kernel, rfl, by decide +kernel, by decide +kernel⟩
theorem sc_Deals_init : FnScope ["self", "columns"] ["self", "columns"] (defScope t_Deals_init) := ⟨rfl, rfl, rfl, by decide +kernel, rfl, by decide +kernel, by decide +kernel⟩
theorem sc_Base_init : FnScope ["self", "columns"] ["self", "columns"] (defScope t_Base_init) := ⟨rfl, rfl, rfl, by decide +kernel, rfl, by decide +kernel, by decide +kernel⟩
theorem sc_Base_close_where : FnScope ["self", "is_meant", "c", "cursor"] ["self", "is_meant"] (defScope t_Base_close_where) := ⟨rfl, rfl, rfl, by decide +kernel, rfl, by decide +kernel, by decide +kernel⟩
theorem sc_Base_finish : FnScope ["self", "t", "state"] ["self", "t", "state"] (defScope t_Base_finish) := ⟨rfl, rfl, rfl, by decide +kernel, rfl, by decide +kernel, by decide +kernel⟩
theorem sc_Base_undone : FnScope ["self"] ["self"] (defScope t_Base_undone) := ⟨rfl, rfl, rfl, by decide +kernel, rfl, by decide +kernel, by decide +kernel⟩
theorem sc_Base_kept : FnScope ["self", "found", "c", "t", "name", "cursor", "snapshot"] ["self"] (defScope t_Base_kept) := ⟨rfl, rfl, rfl, by decide +kernel, rfl, by decide +kernel, by decide +kernel⟩
theorem sc_Base_settled : FnScope ["self", "holder", "snapshot"] ["self"] (defScope t_Base_settled) := ⟨rfl, rfl, rfl, by decide +kernel, rfl, by decide +kernel, by decide +kernel⟩
theorem sc_Base_snapshot_for : FnScope ["self", "t"] ["self", "t"] (defScope t_Base_snapshot_for) := ⟨rfl, rfl, rfl, by decide +kernel, rfl, by decide +kernel, by decide +kernel⟩
theorem sc_Base_cursor_for : FnScope ["self", "t", "way", "bounds", "keys", "index", "some", "noted", "snapshot", "part", "key", "root"] ["self", "t", "way", "bounds", "keys"] (defScope t_Base_cursor_for) := ⟨rfl, rfl, rfl, by decide +kernel, rfl, by decide +kernel, by decide +kernel⟩
theorem sc_Base_cursor : FnScope ["self", "c"] ["self", "c"] (defScope t_Base_cursor) := ⟨rfl, rfl, rfl, by decide +kernel, rfl, by decide +kernel, by decide +kernel⟩
theorem sc_Base_names : FnScope ["self"] ["self"] (defScope t_Base_names) := ⟨rfl, rfl, rfl, by decide +kernel, rfl, by decide +kernel, by decide +kernel⟩
theorem sc_Base_begin : FnScope ["self", "level"] ["self", "level"] (defScope t_Base_begin) := ⟨rfl, rfl, rfl, by decide +kernel, rfl, by decide +kernel, by decide +kernel⟩
theorem sc_Base_save : FnScope ["self", "t"] ["self", "t"] (defScope t_Base_save) := ⟨rfl, rfl, rfl, by decide +kernel, rfl, by decide +kernel, by decide +kernel⟩
theorem sc_Base_undo : FnScope ["self", "t", "part", "gone"] ["self", "t", "part"] (defScope t_Base_undo) := ⟨rfl, rfl, rfl, by decide +kernel, rfl, by decide +kernel, by decide +kernel⟩
theorem sc_Base_commit : FnScope ["self", "t"] ["self", "t"] (defScope t_Base_commit) := ⟨rfl, rfl, rfl, by decide +kernel, rfl, by decide +kernel, by decide +kernel⟩
theorem sc_Base_abort : FnScope ["self", "t"] ["self", "t"] (defScope t_Base_abort) := ⟨rfl, rfl, rfl, by decide +kernel, rfl, by decide +kernel, by decide +kernel⟩
theorem sc_Base_scan : FnScope ["self", "t", "way", "low", "high", "keys", "cursor"] ["self", "t", "way", "low", "high", "keys"] (defScope t_Base_scan) := ⟨rfl, rfl, rfl, by decide +kernel, rfl, by decide +kernel, by decide +kernel⟩
theorem sc_Base_close : FnScope ["self", "c"] ["self", "c"] (defScope t_Base_close) := ⟨rfl, rfl, rfl, by decide +kernel, rfl, by decide +kernel, by decide +kernel⟩
theorem sc_Base_next : FnScope ["self", "c", "cursor"] ["self", "c"] (defScope t_Base_next) := ⟨rfl, rfl, rfl, by decide +kernel, rfl, by decide +kernel, by decide +kernel⟩
theorem sc_Base_read : FnScope ["self", "t", "way", "low", "high", "row", "found", "c"] ["self", "t", "way", "low", "high"] (defScope t_Base_read) := ⟨rfl, rfl, rfl, by decide +kernel, rfl, by decide +kernel, by decide +kernel⟩
theorem sc_Base_writing_names : FnScope ["self", "name"] ["self"] (defScope t_Base_writing_names) := ⟨rfl, rfl, rfl, by decide +kernel, rfl, by decide +kernel, by decide +kernel⟩
theorem sc_Base_refusal : FnScope ["self", "t", "cells", "replaced", "name", "entries", "key", "found"] ["self", "t", "cells", "replaced"] (defScope t_Base_refusal) := ⟨rfl, rfl, rfl, by decide +kernel, rfl, by decide +kernel, by decide +kernel⟩
theorem sc_Base_keep_new : FnScope ["self", "t", "place", "only", "cells", "ledger", "name", "entries"] ["self", "t", "place", "only", "cells"] (defScope t_Base_keep_new) := ⟨rfl, rfl, rfl, by decide +kernel, rfl, by decide +kernel, by decide +kernel⟩
theorem sc_Base_wrote : FnScope ["self", "t"] ["self", "t"] (defScope t_Base_wrote) := ⟨rfl, rfl, rfl, by decide +kernel, rfl, by decide +kernel, by decide +kernel⟩
theorem sc_Base_put : FnScope ["self", "t", "cells", "found", "place"] ["self", "t", "cells"] (defScope t_Base_put) := ⟨rfl, rfl, rfl, by decide +kernel, rfl, by decide +kernel, by decide +kernel⟩
theorem sc_Base_newest : FnScope ["self", "cursor", "word", "what", "first"] ["self", "cursor"] (defScope t_Base_newest) := ⟨rfl, rfl, rfl, by decide +kernel, rfl, by decide +kernel, by decide +kernel⟩
theorem sc_Base_remove : FnScope ["self", "c", "cursor", "found", "ledger", "t"] ["self", "c"] (defScope t_Base_remove) := ⟨rfl, rfl, rfl, by decide +kernel, rfl, by decide +kernel, by decide +kernel⟩
theorem sc_Base_change : FnScope ["self", "c", "changes", "cursor", "found", "before", "cells", "keeps", "refused", "is_pruned", "t", "old", "undone", "settled_now", "place", "only", "index"] ["self", "c", "changes"] (defScope t_Base_change) := ⟨rfl, rfl, rfl, by decide +kernel, rfl, by decide +kernel, by decide +kernel⟩
theorem sc_Base_prune : FnScope ["self", "page"] ["self", "page"] (defScope t_Base_prune) := ⟨rfl, rfl, rfl, by decide +kernel, rfl, by decide +kernel, by decide +kernel⟩
theorem sc_Base_dead_slots : FnScope ["self", "page"] ["self", "page"] (defScope t_Base_dead_slots) := ⟨rfl, rfl, rfl, by decide +kernel, rfl, by decide +kernel, by decide +kernel⟩
theorem sc_Base_free : FnScope ["self", "page", "slots"] ["self", "page", "slots"] (defScope t_Base_free) := ⟨rfl, rfl, rfl, by decide +kernel, rfl, by decide +kernel, by decide +kernel⟩
theorem sc_Base_look_held : FnScope ["self", "index"] ["self"] (defScope t_Base_look_held) := ⟨rfl, rfl, rfl, by decide +kernel, rfl, by decide +kernel, by decide +kernel⟩
theorem sc_Base_vacuum : FnScope ["self", "memory"] ["self", "memory"] (defScope t_Base_vacuum) := ⟨rfl, rfl, rfl, by decide +kernel, rfl, by decide +kernel, by decide +kernel⟩
theorem sc_Base_step : FnScope ["self", "found"] ["self"] (defScope t_Base_step) := ⟨rfl, rfl, rfl, by decide +kernel, rfl, by decide +kernel, by decide +kernel⟩
theorem sc_Base_pages : FnScope ["self"] ["self"] (defScope t_Base_pages) := ⟨rfl, rfl, rfl, by decide +kernel, rfl, by decide +kernel, by decide +kernel⟩
theorem sc_Base_marked : FnScope ["self"] ["self"] (defScope t_Base_marked) := ⟨rfl, rfl, rfl, by decide +kernel, rfl, by decide +kernel, by decide +kernel⟩
theorem sc_Base_image : FnScope ["self", "numbers", "name", "ledger", "rows", "index", "entries", "number"] ["self"] (defScope t_Base_image) := ⟨rfl, rfl, rfl, by decide +kernel, rfl, by decide +kernel, by decide +kernel⟩
theorem sc_Vacuum_init : FnScope ["self", "many", "memory"] ["self", "many", "memory"] (defScope t_Vacuum_init) := ⟨rfl, rfl, rfl, by decide +kernel, rfl, by decide +kernel, by decide +kernel⟩
theorem sc_Vacuum_noted : FnScope ["self", "page", "slot"] ["self"] (defScope t_Vacuum_noted) := ⟨rfl, rfl, rfl, by decide +kernel, rfl, by decide +kernel, by decide +kernel⟩
theorem sc_Vacuum_prune_next : FnScope ["self", "table", "page", "slots"] ["self", "table"] (defScope t_Vacuum_prune_next) := ⟨rfl, rfl, rfl, by decide +kernel, rfl, by decide +kernel, by decide +kernel⟩
theorem sc_Vacuum_name_next : FnScope ["self", "table", "some", "name"] ["self", "table"] (defScope t_Vacuum_name_next) := ⟨rfl, rfl, rfl, by decide +kernel, rfl, by decide +kernel, by decide +kernel⟩
theorem sc_Vacuum_free_next : FnScope ["self", "table", "page", "slots"] ["self", "table"] (defScope t_Vacuum_free_next) := ⟨rfl, rfl, rfl, by decide +kernel, rfl, by decide +kernel, by decide +kernel⟩
theorem sc_Vacuum_step : FnScope ["self", "table", "name"] ["self", "table"] (defScope t_Vacuum_step) := ⟨rfl, rfl, rfl, by decide +kernel, rfl, by decide +kernel, by decide +kernel⟩
theorem sc_law_cells : FnScope ["_law_script", "_law_most", "_law_found", "_law_k", "_law_cell"] ["_law_script", "_law_most"] (defScope t_law_cells) := ⟨rfl, rfl, rfl, by decide +kernel, rfl, by decide +kernel, by decide +kernel⟩
theorem sc_law_box : FnScope ["_law_some", "_law_k", "_law_cell"] ["_law_some", "_law_k"] (defScope t_law_box) := ⟨rfl, rfl, rfl, by decide +kernel, rfl, by decide +kernel, by decide +kernel⟩
theorem sc_law_take : FnScope ["_law_box_here", "_law_below", "_law_far", "_law_once", "_law_twice", "_law_found", "_law_seed"] ["_law_box_here", "_law_below"] (defScope t_law_take) := ⟨rfl, rfl, rfl, by decide +kernel, rfl, by decide +kernel, by decide +kernel⟩
theorem sc_law_of : FnScope ["_law_box_here", "_law_some"] ["_law_box_here", "_law_some"] (defScope t_law_of) := ⟨rfl, rfl, rfl, by decide +kernel, rfl, by decide +kernel, by decide +kernel⟩
theorem sc_law_same : FnScope ["_law_found", "_law_due"] ["_law_found", "_law_due"] (defScope t_law_same) := ⟨rfl, rfl, rfl, by decide +kernel, rfl, by decide +kernel, by decide +kernel⟩
theorem sc_law_done : FnScope ["_law_store", "_law_t", "_law_deed", "_law_c", "_law_row", "_law_told"] ["_law_store", "_law_t", "_law_deed"] (defScope t_law_done) := ⟨rfl, rfl, rfl, by decide +kernel, rfl, by decide +kernel, by decide +kernel⟩
theorem sc_law_drawn : FnScope ["_law_box_here", "_law_rows_so", "_law_fresh", "_law_spot", "_law_worth", "_law_later", "_law_way", "_law_row"] ["_law_box_here", "_law_rows_so", "_law_fresh"] (defScope t_law_drawn) := ⟨rfl, rfl, rfl, by decide +kernel, rfl, by decide +kernel, by decide +kernel⟩
theorem sc_law_session : FnScope ["_law_box_here", "_law_store", "_law_bare", "_law_rows_so", "_law_front", "_law_twin", "_law_k", "_law_here", "_law_t", "_law_is_kept", "_law_turn", "_law_fate", "_law_part", "_law_later", "_law_deed"] ["_law_box_here", "_law_store", "_law_bare", "_law_rows_so", "_law_front"] (defScope t_law_session) := ⟨rfl, rfl, rfl, by decide +kernel, rfl, by decide +kernel, by decide +kernel⟩
theorem sc_law_read_now : FnScope ["_law_store", "_law_t", "_law_row"] ["_law_store"] (defScope t_law_read_now) := ⟨rfl, rfl, rfl, by decide +kernel, rfl, by decide +kernel, by decide +kernel⟩
theorem sc_law_swept : FnScope ["_law_store", "_law_page", "_law_told", "_law_turn"] ["_law_store"] (defScope t_law_swept) := ⟨rfl, rfl, rfl, by decide +kernel, rfl, by decide +kernel, by decide +kernel⟩
theorem sc_law_right : FnScope ["_law_box_here", "_law_turn", "_law_due", "_law_store", "_law_bare", "_law_rows_so", "_law_row"] ["_law_box_here"] (defScope t_law_right) := ⟨rfl, rfl, rfl, by decide +kernel, rfl, by decide +kernel, by decide +kernel⟩
theorem sc_law : FnScope ["_law_script", "_law_cells_here", "_law_k"] ["_law_script"] (defScope t_law) := ⟨rfl, rfl, rfl, by decide +kernel, rfl, by decide +kernel, by decide +kernel⟩
theorem fn_tupled {K : PySem.W.Frag} {mg : Str → Option Value} (T : Tx K mg) : ∃ fd, FunD K "tupled" "tupled" (defArgs t_tupled) (defBody t_tupled) (defScope t_tupled) [] [] (fAd K ("tupled", none)) fd := T.dfn 0 _ rfl
theorem fn_is_number {K : PySem.W.Frag} {mg : Str → Option Value} (T : Tx K mg) : ∃ fd, FunD K "is_number" "is_number" (defArgs t_is_number) (defBody t_is_number) (defScope t_is_number) [] [] (fAd K ("is_number", none)) fd := T.dfn 1 _ rfl
theorem fn_size_of {K : PySem.W.Frag} {mg : Str → Option Value} (T : Tx K mg) : ∃ fd, FunD K "size_of" "size_of" (defArgs t_size_of) (defBody t_size_of) (defScope t_size_of) [] [] (fAd K ("size_of", none)) fd := T.dfn 2 _ rfl
theorem fn_changed {K : PySem.W.Frag} {mg : Str → Option Value} (T : Tx K mg) : ∃ fd, FunD K "changed" "changed" (defArgs t_changed) (defBody t_changed) (defScope t_changed) [] [] (fAd K ("changed", none)) fd := T.dfn 3 _ rfl
theorem fn_is_version {K : PySem.W.Frag} {mg : Str → Option Value} (T : Tx K mg) : ∃ fd, FunD K "is_version" "is_version" (defArgs t_is_version) (defBody t_is_version) (defScope t_is_version) [] [] (fAd K ("is_version", none)) fd := T.dfn 4 _ rfl
theorem fn_is_only {K : PySem.W.Frag} {mg : Str → Option Value} (T : Tx K mg) : ∃ fd, FunD K "is_only" "is_only" (defArgs t_is_only) (defBody t_is_only) (defScope t_is_only) [] [] (fAd K ("is_only", none)) fd := T.dfn 5 _ rfl
theorem fn_first_in {K : PySem.W.Frag} {mg : Str → Option Value} (T : Tx K mg) : ∃ fd, FunD K "first_in" "first_in" (defArgs t_first_in) (defBody t_first_in) (defScope t_first_in) [] [] (fAd K ("first_in", none)) fd := T.dfn 6 _ rfl
theorem fn_follower {K : PySem.W.Frag} {mg : Str → Option Value} (T : Tx K mg) : ∃ fd, FunD K "follower" "follower" (defArgs t_follower) (defBody t_follower) (defScope t_follower) [] [] (fAd K ("follower", none)) fd := T.dfn 7 _ rfl
theorem fn_chain {K : PySem.W.Frag} {mg : Str → Option Value} (T : Tx K mg) : ∃ fd, FunD K "chain" "chain" (defArgs t_chain) (defBody t_chain) (defScope t_chain) [] [] (fAd K ("chain", none)) fd := T.dfn 8 _ rfl
theorem fn_room {K : PySem.W.Frag} {mg : Str → Option Value} (T : Tx K mg) : ∃ fd, FunD K "room" "room" (defArgs t_room) (defBody t_room) (defScope t_room) [] [] (fAd K ("room", none)) fd := T.dfn 9 _ rfl
theorem fn_free_slot {K : PySem.W.Frag} {mg : Str → Option Value} (T : Tx K mg) : ∃ fd, FunD K "free_slot" "free_slot" (defArgs t_free_slot) (defBody t_free_slot) (defScope t_free_slot) [] [] (fAd K ("free_slot", none)) fd := T.dfn 10 _ rfl
theorem fn_fits {K : PySem.W.Frag} {mg : Str → Option Value} (T : Tx K mg) : ∃ fd, FunD K "fits" "fits" (defArgs t_fits) (defBody t_fits) (defScope t_fits) [] [] (fAd K ("fits", none)) fd := T.dfn 11 _ rfl
theorem fn_is_dead {K : PySem.W.Frag} {mg : Str → Option Value} (T : Tx K mg) : ∃ fd, FunD K "is_dead" "is_dead" (defArgs t_is_dead) (defBody t_is_dead) (defScope t_is_dead) [] [] (fAd K ("is_dead", none)) fd := T.dfn 12 _ rfl
theorem fn_dead_ahead {K : PySem.W.Frag} {mg : Str → Option Value} (T : Tx K mg) : ∃ fd, FunD K "dead_ahead" "dead_ahead" (defArgs t_dead_ahead) (defBody t_dead_ahead) (defScope t_dead_ahead) [] [] (fAd K ("dead_ahead", none)) fd := T.dfn 13 _ rfl
theorem fn_pruned {K : PySem.W.Frag} {mg : Str → Option Value} (T : Tx K mg) : ∃ fd, FunD K "pruned" "pruned" (defArgs t_pruned) (defBody t_pruned) (defScope t_pruned) [] [] (fAd K ("pruned", none)) fd := T.dfn 14 _ rfl
theorem fn_is_seen_by_all {K : PySem.W.Frag} {mg : Str → Option Value} (T : Tx K mg) : ∃ fd, FunD K "is_seen_by_all" "is_seen_by_all" (defArgs t_is_seen_by_all) (defBody t_is_seen_by_all) (defScope t_is_seen_by_all) [] [] (fAd K ("is_seen_by_all", none)) fd := T.dfn 15 _ rfl
theorem fn_is_clear {K : PySem.W.Frag} {mg : Str → Option Value} (T : Tx K mg) : ∃ fd, FunD K "is_clear" "is_clear" (defArgs t_is_clear) (defBody t_is_clear) (defScope t_is_clear) [] [] (fAd K ("is_clear", none)) fd := T.dfn 16 _ rfl
theorem fn_counts {K : PySem.W.Frag} {mg : Str → Option Value} (T : Tx K mg) : ∃ fd, FunD K "counts" "counts" (defArgs t_counts) (defBody t_counts) (defScope t_counts) [] [] (fAd K ("counts", none)) fd := T.dfn 17 _ rfl
theorem fn_sees {K : PySem.W.Frag} {mg : Str → Option Value} (T : Tx K mg) : ∃ fd, FunD K "sees" "sees" (defArgs t_sees) (defBody t_sees) (defScope t_sees) [] [] (fAd K ("sees", none)) fd := T.dfn 18 _ rfl
theorem fn_is_past {K : PySem.W.Frag} {mg : Str → Option Value} (T : Tx K mg) : ∃ fd, FunD K "is_past" "is_past" (defArgs t_is_past) (defBody t_is_past) (defScope t_is_past) [] [] (fAd K ("is_past", none)) fd := T.dfn 19 _ rfl
theorem fn_settled {K : PySem.W.Frag} {mg : Str → Option Value} (T : Tx K mg) : ∃ fd, FunD K "settled" "settled" (defArgs t_settled) (defBody t_settled) (defScope t_settled) [] [] (fAd K ("settled_sight", none)) fd := T.dfn 20 _ rfl
theorem fn_version_of {K : PySem.W.Frag} {mg : Str → Option Value} (T : Tx K mg) : ∃ fd, FunD K "version_of" "version_of" (defArgs t_version_of) (defBody t_version_of) (defScope t_version_of) [] [] (fAd K ("version_of", none)) fd := T.dfn 21 _ rfl
theorem fn_with_slot {K : PySem.W.Frag} {mg : Str → Option Value} (T : Tx K mg) : ∃ fd, FunD K "with_slot" "with_slot" (defArgs t_with_slot) (defBody t_with_slot) (defScope t_with_slot) [] [] (fAd K ("with_slot", none)) fd := T.dfn 22 _ rfl
theorem fn_Deal_init {K : PySem.W.Frag} {mg : Str → Option Value} (T : Tx K mg) : ∃ fd, FunD K "__init__" "Deal.__init__" (defArgs t_Deal_init) (defBody t_Deal_init) (defScope t_Deal_init) [] [] (fAd K ("Deal", some "__init__")) fd := T.dfn 23 _ rfl
theorem fn_Ledger_init {K : PySem.W.Frag} {mg : Str → Option Value} (T : Tx K mg) : ∃ fd, FunD K "__init__" "Ledger.__init__" (defArgs t_Ledger_init) (defBody t_Ledger_init) (defScope t_Ledger_init) [] [] (fAd K ("Ledger", some "__init__")) fd := T.dfn 24 _ rfl
theorem fn_Ledger_following {K : PySem.W.Frag} {mg : Str → Option Value} (T : Tx K mg) : ∃ fd, FunD K "following" "Ledger.following" (defArgs t_Ledger_following) (defBody t_Ledger_following) (defScope t_Ledger_following) [] [] (fAd K ("Ledger", some "following")) fd := T.dfn 25 _ rfl
theorem fn_Ledger_take_number {K : PySem.W.Frag} {mg : Str → Option Value} (T : Tx K mg) : ∃ fd, FunD K "take_number" "Ledger.take_number" (defArgs t_Ledger_take_number) (defBody t_Ledger_take_number) (defScope t_Ledger_take_number) [.non] [] (fAd K ("Ledger", some "take_number")) fd := T.dfn 26 _ rfl
theorem fn_Ledger_owner_of {K : PySem.W.Frag} {mg : Str → Option Value} (T : Tx K mg) : ∃ fd, FunD K "owner_of" "Ledger.owner_of" (defArgs t_Ledger_owner_of) (defBody t_Ledger_owner_of) (defScope t_Ledger_owner_of) [] [] (fAd K ("Ledger", some "owner_of")) fd := T.dfn 27 _ rfl
theorem fn_Ledger_look_running {K : PySem.W.Frag} {mg : Str → Option Value} (T : Tx K mg) : ∃ fd, FunD K "look_running" "Ledger.look_running" (defArgs t_Ledger_look_running) (defBody t_Ledger_look_running) (defScope t_Ledger_look_running) [] [] (fAd K ("Ledger", some "look_running")) fd := T.dfn 28 _ rfl
theorem fn_Ledger_begin {K : PySem.W.Frag} {mg : Str → Option Value} (T : Tx K mg) : ∃ fd, FunD K "begin" "Ledger.begin" (defArgs t_Ledger_begin) (defBody t_Ledger_begin) (defScope t_Ledger_begin) [] [] (fAd K ("Ledger", some "begin")) fd := T.dfn 29 _ rfl
theorem fn_Ledger_save {K : PySem.W.Frag} {mg : Str → Option Value} (T : Tx K mg) : ∃ fd, FunD K "save" "Ledger.save" (defArgs t_Ledger_save) (defBody t_Ledger_save) (defScope t_Ledger_save) [] [] (fAd K ("Ledger", some "save")) fd := T.dfn 30 _ rfl
theorem fn_Ledger_undo {K : PySem.W.Frag} {mg : Str → Option Value} (T : Tx K mg) : ∃ fd, FunD K "undo" "Ledger.undo" (defArgs t_Ledger_undo) (defBody t_Ledger_undo) (defScope t_Ledger_undo) [] [] (fAd K ("Ledger", some "undo")) fd := T.dfn 31 _ rfl
theorem fn_Ledger_running_parts {K : PySem.W.Frag} {mg : Str → Option Value} (T : Tx K mg) : ∃ fd, FunD K "running_parts" "Ledger.running_parts" (defArgs t_Ledger_running_parts) (defBody t_Ledger_running_parts) (defScope t_Ledger_running_parts) [] [] (fAd K ("Ledger", some "running_parts")) fd := T.dfn 32 _ rfl
theorem fn_Ledger_enter {K : PySem.W.Frag} {mg : Str → Option Value} (T : Tx K mg) : ∃ fd, FunD K "enter" "Ledger.enter" (defArgs t_Ledger_enter) (defBody t_Ledger_enter) (defScope t_Ledger_enter) [] [] (fAd K ("Ledger", some "enter")) fd := T.dfn 33 _ rfl
theorem fn_Ledger_finish {K : PySem.W.Frag} {mg : Str → Option Value} (T : Tx K mg) : ∃ fd, FunD K "finish" "Ledger.finish" (defArgs t_Ledger_finish) (defBody t_Ledger_finish) (defScope t_Ledger_finish) [] [] (fAd K ("Ledger", some "finish")) fd := T.dfn 34 _ rfl
theorem fn_Ledger_state {K : PySem.W.Frag} {mg : Str → Option Value} (T : Tx K mg) : ∃ fd, FunD K "state" "Ledger.state" (defArgs t_Ledger_state) (defBody t_Ledger_state) (defScope t_Ledger_state) [] [] (fAd K ("Ledger", some "state")) fd := T.dfn 35 _ rfl
theorem fn_Ledger_with_state {K : PySem.W.Frag} {mg : Str → Option Value} (T : Tx K mg) : ∃ fd, FunD K "with_state" "Ledger.with_state" (defArgs t_Ledger_with_state) (defBody t_Ledger_with_state) (defScope t_Ledger_with_state) [] [] (fAd K ("Ledger", some "with_state")) fd := T.dfn 36 _ rfl
theorem fn_Ledger_undone {K : PySem.W.Frag} {mg : Str → Option Value} (T : Tx K mg) : ∃ fd, FunD K "undone" "Ledger.undone" (defArgs t_Ledger_undone) (defBody t_Ledger_undone) (defScope t_Ledger_undone) [] [] (fAd K ("Ledger", some "undone")) fd := T.dfn 37 _ rfl
theorem fn_Ledger_committed {K : PySem.W.Frag} {mg : Str → Option Value} (T : Tx K mg) : ∃ fd, FunD K "committed" "Ledger.committed" (defArgs t_Ledger_committed) (defBody t_Ledger_committed) (defScope t_Ledger_committed) [] [] (fAd K ("Ledger", some "committed")) fd := T.dfn 38 _ rfl
theorem fn_Ledger_running {K : PySem.W.Frag} {mg : Str → Option Value} (T : Tx K mg) : ∃ fd, FunD K "running" "Ledger.running" (defArgs t_Ledger_running) (defBody t_Ledger_running) (defScope t_Ledger_running) [] [] (fAd K ("Ledger", some "running")) fd := T.dfn 39 _ rfl
theorem fn_Ledger_running_beside {K : PySem.W.Frag} {mg : Str → Option Value} (T : Tx K mg) : ∃ fd, FunD K "running_beside" "Ledger.running_beside" (defArgs t_Ledger_running_beside) (defBody t_Ledger_running_beside) (defScope t_Ledger_running_beside) [] [] (fAd K ("Ledger", some "running_beside")) fd := T.dfn 40 _ rfl
theorem fn_Ledger_parts {K : PySem.W.Frag} {mg : Str → Option Value} (T : Tx K mg) : ∃ fd, FunD K "parts" "Ledger.parts" (defArgs t_Ledger_parts) (defBody t_Ledger_parts) (defScope t_Ledger_parts) [] [] (fAd K ("Ledger", some "parts")) fd := T.dfn 41 _ rfl
theorem fn_Ledger_working {K : PySem.W.Frag} {mg : Str → Option Value} (T : Tx K mg) : ∃ fd, FunD K "working" "Ledger.working" (defArgs t_Ledger_working) (defBody t_Ledger_working) (defScope t_Ledger_working) [] [] (fAd K ("Ledger", some "working")) fd := T.dfn 42 _ rfl
theorem fn_Ledger_level {K : PySem.W.Frag} {mg : Str → Option Value} (T : Tx K mg) : ∃ fd, FunD K "level" "Ledger.level" (defArgs t_Ledger_level) (defBody t_Ledger_level) (defScope t_Ledger_level) [] [] (fAd K ("Ledger", some "level")) fd := T.dfn 43 _ rfl
theorem fn_Ledger_command {K : PySem.W.Frag} {mg : Str → Option Value} (T : Tx K mg) : ∃ fd, FunD K "command" "Ledger.command" (defArgs t_Ledger_command) (defBody t_Ledger_command) (defScope t_Ledger_command) [] [] (fAd K ("Ledger", some "command")) fd := T.dfn 44 _ rfl
theorem fn_Ledger_stepped {K : PySem.W.Frag} {mg : Str → Option Value} (T : Tx K mg) : ∃ fd, FunD K "stepped" "Ledger.stepped" (defArgs t_Ledger_stepped) (defBody t_Ledger_stepped) (defScope t_Ledger_stepped) [] [] (fAd K ("Ledger", some "stepped")) fd := T.dfn 45 _ rfl
theorem fn_Ledger_snapshot_now {K : PySem.W.Frag} {mg : Str → Option Value} (T : Tx K mg) : ∃ fd, FunD K "snapshot_now" "Ledger.snapshot_now" (defArgs t_Ledger_snapshot_now) (defBody t_Ledger_snapshot_now) (defScope t_Ledger_snapshot_now) [.non] [] (fAd K ("Ledger", some "snapshot_now")) fd := T.dfn 46 _ rfl
theorem fn_Table_init {K : PySem.W.Frag} {mg : Str → Option Value} (T : Tx K mg) : ∃ fd, FunD K "__init__" "Table.__init__" (defArgs t_Table_init) (defBody t_Table_init) (defScope t_Table_init) [] [] (fAd K ("Table", some "__init__")) fd := T.dfn 47 _ rfl
theorem fn_Table_pages {K : PySem.W.Frag} {mg : Str → Option Value} (T : Tx K mg) : ∃ fd, FunD K "pages" "Table.pages" (defArgs t_Table_pages) (defBody t_Table_pages) (defScope t_Table_pages) [] [] (fAd K ("Table", some "pages")) fd := T.dfn 48 _ rfl
theorem fn_Table_many {K : PySem.W.Frag} {mg : Str → Option Value} (T : Tx K mg) : ∃ fd, FunD K "many" "Table.many" (defArgs t_Table_many) (defBody t_Table_many) (defScope t_Table_many) [] [] (fAd K ("Table", some "many")) fd := T.dfn 49 _ rfl
theorem fn_Table_page {K : PySem.W.Frag} {mg : Str → Option Value} (T : Tx K mg) : ∃ fd, FunD K "page" "Table.page" (defArgs t_Table_page) (defBody t_Table_page) (defScope t_Table_page) [] [] (fAd K ("Table", some "page")) fd := T.dfn 50 _ rfl
theorem fn_Table_slot {K : PySem.W.Frag} {mg : Str → Option Value} (T : Tx K mg) : ∃ fd, FunD K "slot" "Table.slot" (defArgs t_Table_slot) (defBody t_Table_slot) (defScope t_Table_slot) [] [] (fAd K ("Table", some "slot")) fd := T.dfn 51 _ rfl
theorem fn_Table_marked {K : PySem.W.Frag} {mg : Str → Option Value} (T : Tx K mg) : ∃ fd, FunD K "marked" "Table.marked" (defArgs t_Table_marked) (defBody t_Table_marked) (defScope t_Table_marked) [] [] (fAd K ("Table", some "marked")) fd := T.dfn 52 _ rfl
theorem fn_Table_dead_slots {K : PySem.W.Frag} {mg : Str → Option Value} (T : Tx K mg) : ∃ fd, FunD K "dead_slots" "Table.dead_slots" (defArgs t_Table_dead_slots) (defBody t_Table_dead_slots) (defScope t_Table_dead_slots) [] [] (fAd K ("Table", some "dead_slots")) fd := T.dfn 53 _ rfl
theorem fn_Table_keep {K : PySem.W.Frag} {mg : Str → Option Value} (T : Tx K mg) : ∃ fd, FunD K "keep" "Table.keep" (defArgs t_Table_keep) (defBody t_Table_keep) (defScope t_Table_keep) [] [] (fAd K ("Table", some "keep")) fd := T.dfn 54 _ rfl
theorem fn_Table_end {K : PySem.W.Frag} {mg : Str → Option Value} (T : Tx K mg) : ∃ fd, FunD K "end" "Table.end" (defArgs t_Table_end) (defBody t_Table_end) (defScope t_Table_end) [] [] (fAd K ("Table", some "end")) fd := T.dfn 55 _ rfl
theorem fn_Table_look {K : PySem.W.Frag} {mg : Str → Option Value} (T : Tx K mg) : ∃ fd, FunD K "look" "Table.look" (defArgs t_Table_look) (defBody t_Table_look) (defScope t_Table_look) [] [] (fAd K ("Table", some "look")) fd := T.dfn 56 _ rfl
theorem fn_Table_prune {K : PySem.W.Frag} {mg : Str → Option Value} (T : Tx K mg) : ∃ fd, FunD K "prune" "Table.prune" (defArgs t_Table_prune) (defBody t_Table_prune) (defScope t_Table_prune) [] [] (fAd K ("Table", some "prune")) fd := T.dfn 57 _ rfl
theorem fn_Table_free {K : PySem.W.Frag} {mg : Str → Option Value} (T : Tx K mg) : ∃ fd, FunD K "free" "Table.free" (defArgs t_Table_free) (defBody t_Table_free) (defScope t_Table_free) [] [] (fAd K ("Table", some "free")) fd := T.dfn 58 _ rfl
theorem fn_Table_place_for {K : PySem.W.Frag} {mg : Str → Option Value} (T : Tx K mg) : ∃ fd, FunD K "place_for" "Table.place_for" (defArgs t_Table_place_for) (defBody t_Table_place_for) (defScope t_Table_place_for) [.non] [] (fAd K ("Table", some "place_for")) fd := T.dfn 59 _ rfl
theorem fn_Table_placing {K : PySem.W.Frag} {mg : Str → Option Value} (T : Tx K mg) : ∃ fd, FunD K "placing" "Table.placing" (defArgs t_Table_placing) (defBody t_Table_placing) (defScope t_Table_placing) [] [] (fAd K ("Table", some "placing")) fd := T.dfn 60 _ rfl
theorem fn_Table_newest {K : PySem.W.Frag} {mg : Str → Option Value} (T : Tx K mg) : ∃ fd, FunD K "newest" "Table.newest" (defArgs t_Table_newest) (defBody t_Table_newest) (defScope t_Table_newest) [] [] (fAd K ("Table", some "newest")) fd := T.dfn 61 _ rfl
theorem fn_HeapCursor_init {K : PySem.W.Frag} {mg : Str → Option Value} (T : Tx K mg) : ∃ fd, FunD K "__init__" "HeapCursor.__init__" (defArgs t_HeapCursor_init) (defBody t_HeapCursor_init) (defScope t_HeapCursor_init) [] [] (fAd K ("HeapCursor", some "__init__")) fd := T.dfn 62 _ rfl
theorem fn_HeapCursor_owner {K : PySem.W.Frag} {mg : Str → Option Value} (T : Tx K mg) : ∃ fd, FunD K "owner" "Cursor.owner" (defArgs t_HeapCursor_owner) (defBody t_HeapCursor_owner) (defScope t_HeapCursor_owner) [] [] (fAd K ("HeapCursor", some "owner")) fd := T.dfn 63 _ rfl
theorem fn_HeapCursor_opened_in {K : PySem.W.Frag} {mg : Str → Option Value} (T : Tx K mg) : ∃ fd, FunD K "opened_in" "Cursor.opened_in" (defArgs t_HeapCursor_opened_in) (defBody t_HeapCursor_opened_in) (defScope t_HeapCursor_opened_in) [] [] (fAd K ("HeapCursor", some "opened_in")) fd := T.dfn 64 _ rfl
theorem fn_HeapCursor_snapshot {K : PySem.W.Frag} {mg : Str → Option Value} (T : Tx K mg) : ∃ fd, FunD K "snapshot" "Cursor.snapshot" (defArgs t_HeapCursor_snapshot) (defBody t_HeapCursor_snapshot) (defScope t_HeapCursor_snapshot) [] [] (fAd K ("HeapCursor", some "snapshot")) fd := T.dfn 65 _ rfl
theorem fn_HeapCursor_told {K : PySem.W.Frag} {mg : Str → Option Value} (T : Tx K mg) : ∃ fd, FunD K "told" "Cursor.told" (defArgs t_HeapCursor_told) (defBody t_HeapCursor_told) (defScope t_HeapCursor_told) [] [] (fAd K ("HeapCursor", some "told")) fd := T.dfn 66 _ rfl
theorem fn_HeapCursor_tell {K : PySem.W.Frag} {mg : Str → Option Value} (T : Tx K mg) : ∃ fd, FunD K "tell" "Cursor.tell" (defArgs t_HeapCursor_tell) (defBody t_HeapCursor_tell) (defScope t_HeapCursor_tell) [] [] (fAd K ("HeapCursor", some "tell")) fd := T.dfn 67 _ rfl
theorem fn_HeapCursor_note_page {K : PySem.W.Frag} {mg : Str → Option Value} (T : Tx K mg) : ∃ fd, FunD K "note_page" "HeapCursor.note_page" (defArgs t_HeapCursor_note_page) (defBody t_HeapCursor_note_page) (defScope t_HeapCursor_note_page) [] [] (fAd K ("HeapCursor", some "note_page")) fd := T.dfn 68 _ rfl
theorem fn_HeapCursor_next {K : PySem.W.Frag} {mg : Str → Option Value} (T : Tx K mg) : ∃ fd, FunD K "next" "HeapCursor.next" (defArgs t_HeapCursor_next) (defBody t_HeapCursor_next) (defScope t_HeapCursor_next) [] [] (fAd K ("HeapCursor", some "next")) fd := T.dfn 69 _ rfl
theorem fn_Cursor_init {K : PySem.W.Frag} {mg : Str → Option Value} (T : Tx K mg) : ∃ fd, FunD K "__init__" "Cursor.__init__" (defArgs t_Cursor_init) (defBody t_Cursor_init) (defScope t_Cursor_init) [] [] (fAd K ("Cursor", some "__init__")) fd := T.dfn 70 _ rfl
theorem fn_Deals_init {K : PySem.W.Frag} {mg : Str → Option Value} (T : Tx K mg) : ∃ fd, FunD K "__init__" "Deals.__init__" (defArgs t_Deals_init) (defBody t_Deals_init) (defScope t_Deals_init) [] [] (fAd K ("Deals", some "__init__")) fd := T.dfn 71 _ rfl
theorem fn_Base_init {K : PySem.W.Frag} {mg : Str → Option Value} (T : Tx K mg) : ∃ fd, FunD K "__init__" "Base.__init__" (defArgs t_Base_init) (defBody t_Base_init) (defScope t_Base_init) [] [] (fAd K ("Base", some "__init__")) fd := T.dfn 72 _ rfl
theorem fn_Base_close_where {K : PySem.W.Frag} {mg : Str → Option Value} (T : Tx K mg) : ∃ fd, FunD K "close_where" "Deals.close_where" (defArgs t_Base_close_where) (defBody t_Base_close_where) (defScope t_Base_close_where) [] [] (fAd K ("Base", some "close_where")) fd := T.dfn 73 _ rfl
theorem fn_Base_finish {K : PySem.W.Frag} {mg : Str → Option Value} (T : Tx K mg) : ∃ fd, FunD K "finish" "Deals.finish" (defArgs t_Base_finish) (defBody t_Base_finish) (defScope t_Base_finish) [] [] (fAd K ("Base", some "finish")) fd := T.dfn 74 _ rfl
theorem fn_Base_undone {K : PySem.W.Frag} {mg : Str → Option Value} (T : Tx K mg) : ∃ fd, FunD K "undone" "Deals.undone" (defArgs t_Base_undone) (defBody t_Base_undone) (defScope t_Base_undone) [] [] (fAd K ("Base", some "undone")) fd := T.dfn 75 _ rfl
theorem fn_Base_kept {K : PySem.W.Frag} {mg : Str → Option Value} (T : Tx K mg) : ∃ fd, FunD K "kept" "Deals.kept" (defArgs t_Base_kept) (defBody t_Base_kept) (defScope t_Base_kept) [] [] (fAd K ("Base", some "kept")) fd := T.dfn 76 _ rfl
theorem fn_Base_settled {K : PySem.W.Frag} {mg : Str → Option Value} (T : Tx K mg) : ∃ fd, FunD K "settled" "Deals.settled" (defArgs t_Base_settled) (defBody t_Base_settled) (defScope t_Base_settled) [] [] (fAd K ("Base", some "settled")) fd := T.dfn 77 _ rfl
theorem fn_Base_snapshot_for {K : PySem.W.Frag} {mg : Str → Option Value} (T : Tx K mg) : ∃ fd, FunD K "snapshot_for" "Deals.snapshot_for" (defArgs t_Base_snapshot_for) (defBody t_Base_snapshot_for) (defScope t_Base_snapshot_for) [] [] (fAd K ("Base", some "snapshot_for")) fd := T.dfn 78 _ rfl
theorem fn_Base_cursor_for {K : PySem.W.Frag} {mg : Str → Option Value} (T : Tx K mg) : ∃ fd, FunD K "cursor_for" "Deals.cursor_for" (defArgs t_Base_cursor_for) (defBody t_Base_cursor_for) (defScope t_Base_cursor_for) [] [] (fAd K ("Base", some "cursor_for")) fd := T.dfn 79 _ rfl
theorem fn_Base_cursor {K : PySem.W.Frag} {mg : Str → Option Value} (T : Tx K mg) : ∃ fd, FunD K "cursor" "Deals.cursor" (defArgs t_Base_cursor) (defBody t_Base_cursor) (defScope t_Base_cursor) [] [] (fAd K ("Base", some "cursor")) fd := T.dfn 80 _ rfl
theorem fn_Base_names {K : PySem.W.Frag} {mg : Str → Option Value} (T : Tx K mg) : ∃ fd, FunD K "names" "Deals.names" (defArgs t_Base_names) (defBody t_Base_names) (defScope t_Base_names) [] [] (fAd K ("Base", some "names")) fd := T.dfn 81 _ rfl
theorem fn_Base_begin {K : PySem.W.Frag} {mg : Str → Option Value} (T : Tx K mg) : ∃ fd, FunD K "begin" "Base.begin" (defArgs t_Base_begin) (defBody t_Base_begin) (defScope t_Base_begin) [.str "each"] [] (fAd K ("Base", some "begin")) fd := T.dfn 82 _ rfl
theorem fn_Base_save {K : PySem.W.Frag} {mg : Str → Option Value} (T : Tx K mg) : ∃ fd, FunD K "save" "Base.save" (defArgs t_Base_save) (defBody t_Base_save) (defScope t_Base_save) [] [] (fAd K ("Base", some "save")) fd := T.dfn 83 _ rfl
theorem fn_Base_undo {K : PySem.W.Frag} {mg : Str → Option Value} (T : Tx K mg) : ∃ fd, FunD K "undo" "Base.undo" (defArgs t_Base_undo) (defBody t_Base_undo) (defScope t_Base_undo) [] [] (fAd K ("Base", some "undo")) fd := T.dfn 84 _ rfl
theorem fn_Base_commit {K : PySem.W.Frag} {mg : Str → Option Value} (T : Tx K mg) : ∃ fd, FunD K "commit" "Base.commit" (defArgs t_Base_commit) (defBody t_Base_commit) (defScope t_Base_commit) [] [] (fAd K ("Base", some "commit")) fd := T.dfn 85 _ rfl
theorem fn_Base_abort {K : PySem.W.Frag} {mg : Str → Option Value} (T : Tx K mg) : ∃ fd, FunD K "abort" "Base.abort" (defArgs t_Base_abort) (defBody t_Base_abort) (defScope t_Base_abort) [] [] (fAd K ("Base", some "abort")) fd := T.dfn 86 _ rfl
theorem fn_Base_scan {K : PySem.W.Frag} {mg : Str → Option Value} (T : Tx K mg) : ∃ fd, FunD K "scan" "Base.scan" (defArgs t_Base_scan) (defBody t_Base_scan) (defScope t_Base_scan) [.str "heap", .non, .non, .bl false] [] (fAd K ("Base", some "scan")) fd := T.dfn 87 _ rfl
theorem fn_Base_close {K : PySem.W.Frag} {mg : Str → Option Value} (T : Tx K mg) : ∃ fd, FunD K "close" "Base.close" (defArgs t_Base_close) (defBody t_Base_close) (defScope t_Base_close) [] [] (fAd K ("Base", some "close")) fd := T.dfn 88 _ rfl
theorem fn_Base_next {K : PySem.W.Frag} {mg : Str → Option Value} (T : Tx K mg) : ∃ fd, FunD K "next" "Base.next" (defArgs t_Base_next) (defBody t_Base_next) (defScope t_Base_next) [] [] (fAd K ("Base", some "next")) fd := T.dfn 89 _ rfl
theorem fn_Base_read {K : PySem.W.Frag} {mg : Str → Option Value} (T : Tx K mg) : ∃ fd, FunD K "read" "Base.read" (defArgs t_Base_read) (defBody t_Base_read) (defScope t_Base_read) [.str "heap", .non, .non] [] (fAd K ("Base", some "read")) fd := T.dfn 90 _ rfl
theorem fn_Base_writing_names {K : PySem.W.Frag} {mg : Str → Option Value} (T : Tx K mg) : ∃ fd, FunD K "writing_names" "Base.writing_names" (defArgs t_Base_writing_names) (defBody t_Base_writing_names) (defScope t_Base_writing_names) [] [] (fAd K ("Base", some "writing_names")) fd := T.dfn 91 _ rfl
theorem fn_Base_refusal {K : PySem.W.Frag} {mg : Str → Option Value} (T : Tx K mg) : ∃ fd, FunD K "refusal" "Base.refusal" (defArgs t_Base_refusal) (defBody t_Base_refusal) (defScope t_Base_refusal) [.non] [] (fAd K ("Base", some "refusal")) fd := T.dfn 92 _ rfl
theorem fn_Base_keep_new {K : PySem.W.Frag} {mg : Str → Option Value} (T : Tx K mg) : ∃ fd, FunD K "keep_new" "Base.keep_new" (defArgs t_Base_keep_new) (defBody t_Base_keep_new) (defScope t_Base_keep_new) [] [] (fAd K ("Base", some "keep_new")) fd := T.dfn 93 _ rfl
theorem fn_Base_wrote {K : PySem.W.Frag} {mg : Str → Option Value} (T : Tx K mg) : ∃ fd, FunD K "wrote" "Base.wrote" (defArgs t_Base_wrote) (defBody t_Base_wrote) (defScope t_Base_wrote) [] [] (fAd K ("Base", some "wrote")) fd := T.dfn 94 _ rfl
theorem fn_Base_put {K : PySem.W.Frag} {mg : Str → Option Value} (T : Tx K mg) : ∃ fd, FunD K "put" "Base.put" (defArgs t_Base_put) (defBody t_Base_put) (defScope t_Base_put) [] [] (fAd K ("Base", some "put")) fd := T.dfn 95 _ rfl
theorem fn_Base_newest {K : PySem.W.Frag} {mg : Str → Option Value} (T : Tx K mg) : ∃ fd, FunD K "newest" "Base.newest" (defArgs t_Base_newest) (defBody t_Base_newest) (defScope t_Base_newest) [] [] (fAd K ("Base", some "newest")) fd := T.dfn 96 _ rfl
theorem fn_Base_remove {K : PySem.W.Frag} {mg : Str → Option Value} (T : Tx K mg) : ∃ fd, FunD K "remove" "Base.remove" (defArgs t_Base_remove) (defBody t_Base_remove) (defScope t_Base_remove) [] [] (fAd K ("Base", some "remove")) fd := T.dfn 97 _ rfl
theorem fn_Base_change {K : PySem.W.Frag} {mg : Str → Option Value} (T : Tx K mg) : ∃ fd, FunD K "change" "Base.change" (defArgs t_Base_change) (defBody t_Base_change) (defScope t_Base_change) [] [] (fAd K ("Base", some "change")) fd := T.dfn 98 _ rfl
theorem fn_Base_prune {K : PySem.W.Frag} {mg : Str → Option Value} (T : Tx K mg) : ∃ fd, FunD K "prune" "Base.prune" (defArgs t_Base_prune) (defBody t_Base_prune) (defScope t_Base_prune) [] [] (fAd K ("Base", some "prune")) fd := T.dfn 99 _ rfl
theorem fn_Base_dead_slots {K : PySem.W.Frag} {mg : Str → Option Value} (T : Tx K mg) : ∃ fd, FunD K "dead_slots" "Base.dead_slots" (defArgs t_Base_dead_slots) (defBody t_Base_dead_slots) (defScope t_Base_dead_slots) [] [] (fAd K ("Base", some "dead_slots")) fd := T.dfn 100 _ rfl
theorem fn_Base_free {K : PySem.W.Frag} {mg : Str → Option Value} (T : Tx K mg) : ∃ fd, FunD K "free" "Base.free" (defArgs t_Base_free) (defBody t_Base_free) (defScope t_Base_free) [] [] (fAd K ("Base", some "free")) fd := T.dfn 101 _ rfl
theorem fn_Base_look_held {K : PySem.W.Frag} {mg : Str → Option Value} (T : Tx K mg) : ∃ fd, FunD K "look_held" "Base.look_held" (defArgs t_Base_look_held) (defBody t_Base_look_held) (defScope t_Base_look_held) [] [] (fAd K ("Base", some "look_held")) fd := T.dfn 102 _ rfl
theorem fn_Base_vacuum {K : PySem.W.Frag} {mg : Str → Option Value} (T : Tx K mg) : ∃ fd, FunD K "vacuum" "Base.vacuum" (defArgs t_Base_vacuum) (defBody t_Base_vacuum) (defScope t_Base_vacuum) [.int 4] [] (fAd K ("Base", some "vacuum")) fd := T.dfn 103 _ rfl
theorem fn_Base_step {K : PySem.W.Frag} {mg : Str → Option Value} (T : Tx K mg) : ∃ fd, FunD K "step" "Base.step" (defArgs t_Base_step) (defBody t_Base_step) (defScope t_Base_step) [] [] (fAd K ("Base", some "step")) fd := T.dfn 104 _ rfl
theorem fn_Base_pages {K : PySem.W.Frag} {mg : Str → Option Value} (T : Tx K mg) : ∃ fd, FunD K "pages" "Base.pages" (defArgs t_Base_pages) (defBody t_Base_pages) (defScope t_Base_pages) [] [] (fAd K ("Base", some "pages")) fd := T.dfn 105 _ rfl
theorem fn_Base_marked {K : PySem.W.Frag} {mg : Str → Option Value} (T : Tx K mg) : ∃ fd, FunD K "marked" "Base.marked" (defArgs t_Base_marked) (defBody t_Base_marked) (defScope t_Base_marked) [] [] (fAd K ("Base", some "marked")) fd := T.dfn 106 _ rfl
theorem fn_Base_image {K : PySem.W.Frag} {mg : Str → Option Value} (T : Tx K mg) : ∃ fd, FunD K "image" "Base.image" (defArgs t_Base_image) (defBody t_Base_image) (defScope t_Base_image) [] [] (fAd K ("Base", some "image")) fd := T.dfn 107 _ rfl
theorem fn_Vacuum_init {K : PySem.W.Frag} {mg : Str → Option Value} (T : Tx K mg) : ∃ fd, FunD K "__init__" "Vacuum.__init__" (defArgs t_Vacuum_init) (defBody t_Vacuum_init) (defScope t_Vacuum_init) [] [] (fAd K ("Vacuum", some "__init__")) fd := T.dfn 108 _ rfl
theorem fn_Vacuum_noted {K : PySem.W.Frag} {mg : Str → Option Value} (T : Tx K mg) : ∃ fd, FunD K "noted" "Vacuum.noted" (defArgs t_Vacuum_noted) (defBody t_Vacuum_noted) (defScope t_Vacuum_noted) [] [] (fAd K ("Vacuum", some "noted")) fd := T.dfn 109 _ rfl
theorem fn_Vacuum_prune_next {K : PySem.W.Frag} {mg : Str → Option Value} (T : Tx K mg) : ∃ fd, FunD K "prune_next" "Vacuum.prune_next" (defArgs t_Vacuum_prune_next) (defBody t_Vacuum_prune_next) (defScope t_Vacuum_prune_next) [] [] (fAd K ("Vacuum", some "prune_next")) fd := T.dfn 110 _ rfl
theorem fn_Vacuum_name_next {K : PySem.W.Frag} {mg : Str → Option Value} (T : Tx K mg) : ∃ fd, FunD K "name_next" "Vacuum.name_next" (defArgs t_Vacuum_name_next) (defBody t_Vacuum_name_next) (defScope t_Vacuum_name_next) [] [] (fAd K ("Vacuum", some "name_next")) fd := T.dfn 111 _ rfl
theorem fn_Vacuum_free_next {K : PySem.W.Frag} {mg : Str → Option Value} (T : Tx K mg) : ∃ fd, FunD K "free_next" "Vacuum.free_next" (defArgs t_Vacuum_free_next) (defBody t_Vacuum_free_next) (defScope t_Vacuum_free_next) [] [] (fAd K ("Vacuum", some "free_next")) fd := T.dfn 112 _ rfl
theorem fn_Vacuum_step {K : PySem.W.Frag} {mg : Str → Option Value} (T : Tx K mg) : ∃ fd, FunD K "step" "Vacuum.step" (defArgs t_Vacuum_step) (defBody t_Vacuum_step) (defScope t_Vacuum_step) [] [] (fAd K ("Vacuum", some "step")) fd := T.dfn 113 _ rfl
theorem fn_law_cells {K : PySem.W.Frag} {mg : Str → Option Value} (T : Tx K mg) : ∃ fd, FunD K "_law_cells" "_law_cells" (defArgs t_law_cells) (defBody t_law_cells) (defScope t_law_cells) [] [] (fAd K ("_law_cells", none)) fd := T.dfn 114 _ rfl
theorem fn_law_box {K : PySem.W.Frag} {mg : Str → Option Value} (T : Tx K mg) : ∃ fd, FunD K "_law_box" "_law_box" (defArgs t_law_box) (defBody t_law_box) (defScope t_law_box) [] [] (fAd K ("_law_box", none)) fd := T.dfn 115 _ rfl
theorem fn_law_take {K : PySem.W.Frag} {mg : Str → Option Value} (T : Tx K mg) : ∃ fd, FunD K "_law_take" "_law_take" (defArgs t_law_take) (defBody t_law_take) (defScope t_law_take) [] [] (fAd K ("_law_take", none)) fd := T.dfn 116 _ rfl
theorem fn_law_of {K : PySem.W.Frag} {mg : Str → Option Value} (T : Tx K mg) : ∃ fd, FunD K "_law_of" "_law_of" (defArgs t_law_of) (defBody t_law_of) (defScope t_law_of) [] [] (fAd K ("_law_of", none)) fd := T.dfn 117 _ rfl
theorem fn_law_same {K : PySem.W.Frag} {mg : Str → Option Value} (T : Tx K mg) : ∃ fd, FunD K "_law_same" "_law_same" (defArgs t_law_same) (defBody t_law_same) (defScope t_law_same) [] [] (fAd K ("_law_same", none)) fd := T.dfn 118 _ rfl
theorem fn_law_done {K : PySem.W.Frag} {mg : Str → Option Value} (T : Tx K mg) : ∃ fd, FunD K "_law_done" "_law_done" (defArgs t_law_done) (defBody t_law_done) (defScope t_law_done) [] [] (fAd K ("_law_done", none)) fd := T.dfn 119 _ rfl
theorem fn_law_drawn {K : PySem.W.Frag} {mg : Str → Option Value} (T : Tx K mg) : ∃ fd, FunD K "_law_drawn" "_law_drawn" (defArgs t_law_drawn) (defBody t_law_drawn) (defScope t_law_drawn) [] [] (fAd K ("_law_drawn", none)) fd := T.dfn 120 _ rfl
theorem fn_law_session {K : PySem.W.Frag} {mg : Str → Option Value} (T : Tx K mg) : ∃ fd, FunD K "_law_session" "_law_session" (defArgs t_law_session) (defBody t_law_session) (defScope t_law_session) [] [] (fAd K ("_law_session", none)) fd := T.dfn 121 _ rfl
theorem fn_law_read_now {K : PySem.W.Frag} {mg : Str → Option Value} (T : Tx K mg) : ∃ fd, FunD K "_law_read_now" "_law_read_now" (defArgs t_law_read_now) (defBody t_law_read_now) (defScope t_law_read_now) [] [] (fAd K ("_law_read_now", none)) fd := T.dfn 122 _ rfl
theorem fn_law_swept {K : PySem.W.Frag} {mg : Str → Option Value} (T : Tx K mg) : ∃ fd, FunD K "_law_swept" "_law_swept" (defArgs t_law_swept) (defBody t_law_swept) (defScope t_law_swept) [] [] (fAd K ("_law_swept", none)) fd := T.dfn 123 _ rfl
theorem fn_law_right {K : PySem.W.Frag} {mg : Str → Option Value} (T : Tx K mg) : ∃ fd, FunD K "_law_right" "_law_right" (defArgs t_law_right) (defBody t_law_right) (defScope t_law_right) [] [] (fAd K ("_law_right", none)) fd := T.dfn 124 _ rfl
theorem fn_law {K : PySem.W.Frag} {mg : Str → Option Value} (T : Tx K mg) : ∃ fd, FunD K "law" "law" (defArgs t_law) (defBody t_law) (defScope t_law) [] [] (fAd K ("law", none)) fd := T.dfn 125 _ rfl
end Rc

set_option Elab.async false
set_option linter.all false
set_option maxRecDepth 100000
set_option maxHeartbeats 4000000
/-! what stands in the store: slots, pages, the ledger, the table -/
namespace Rc
open PySem PySem.Spec PyProof.Rows L2 He

/-! ### slots and pages -/
structure Ver where
  mkr : Nat
  mde : Nat
  en : Option (Nat × Nat)
  nx : Option (Nat × Nat)
  hot : Bool
  id : Int
  kd : PyData
/-- a cell as the law has it -/
def okKd : PyData → Prop
  | .none => True
  | .int _ => True
  | .str x => x.length ≤ 6 ∧ PyData.strOk x = true
  | _ => False
def numO : Option Nat → PyData
  | some n => .int (n : Int)
  | none => .none
def placeO : Option (Nat × Nat) → PyData
  | some (a, b) => .tuple [.int (a : Int), .int (b : Int)]
  | none => .none
def rowD (id : Int) (kd : PyData) : PyData := .tuple [.int id, kd]
def Ver.d (v : Ver) : PyData := .tuple [.str "row", .int (v.mkr : Int), .int (v.mde : Int), numO (v.en.map (·.1)), numO (v.en.map (·.2)), placeO v.nx, .bool v.hot, rowD v.id v.kd]
inductive Slot where
  | un
  | dead
  | red (n : Nat)
  | row (v : Ver)
def Slot.d : Slot → PyData
  | .un => .tuple [.str "unused"]
  | .dead => .tuple [.str "dead"]
  | .red n => .tuple [.str "redirect", .int (n : Int)]
  | .row v => v.d
def Slot.tag : Slot → Str
  | .un => "unused"
  | .dead => "dead"
  | .red _ => "redirect"
  | .row _ => "row"
def Slot.isRow : Slot → Bool
  | .row _ => true
  | _ => false
def Slot.isUn : Slot → Bool
  | .un => true
  | _ => false
def Slot.isDead : Slot → Bool
  | .dead => true
  | _ => false
theorem Slot.head (s : Slot) : ∃ r, s.d = .tuple (.str s.tag :: r) := by
  cases s <;> exact ⟨_, rfl⟩
theorem tag_row (s : Slot) : decide (V.str s.tag = V.str "row") = s.isRow := by
  cases s with
  | un => exact (by decide +kernel : decide (V.str "unused" = V.str "row") = false)
  | dead => exact (by decide +kernel : decide (V.str "dead" = V.str "row") = false)
  | red n => exact (by decide +kernel : decide (V.str "redirect" = V.str "row") = false)
  | row v => exact (by decide +kernel : decide (V.str "row" = V.str "row") = true)
theorem tag_un (s : Slot) : decide (V.str s.tag = V.str "unused") = s.isUn := by
  cases s with
  | un => exact (by decide +kernel : decide (V.str "unused" = V.str "unused") = true)
  | dead => exact (by decide +kernel : decide (V.str "dead" = V.str "unused") = false)
  | red n => exact (by decide +kernel : decide (V.str "redirect" = V.str "unused") = false)
  | row v => exact (by decide +kernel : decide (V.str "row" = V.str "unused") = false)
theorem tag_dead (s : Slot) : decide (V.str s.tag = V.str "dead") = s.isDead := by
  cases s with
  | un => exact (by decide +kernel : decide (V.str "unused" = V.str "dead") = false)
  | dead => exact (by decide +kernel : decide (V.str "dead" = V.str "dead") = true)
  | red n => exact (by decide +kernel : decide (V.str "redirect" = V.str "dead") = false)
  | row v => exact (by decide +kernel : decide (V.str "row" = V.str "dead") = false)
theorem tag_red (s : Slot) : decide (V.str s.tag = V.str "redirect") = true ↔ ∃ n, s = .red n := by
  cases s with
  | un =>
    have e : decide (V.str "unused" = V.str "redirect") = false := by decide +kernel
    exact ⟨fun h => Bool.noConfusion (e.symm.trans h), fun ⟨n, h⟩ => by cases h⟩
  | dead =>
    have e : decide (V.str "dead" = V.str "redirect") = false := by decide +kernel
    exact ⟨fun h => Bool.noConfusion (e.symm.trans h), fun ⟨n, h⟩ => by cases h⟩
  | red n => exact ⟨fun _ => ⟨n, rfl⟩, fun _ => (by decide +kernel : decide (V.str "redirect" = V.str "redirect") = true)⟩
  | row v =>
    have e : decide (V.str "row" = V.str "redirect") = false := by decide +kernel
    exact ⟨fun h => Bool.noConfusion (e.symm.trans h), fun ⟨n, h⟩ => by cases h⟩
abbrev Page := List Slot
def pgD (p : Page) : PyData := .tuple (p.map Slot.d)
/-- ints as they stand in a list -/
def IL (us : List Nat) : List V := us.map fun (n : Nat) => V.int (n : Int)
theorem IL_len (us : List Nat) : (IL us).length = us.length := List.length_map _
theorem IL_get {us : List Nat} {i : Nat} {x : V} (h : (IL us)[i]? = some x) : ∃ n, us[i]? = some n ∧ x = .int ((n : Nat) : Int) := by
  unfold IL at h
  rw [List.getElem?_map] at h
  obtain ⟨n, h1, h2⟩ := Option.map_eq_some_iff.mp h
  exact ⟨n, h1, h2.symm⟩
theorem IL_at {us : List Nat} {i n : Nat} (h : us[i]? = some n) : (IL us)[i]? = some (.int ((n : Nat) : Int)) := by
  unfold IL
  rw [List.getElem?_map, h]
  rfl
theorem IL_flat (us : List Nat) : (IL us).all flatV = true := by
  unfold IL
  rw [List.all_map]
  exact List.all_eq_true.mpr fun _ _ => rfl
theorem IL_in (n : Nat) (us : List Nat) : inV (.int ((n : Nat) : Int)) (IL us) = decide (n ∈ us) := by
  unfold inV IL
  rw [List.any_map]
  induction us with
  | nil => rfl
  | cons u us ih =>
    rw [List.any_cons, ih]
    have e : (eqV (V.int ((u : Nat) : Int)) (V.int ((n : Nat) : Int))) = decide (n = u) := by
      by_cases h : n = u
      · subst h
        simp [eqV]
      · have h2 : ¬ ((u : Int) = (n : Int)) := fun z => h (by omega)
        simp [eqV, h, h2]
    show (eqV (V.int ((u : Nat) : Int)) (V.int ((n : Nat) : Int)) || decide (n ∈ us)) = _
    rw [e]
    by_cases h1 : n = u <;> by_cases h2 : n ∈ us <;> simp [h1, h2]
theorem IL_non (us : List Nat) : inV .non (IL us) = false := by
  unfold inV IL
  rw [List.any_map, List.any_eq_false]
  intro u _
  simp [eqV]
theorem IL_app (us vs : List Nat) : IL (us ++ vs) = IL us ++ IL vs := List.map_append

/-! ### the ledger -/
inductive Sta where
  | runs | com | und
  deriving DecidableEq
def staS : Sta → Str
  | .runs => "runs"
  | .com => "committed"
  | .und => "undone"
theorem sta_eq (a b : Sta) : decide (V.str (staS a) = V.str (staS b)) = decide (a = b) := by
  cases a <;> cases b <;> decide +kernel
/-- a transaction that runs: its number, its object, its list of parts, these, its commands -/
structure Dl where
  n : Nat
  a : Addr
  p : Addr
  parts : List Nat
  cmd : Nat
structure Led where
  de : Addr
  ow : Addr
  st : Addr
  owners : List Nat
  states : List Sta
  kvs : List (Nat × Addr)
  act : List Dl
def SL (ss : List Sta) : List V := ss.map fun s => V.str (staS s)
def dealK (kvs : List (Nat × Addr)) : List (Key × V) := kvs.map fun p => ((Sum.inl ((p.1 : Nat) : Int) : Key), V.ref p.2)
structure DealAt (K : PySem.W.Frag) (H : Hp) (d : Dl) : Prop where
  ob : ∃ dx, H d.a = some (Ob (ga K "Deal") dx nsDeal [.ref d.p, .str "each", .int ((d.cmd : Nat) : Int)])
  ps : H d.p = some (.lst (IL d.parts))
def Led.fp (l : Addr) (L : Led) : List Addr := l :: L.de :: L.ow :: L.st :: L.act.flatMap fun d => [d.a, d.p]
structure LedAt (K : PySem.W.Frag) (H : Hp) (l : Addr) (L : Led) : Prop where
  ob : ∃ dx, H l = some (Ob (ga K "Ledger") dx nsLedger [.ref L.de, .ref L.ow, .ref L.st])
  de : H L.de = some (.dK (dealK L.kvs))
  ow : H L.ow = some (.lst (IL L.owners))
  st : H L.st = some (.lst (SL L.states))
  act : ∀ d ∈ L.act, DealAt K H d ∧ (d.n, d.a) ∈ L.kvs
  nd : (L.fp l).Nodup
  kn : (L.kvs.map (·.1)).Nodup
  ln : L.owners.length = L.states.length
  kl : ∀ q ∈ L.kvs, q.1 ≤ L.owners.length + 1
  lo : L.owners.length ≤ 63
  pp : ∀ d ∈ L.act, d.parts.length ≤ 8 ∧ d.parts ≠ [] ∧ ∀ p ∈ d.parts, 1 ≤ p ∧ p ≤ L.owners.length
theorem Chg.nt_tup {fp : List Addr} {H H' : Hp} (c : Chg fp H H') : TKeep H H' := c.tk
theorem DealAt.keep {K : PySem.W.Frag} {H H' : Hp} {d : Dl} (h : DealAt K H d) (k1 : ∀ o, H d.a = some o → H' d.a = some o) (k2 : ∀ o, H d.p = some o → H' d.p = some o) : DealAt K H' d :=
  let ⟨dx, e⟩ := h.ob
  ⟨⟨dx, k1 _ e⟩, k2 _ h.ps⟩
theorem mem_fp_a {l : Addr} {L : Led} {d : Dl} (h : d ∈ L.act) : d.a ∈ L.fp l := by
  unfold Led.fp
  simp only [List.mem_cons, List.mem_flatMap]
  exact .inr (.inr (.inr (.inr ⟨d, h, .inl rfl⟩)))
theorem mem_fp_p {l : Addr} {L : Led} {d : Dl} (h : d ∈ L.act) : d.p ∈ L.fp l := by
  unfold Led.fp
  simp only [List.mem_cons, List.mem_flatMap]
  exact .inr (.inr (.inr (.inr ⟨d, h, .inr (.inl rfl)⟩)))
theorem LedAt.keep {K : PySem.W.Frag} {H H' : Hp} {l : Addr} {L : Led} (h : LedAt K H l L) (k : ∀ a ∈ L.fp l, ∀ o, H a = some o → H' a = some o) : LedAt K H' l L := by
  obtain ⟨dx, e⟩ := h.ob
  refine ⟨⟨dx, k _ (by simp [Led.fp]) _ e⟩, k _ (by simp [Led.fp]) _ h.de, k _ (by simp [Led.fp]) _ h.ow, k _ (by simp [Led.fp]) _ h.st, fun d hd => ?_, h.nd, h.kn, h.ln, h.kl, h.lo, h.pp⟩
  obtain ⟨h1, h2⟩ := h.act d hd
  exact ⟨h1.keep (k _ (mem_fp_a hd)) (k _ (mem_fp_p hd)), h2⟩
theorem LedAt.same {K : PySem.W.Frag} {H H' : Hp} {l : Addr} {L : Led} (h : LedAt K H l L) (s : Same H H') : LedAt K H' l L := h.keep fun a _ o e => s a o e

/-- a page as the table has it -/
structure PgOk (p : Page) : Prop where
  ln : p.length ≤ 8
  kd : ∀ v, Slot.row v ∈ p → okKd v.kd
/-! ### the table -/
structure Tab where
  P : Addr
  M : Addr
  pages : List Page
def markK (ks : List Nat) : List (Key × V) := ks.map fun (k : Nat) => ((Sum.inl (k : Int) : Key), V.bl true)
def Tab.fp (t : Addr) (T : Tab) : List Addr := [t, T.P, T.M]
structure TbAt (K : PySem.W.Frag) (H : Hp) (t : Addr) (T : Tab) : Prop where
  ob : ∃ dx, H t = some (Ob (ga K "Table") dx nsTable [.ref T.P, .ref T.M])
  pg : ∃ vs, H T.P = some (.lst vs) ∧ Tds K H vs (T.pages.map pgD)
  mrk : ∃ ks : List Nat, H T.M = some (.dK (markK ks)) ∧ ks.Nodup ∧ ∀ k ∈ ks, k < T.pages.length
  nd : (T.fp t).Nodup
  ok : ∀ p ∈ T.pages, PgOk p
  pl : T.pages.length ≤ 60
theorem TbAt.keep {K : PySem.W.Frag} {H H' : Hp} {t : Addr} {T : Tab} (h : TbAt K H t T) (k : ∀ a ∈ T.fp t, ∀ o, H a = some o → H' a = some o) (tk : TKeep H H') : TbAt K H' t T := by
  obtain ⟨dx, e⟩ := h.ob
  obtain ⟨vs, e1, e2⟩ := h.pg
  obtain ⟨ks, e3, e4⟩ := h.mrk
  exact ⟨⟨dx, k _ (by simp [Tab.fp]) _ e⟩, ⟨vs, k _ (by simp [Tab.fp]) _ e1, e2.keep tk⟩, ⟨ks, k _ (by simp [Tab.fp]) _ e3, e4⟩, h.nd, h.ok, h.pl⟩
theorem TbAt.same {K : PySem.W.Frag} {H H' : Hp} {t : Addr} {T : Tab} (h : TbAt K H t T) (s : Same H H') : TbAt K H' t T := h.keep (fun a _ o e => s a o e) (Same.tk s)
end Rc

set_option Elab.async false
set_option linter.all false
set_option maxRecDepth 100000
set_option maxHeartbeats 4000000
namespace Rc
open PySem PySem.Spec PyProof.Rows L2 He
theorem pg_open {K : PySem.W.Frag} {H : Hp} {x : V} {p : Page} (h : Td K H x (pgD p)) : ∃ a xs, x = .ref a ∧ TqAt K H a xs ∧ xs.length = p.length ∧ Tds K H xs (p.map Slot.d) := by
  obtain ⟨a, xs, e, q, r⟩ := h.tup_eq
  exact ⟨a, xs, e, q, by rw [r.length, List.length_map], r⟩
theorem pg_at {p : Page} {n : Nat} {s : Slot} (h : p[n]? = some s) : (p.map Slot.d)[n]? = some s.d := by
  rw [List.getElem?_map, h]
  rfl
def sp_is_version (K : PySem.W.Frag) : Sp := s1 fun x H Q => ∃ s : Slot, Td K H x s.d ∧ Q (.bl s.isRow) H
theorem ok_is_version {P : Program} {w : World} {K : PySem.W.Frag} {mg : Str → Option Value} {base : Heap} (T : Tx K mg) : Df P w K mg base (fAd K ("is_version", none)) 1 [] (sp_is_version K) := by
  obtain ⟨fd, F⟩ := fn_is_version T
  refine df1 F sc_is_version (fun _ _ _ _ _ _ us hl => match us, hl with | [_], _ => rfl) fun slot H Q h => ?_
  intro cdv A outer s E hr
  have hu := hu_of hr
  refine ⟨_, (pss_one (ps_ret (pe_cmpR op_eq (pe_ixdK K (pv 0) pe_int) (pe_gs rfl (T.g_ROW_chains)) (nomark _)))), ?_⟩
  obtain ⟨s, hs, q⟩ := h
  obtain ⟨r, hr⟩ := s.head
  refine ⟨_, rfl, _, 0, _, hr ▸ hs, rfl, rfl, fun v hv => ?_⟩
  rw [hv.str_eq]
  refine ⟨rfl, ?_⟩
  rw [tag_row]
  exact q
def sp_is_only (K : PySem.W.Frag) : Sp := s2 fun x y H Q => ∃ (p : Page) (i : Int), y = .int i ∧ Td K H x (pgD p) ∧ ∀ b : Bool, (b = true → ∃ (n : Nat) (v : Ver), i = (n : Int) ∧ p[n]? = some (.row v) ∧ v.hot = true) → Q (.bl b) H
theorem ok_is_only {P : Program} {w : World} {K : PySem.W.Frag} {mg : Str → Option Value} {base : Heap} (T : Tx K mg) : Df P w K mg base (fAd K ("is_only", none)) 2 [] (sp_is_only K) := by
  obtain ⟨fd, F⟩ := fn_is_only T
  refine df2 F sc_is_only (fun _ _ _ _ _ _ us hl => match us, hl with | [_, _], _ => rfl) fun page slot H Q h => ?_
  intro cdv A outer s E hr
  have hu := hu_of hr
  refine ⟨_, (pss_one (ps_ret (pe_and (pe_chain op_le op_lt pe_int (pv 1) (pe_callB (call_len_seqK K) (by rfl) (T.b_len) (by decide +kernel) (pa_cons (pv 0) pa_nil))) (pe_and (pe_cf (ok_is_version T) (hr.mono (by decide)) rfl (T.g_is_version) (pa_cons (pe_ixdK K (pv 0) (pv 1)) pa_nil)) (pe_one (pe_ixdK K (pe_ixdK K (pv 0) (pv 1)) (pe_gi rfl (T.g_ONLY)))))))), ?_⟩
  obtain ⟨p, i, ei, hp, q⟩ := h
  subst ei
  obtain ⟨a, xs, ex, hq, hl, hr2⟩ := pg_open hp
  subst ex
  refine ⟨_, rfl, 0, i, rfl, rfl, _, rfl, ?_⟩
  refine ite2 (fun h0 => ?_) (fun h0 => ⟨_, rfl, iteF (q false nofun)⟩)
  have h0 : 0 ≤ i := of_decide_eq_true h0
  refine ⟨_, rfl, a, xs, rfl, .inr hq.t, i, (xs.length : Int), rfl, rfl, _, rfl, ?_⟩
  refine ite2 (fun h1 => ?_) (fun h1 => q false nofun)
  have h1 : i < (xs.length : Int) := of_decide_eq_true h1
  obtain ⟨n, en⟩ := Int.eq_ofNat_of_zero_le h0
  subst en
  have hn : n < p.length := by omega
  have hs : p[n]? = some p[n] := List.getElem?_eq_getElem hn
  refine ⟨_, rfl, _, rfl, _, n, _, hp, rfl, pg_at hs, fun v hv => ⟨_, rfl, p[n], hv, _, rfl, ?_⟩⟩
  refine ite2 (fun h2 => ?_) (fun h2 => q false nofun)
  cases e : p[n] with
  | row v =>
    refine ⟨_, rfl, _, rfl, _, n, _, hp, rfl, pg_at hs, fun u hu => ⟨_, 6, _, (by rw [e] at hu; exact hu), rfl, rfl, fun z hz => ?_⟩⟩
    rw [hz.bl_eq]
    exact q v.hot fun hb => ⟨n, v, rfl, by rw [hs, e], hb⟩
  | un => rw [e] at h2; cases h2
  | dead => rw [e] at h2; cases h2
  | red n => rw [e] at h2; cases h2
/-- an answer that is None or the place of a version -/
def RowOr (p : Page) (r : V) : Prop := r = .non ∨ ∃ (m : Nat) (v : Ver), r = .int (m : Int) ∧ p[m]? = some (.row v)
def sp_first_in (K : PySem.W.Frag) : Sp := s2 fun x y H Q => ∃ (p : Page) (n : Nat), y = .int (n : Int) ∧ n < p.length ∧ Td K H x (pgD p) ∧
  ∀ r : V, RowOr p r → (r ≠ .non → (∃ m, p[n]? = some (.red m)) ∨ r = .int (n : Int)) → Q r H
theorem ok_first_in {P : Program} {w : World} {K : PySem.W.Frag} {mg : Str → Option Value} {base : Heap} (T : Tx K mg) : Df P w K mg base (fAd K ("first_in", none)) 3 [] (sp_first_in K) := by
  obtain ⟨fd, F⟩ := fn_first_in T
  refine df2 F sc_first_in (fun _ _ _ _ _ _ us hl => match us, hl with | [_, _], _ => rfl) fun page slot H Q h => ?_
  intro cdv A outer s E hr
  have hu := hu_of hr
  refine ⟨_, (pss_cons (ps_if (pt_cmpR op_eq (pe_ixdK K (pe_ixdK K (pv 0) (pv 1)) pe_int) (pe_gs rfl (T.g_REDIRECT)) (nomark _)) (pss_one (ps_ret (pe_ifExp (pt_val (pe_cf (ok_is_only T) (hr.mono (by decide)) rfl (T.g_is_only) (pa_cons (pv 0) (pa_cons (pe_ixdK K (pe_ixdK K (pv 0) (pv 1)) pe_int) pa_nil)))) (pe_ixdK K (pe_ixdK K (pv 0) (pv 1)) pe_int) pe_non))) pss_nil)
    (pss_one (ps_ret (pe_ifExp (PW.pt (pw_and (pt_val (pe_cf (ok_is_version T) (hr.mono (by decide)) rfl (T.g_is_version) (pa_cons (pe_ixdK K (pv 0) (pv 1)) pa_nil))) (pw_and1 (pt_not (pt_val (pe_ixdK K (pe_ixdK K (pv 0) (pv 1)) (pe_gi rfl (T.g_ONLY)))))))) (pv 1) pe_non)))), ?_⟩
  obtain ⟨p, n, en, hn, hp, q⟩ := h
  subst en
  have hs : p[n]? = some p[n] := List.getElem?_eq_getElem hn
  obtain ⟨r, hr2⟩ := (p[n]).head
  refine ⟨_, rfl, _, rfl, _, n, _, hp, rfl, pg_at hs, fun v hv => ⟨_, 0, _, hr2 ▸ hv, rfl, rfl, fun z hz => ?_⟩⟩
  rw [hz.str_eq]
  refine ⟨rfl, _, rfl, ?_⟩
  refine ite2 (fun h1 => ?_) (fun h1 => ?_)
  · obtain ⟨m, em⟩ := (tag_red p[n]).mp h1
    refine ⟨_, rfl, _, rfl, _, rfl, _, n, _, hp, rfl, pg_at hs, fun u hu => ⟨_, 1, .int (m : Int), (by rw [em] at hu; exact hu), rfl, rfl, fun y hy => ?_⟩⟩
    rw [hy.int_eq]
    refine ⟨_, _, rfl, p, (m : Int), rfl, hp, fun b hb => ⟨_, rfl, ?_⟩⟩
    refine ite2 (fun h2 => ?_) (fun h2 => q .non (.inl rfl) fun z => absurd rfl z)
    refine ⟨_, rfl, _, rfl, _, n, _, hp, rfl, pg_at hs, fun u hu => ⟨_, 1, .int (m : Int), (by rw [em] at hu; exact hu), rfl, rfl, fun y hy => ?_⟩⟩
    rw [hy.int_eq]
    obtain ⟨m', v', e1, e2, _⟩ := hb h2
    have e3 : m = m' := by omega
    subst e3
    exact q _ (.inr ⟨m, v', rfl, e2⟩) fun _ => .inl ⟨m, by rw [hs, em]⟩
  · refine ⟨_, rfl, _, rfl, _, n, _, hp, rfl, pg_at hs, fun u hu => ⟨_, rfl, p[n], hu, _, rfl, ?_⟩⟩
    refine ite2 (fun h2 => ?_) (fun h2 => ?_)
    · cases e : p[n] with
      | row v =>
        refine ⟨_, rfl, _, rfl, _, n, _, hp, rfl, pg_at hs, fun u hu => ⟨_, 6, _, (by rw [e] at hu; exact hu), rfl, rfl, fun z hz => ?_⟩⟩
        rw [hz.bl_eq]
        refine ⟨_, rfl, ite2 (fun h3 => ?_) (fun h3 => q .non (.inl rfl) fun z => absurd rfl z)⟩
        exact ⟨_, rfl, q _ (.inr ⟨n, v, rfl, by rw [hs, e]⟩) fun _ => .inr rfl⟩
      | un => rw [e] at h2; cases h2
      | dead => rw [e] at h2; cases h2
      | red n => rw [e] at h2; cases h2
    · exact q .non (.inl rfl) fun z => absurd rfl z
def sp_follower (K : PySem.W.Frag) : Sp := s3 fun x y z H Q => ∃ (p : Page) (i : Int) (n : Nat) (v : Ver), y = .int i ∧ z = .int (n : Int) ∧ p[n]? = some (.row v) ∧ Td K H x (pgD p) ∧ ∀ r : V, RowOr p r → Q r H
theorem ok_follower {P : Program} {w : World} {K : PySem.W.Frag} {mg : Str → Option Value} {base : Heap} (T : Tx K mg) : Df P w K mg base (fAd K ("follower", none)) 3 [] (sp_follower K) := by
  obtain ⟨fd, F⟩ := fn_follower T
  refine df3 F sc_follower (fun _ _ _ _ _ _ us hl => match us, hl with | [_, _, _], _ => rfl) fun page number slot H Q h => ?_
  intro cdv A outer s E hr
  have hu := hu_of hr
  refine ⟨_, (pss_cons (ps_set (i := 3) (sc_follower).nd rfl (.inl rfl) (pe_ixdK K (pv 0) (pv 2)))
    (pss_cons (ps_if (PW.pt (pw_or (pt_cmp (pc_isN (pe_ixdK K (pv 3) (pe_gi rfl (T.g_NEXT_chains)))) rfl) (pw_or (pt_cmpR op_ne (pe_ixdK K (pe_ixdK K (pv 3) (pe_gi rfl (T.g_NEXT_chains))) pe_int) (pv 1) (nomark _)) (pw_or1 (pt_not (pt_val (pe_cf (ok_is_only T) (hr.mono (by decide)) rfl (T.g_is_only) (pa_cons (pv 0) (pa_cons (pe_ixdK K (pe_ixdK K (pv 3) (pe_gi rfl (T.g_NEXT_chains))) pe_int) pa_nil))))))))) (pss_one (ps_ret pe_non)) pss_nil)
    (pss_one (ps_ret (pe_ifExp (pt_cmpR op_eq (pe_ixdK K (pe_ixdK K (pv 0) (pe_ixdK K (pe_ixdK K (pv 3) (pe_gi rfl (T.g_NEXT_chains))) pe_int)) (pe_gi rfl (T.g_MAKER_chains))) (pe_ixdK K (pv 3) (pe_gi rfl (T.g_ENDER_chains))) (nomark _)) (pe_ixdK K (pe_ixdK K (pv 3) (pe_gi rfl (T.g_NEXT_chains))) pe_int) pe_non))))), ?_⟩
  obtain ⟨p, i, n, v, ei, en, hs, hp, q⟩ := h
  subst ei en
  refine ⟨_, rfl, _, rfl, _, n, _, hp, rfl, pg_at hs, fun u hu => ?_⟩
  refine ⟨_, rfl, _, 5, _, hu, rfl, rfl, fun z hz => ?_⟩
  cases en : v.nx with
  | none =>
    rw [en] at hz
    rw [hz.non_eq]
    exact ⟨_, rfl, ite2 (fun _ => iteT (q .non (.inl rfl))) fun h => absurd (decide_eq_true rfl) h⟩
  | some ab =>
    obtain ⟨a, b⟩ := ab
    rw [en] at hz
    have ez : z ≠ .non := by
      obtain ⟨_, _, e, _⟩ := hz.tup_eq
      rw [e]
      exact fun z => nomatch z
    refine ⟨_, rfl, ite2 (fun h => absurd (of_decide_eq_true h) ez) fun _ => ?_⟩
    refine ⟨_, rfl, _, 5, _, hu, rfl, rfl, fun z2 hz2 => ⟨_, 0, _, (by rw [en] at hz2; exact hz2), rfl, rfl, fun y hy => ?_⟩⟩
    rw [hy.int_eq]
    refine ⟨_, rfl, rfl, _, rfl, ite2 (fun _ => iteT (q .non (.inl rfl))) fun _ => ?_⟩
    refine ⟨_, rfl, _, rfl, _, 5, _, hu, rfl, rfl, fun z3 hz3 => ⟨_, 1, _, (by rw [en] at hz3; exact hz3), rfl, rfl, fun y3 hy3 => ?_⟩⟩
    rw [hy3.int_eq]
    refine ⟨_, _, rfl, p, (b : Int), rfl, hp, fun c hc => ⟨_, rfl, ?_⟩⟩
    cases c with
    | false => exact iteT (q .non (.inl rfl))
    | true =>
      obtain ⟨m, w', em, hm, _⟩ := hc rfl
      refine iteF ?_
      refine ⟨_, rfl, _, rfl, _, 5, _, hu, rfl, rfl, fun z4 hz4 => ⟨_, 1, _, (by rw [en] at hz4; exact hz4), rfl, rfl, fun y4 hy4 => ?_⟩⟩
      rw [hy4.int_eq]
      refine ⟨_, m, _, hp, by rw [em], pg_at hm, fun u5 hu5 => ⟨_, 1, _, hu5, rfl, rfl, fun y5 hy5 => ?_⟩⟩
      rw [hy5.int_eq]
      refine ⟨_, rfl, _, 3, _, hu, rfl, rfl, fun y6 hy6 => ?_⟩
      have sc : scal (V.int ((w'.mkr : Nat) : Int)) y6 = true := by
        cases e2 : v.en with
        | none => rw [e2] at hy6; rw [hy6.non_eq]; rfl
        | some c => rw [e2] at hy6; rw [hy6.int_eq]; rfl
      refine ⟨sc, _, rfl, ite2 (fun _ => ?_) (fun _ => q .non (.inl rfl))⟩
      refine ⟨_, rfl, _, 5, _, hu, rfl, rfl, fun z7 hz7 => ⟨_, 1, _, (by rw [en] at hz7; exact hz7), rfl, rfl, fun y7 hy7 => ?_⟩⟩
      rw [hy7.int_eq]
      exact q _ (.inr ⟨m, w', by rw [em], hm⟩)
def sp_chain (K : PySem.W.Frag) : Sp := s3 fun x y z H Q => ∃ (p : Page) (i : Int) (n : Nat), y = .int i ∧ z = .int (n : Int) ∧ n < p.length ∧ p.length ≤ 1000 ∧ Td K H x (pgD p) ∧
  ∀ (l : Addr) (H' : Hp) (ms : List Nat), Same H H' → H l = none → H' l = some (.lst (IL ms)) → (∀ m ∈ ms, ∃ v, p[m]? = some (.row v)) → ms.length ≤ p.length → (ms ≠ [] → (∃ m, p[n]? = some (.red m)) ∨ ms[0]? = some n) → Q (.ref l) H'
theorem nodup_le : ∀ {n : Nat} {ms : List Nat}, ms.Nodup → (∀ m ∈ ms, m < n) → ms.length ≤ n
  | 0, [], _, _ => Nat.le_refl _
  | 0, m :: _, _, h => absurd (h m List.mem_cons_self) (Nat.not_lt_zero m)
  | n + 1, ms, nd, h => by
    have h1 : (ms.erase n).length ≤ n := nodup_le (nd.erase n) fun m hm => by
      have h2 := (nd.mem_erase_iff).mp hm
      have h3 := h m h2.2
      have h4 := h2.1
      omega
    by_cases hn : n ∈ ms
    · have := List.length_erase_of_mem hn
      omega
    · rw [List.erase_of_not_mem hn] at h1
      omega
/-- the state of chain's loop -/
structure ChW (p : Page) (n : Nat) (H : Hp) (l : Addr) (ms : List Nat) (r : V) (H' : Hp) : Prop where
  sm : Same H H'
  at_ : H' l = some (.lst (IL ms))
  nd : ms.Nodup
  rows : ∀ m ∈ ms, ∃ v, p[m]? = some (.row v)
  ro : RowOr p r
  s0 : ms = [] → r ≠ .non → (∃ m, p[n]? = some (.red m)) ∨ r = .int (n : Int)
  s1 : ms ≠ [] → (∃ m, p[n]? = some (.red m)) ∨ ms[0]? = some n
theorem ChW.le {p : Page} {n : Nat} {H H' : Hp} {l : Addr} {ms : List Nat} {r : V} (c : ChW p n H l ms r H') : ms.length ≤ p.length := nodup_le c.nd fun m hm => by
  obtain ⟨v, e⟩ := c.rows m hm
  exact (List.getElem?_eq_some_iff.mp e).1
theorem ok_chain {P : Program} {w : World} {K : PySem.W.Frag} {mg : Str → Option Value} {base : Heap} (T : Tx K mg) : Df P w K mg base (fAd K ("chain", none)) 4 [] (sp_chain K) := by
  obtain ⟨fd, F⟩ := fn_chain T
  refine df3 F sc_chain (fun _ _ _ _ _ _ us hl => match us, hl with | [_, _, _], _ => rfl) fun page number slot H Q h => ?_
  intro cdv A outer s E hr
  have hu := hu_of hr
  refine ⟨_, (pss_cons (ps_par (i := 3) (j := 4) (by rfl) (sc_chain).nd rfl rfl (by decide) rfl rfl (pa_cons (pe_lst pa_nil) (pa_cons (pe_cf (ok_first_in T) (hr.mono (by decide)) rfl (T.g_first_in) (pa_cons (pv 0) (pa_cons (pv 2) pa_nil))) pa_nil)) (by rfl))
    (pss_cons (ps_while PassesOwn.never (PW.pt (pw_and (pt_cmp (pc_notN (pv 4)) rfl) (pw_and1 (pt_cmpR (op_notIn_seqK K) (pv 4) (pv 3) rfl)))) (pss_cons (ps_expr (pe_bm PySem.F.plainAttrs_list PySem.F.slot_list_append PySem.F.type_list_append mt_append (pv 3) (pa_cons (pv 4) pa_nil)))
    (pss_one (ps_set (i := 4) (sc_chain).nd rfl (.inl rfl) (pe_cf (ok_follower T) (hr.mono (by decide)) rfl (T.g_follower) (pa_cons (pv 0) (pa_cons (pv 1) (pa_cons (pv 4) pa_nil))))))))
    (pss_one (ps_ret (pv 3))))), ?_⟩
  obtain ⟨p, i, n, ei, en, hn, hp1, hp, q⟩ := h
  subst ei en
  refine ⟨Nat.zero_le _, fun l nl => ?_⟩
  have s0 : Same H (upd H l (.lst [])) := same_new nl
  refine ⟨_, rfl, _, rfl, _, _, rfl, p, n, rfl, hn, hp.same s0, fun r hr hr2 => ⟨_, _, rfl, ?_⟩⟩
  refine ⟨fun m σ' H' => ∃ ms r, σ' = [some page, some (.int i), some (.int (n : Int)), some (.ref l), some r] ∧ ChW p n H l ms r H' ∧ m = p.length + 1 - ms.length, ⟨_, [], r, rfl, ⟨s0, upd_same, List.nodup_nil, nofun, hr, fun _ => hr2, fun z => absurd rfl z⟩, rfl⟩, ?_⟩
  rintro m σ' H' ⟨ms, r, rfl, c, em⟩
  have hle := c.le
  have done : ∀ (D : VK), (∀ (l : Addr) (H' : Hp) (ms : List Nat), Same H H' → H l = none → H' l = some (.lst (IL ms)) → (∀ m ∈ ms, ∃ v, p[m]? = some (.row v)) → ms.length ≤ p.length → (ms ≠ [] → (∃ m, p[n]? = some (.red m)) ∨ ms[0]? = some n) → D (.ref l) H') → D (.ref l) H' := fun D z => z l H' ms c.sm nl c.at_ c.rows hle c.s1
  rcases c.ro with e | ⟨j, v, e, hj⟩
  · subst e
    exact ⟨_, rfl, _, rfl, ite2 (fun h => absurd h (by simp)) fun _ => iteF ⟨_, rfl, done _ q⟩⟩
  · subst e
    refine ⟨_, rfl, _, rfl, ite2 (fun _ => ?_) fun h => absurd (by simp) h⟩
    refine ⟨_, rfl, _, rfl, l, IL ms, rfl, .inl (SqL.of c.at_), rfl, IL_flat ms, _, rfl, ?_⟩
    show if (!inV (V.int (j : Int)) (IL ms)) = true then _ else _
    rw [IL_in]
    refine ite2 (fun hni => ?_) fun _ => ⟨_, rfl, done _ q⟩
    have hni : j ∉ ms := by simpa using hni
    refine ⟨fun σ2 H2 => ∃ m', m' < m ∧ ∃ ms r, σ2 = [some page, some (.int i), some (.int (n : Int)), some (.ref l), some r] ∧ ChW p n H l ms r H2 ∧ m' = p.length + 1 - ms.length, fun _ _ z => z, ?_⟩
    refine ⟨_, rfl, .inl ⟨rfl, _, SqL.of c.at_⟩, _, rfl, l, _, _, rfl, rfl, c.at_, small1000 (by rw [IL_len]; omega), ?_⟩
    have sm2 : Same H (upd H' l (.lst (IL ms ++ [.int (j : Int)]))) := fun b o e => by
      rw [upd_ne (ne_of_none e nl)]
      exact c.sm b o e
    refine ⟨_, rfl, _, rfl, _, rfl, _, _, _, rfl, p, i, j, v, rfl, rfl, hj, hp.same sm2, fun r2 hr2 => ?_⟩
    have nd2 : (ms ++ [j]).Nodup := by
      rw [List.nodup_append]
      exact ⟨c.nd, List.nodup_cons.mpr ⟨nofun, List.nodup_nil⟩, fun a ha b hb => by
        rw [List.mem_singleton.mp hb]
        exact fun z => hni (z ▸ ha)⟩
    have c2 : ChW p n H l (ms ++ [j]) r2 (upd H' l (.lst (IL ms ++ [.int (j : Int)]))) := ⟨sm2, by rw [IL_app]; exact upd_same, nd2, fun m hm => by
      rcases List.mem_append.mp hm with h | h
      · exact c.rows m h
      · rw [List.mem_singleton.mp h]
        exact ⟨v, hj⟩, hr2, fun z => by simp at z, fun _ => by
      cases ms with
      | nil =>
        rcases c.s0 rfl (fun z => nomatch z) with z | z
        · exact .inl z
        · refine .inr ?_
          have : j = n := by
            injection z with z
            omega
          rw [this]
          rfl
      | cons a r => exact c.s1 (List.cons_ne_nil _ _)⟩
    have l2 := c2.le
    rw [List.length_append] at l2
    refine ⟨p.length + 1 - (ms ++ [j]).length, ?_, ms ++ [j], r2, rfl, c2, rfl⟩
    rw [List.length_append, List.length_singleton]
    simp only [List.length_singleton] at l2
    omega
end Rc


set_option Elab.async false
set_option linter.all false
set_option maxRecDepth 100000
set_option maxHeartbeats 4000000
namespace Rc
open PySem PySem.Spec PyProof.Rows L2 He
def isStrD : PyData → Bool
  | .str _ => true
  | _ => false
theorem td_isi {K : PySem.W.Frag} {H : Hp} {x : V} {d : PyData} (h : Td K H x d) (ok : okKd d) : ∃ t, TyX K H x t ∧ PySem.W.kitOne K t (.type "str") = some (isStrD d) := by
  cases h with
  | non => exact ⟨_, .base .non, kit_ty (by decide +kernel)⟩
  | bl b => exact ok.elim
  | int i => exact ⟨_, .base (.int i), kit_ty (show kitB "int" "str" = some false from by decide +kernel)⟩
  | str z => exact ⟨_, .base (.str z), kit_ty (show kitB "str" "str" = some true from by decide +kernel)⟩
  | tup _ _ => exact ok.elim
def sp_size_of (K : PySem.W.Frag) : Sp := s1 fun x H Q => ∃ (id : Int) (kd : PyData), Td K H x (rowD id kd) ∧ okKd kd ∧ ∀ (n : Int) (H' : Hp), Same H H' → 0 ≤ n → n ≤ 10 → Q (.int n) H'
theorem ok_size_of {P : Program} {w : World} {K : PySem.W.Frag} {mg : Str → Option Value} {base : Heap} (T : Tx K mg) : Df P w K mg base (fAd K ("size_of", none)) 1 [] (sp_size_of K) := by
  obtain ⟨fd, F⟩ := fn_size_of T
  refine df1 F sc_size_of (fun _ _ _ _ _ _ us hl => match us, hl with | [_], _ => rfl) fun cells H Q h => ?_
  intro cdv A outer s E hr
  have hu := hu_of hr
  refine ⟨_, (pss_one (ps_ret (pe_op op_add (pe_op op_add (pe_gi rfl (T.g_HEAD_SIZE)) (pe_callB (call_len_seqK K) (by rfl) (T.b_len) (by decide +kernel) (pa_cons (pv 0) pa_nil))) (pe_callB (cr_sumK K rfl) (by rfl) (T.b_sum) (by decide +kernel) (pa_cons (pe_lc (own := [("cell", 1)])  rfl (sc_size_of).nd (pi_tupK K (pv 0)) (blkOk_by (N := ["cells", "cell"]) (sc := defScope t_size_of) (by decide +kernel)) (fun _ _ _ _ _ => (pg_name (i := 1) (sc_size_of).nd rfl (.inl rfl))) (fun _ _ _ _ _ => (pts_one (pt_val (pe_callB (call_isiK' K) (by rfl) (T.b_isinstance) (by decide +kernel) (pa_cons (pv 1) (pa_cons (pe_bltn (v := V.ty "str") (u := Value.type "str") (by rfl) (T.b_str) (by decide +kernel) rfl) pa_nil)))))) (fun _ _ _ _ _ => (pe_callB call_len_str (by rfl) (T.b_len) (by decide +kernel) (pa_cons (pv 1) pa_nil)))) pa_nil))))), ?_⟩
  obtain ⟨id, kd, hx, ok, q⟩ := h
  obtain ⟨a, xs, ex, hq, hr2⟩ := hx.tup_eq
  subst ex
  have hl : xs.length = 2 := hr2.length
  refine ⟨_, rfl, a, xs, rfl, .inr hq.t, 2, (xs.length : Int), rfl, rfl, ?_⟩
  refine ⟨_, rfl, a, rfl, ⟨xs, hq.t⟩, fun D hD => ?_⟩
  refine lc_tup (K := K) (a := a) (xs := xs) (fun i H' => ∃ acc : List Int, CmW H D (acc.map V.int) H' ∧ acc.length ≤ i ∧ 0 ≤ acc.sum ∧ acc.sum ≤ (if i ≤ 1 then 0 else 6)) ⟨[], .start hD, Nat.le_refl _, Int.le_refl _, Int.le_refl _⟩ (fun i H' _ ⟨acc, c, _⟩ => (hq.keep (Same.tk c.sm)).t) ?_ ?_
  · rintro i x H' hi ⟨acc, c, l1, l2, l3⟩
    obtain ⟨d, hd, hxd⟩ := hr2.get2 hi
    have okd : okKd d := by
      match i, hd with
      | 0, hd => cases hd; exact True.intro
      | 1, hd => cases hd; exact ok
      | i + 2, hd => simp at hd
    have i2 : i < 2 := by
      have := (List.getElem?_eq_some_iff.mp hi).1
      omega
    obtain ⟨t, ty, kt⟩ := td_isi (hxd.same c.sm) okd
    refine ⟨rfl, ⟨_, rfl, x, _, t, _, _, rfl, .ty "str", ty, kt, _, rfl, ?_⟩⟩
    cases e : isStrD d with
    | false => exact iteF ⟨acc, c, by omega, l2, by split at l3 <;> split <;> omega⟩
    | true =>
      refine iteT ?_
      have e1 : i = 1 := by
        match i, hd with
        | 0, hd => cases hd; cases e
        | 1, hd => rfl
        | i + 2, hd => simp at hd
      subst e1
      cases d with
      | str z =>
        have hz : z.length ≤ 6 := okd.1
        rw [hxd.str_eq]
        refine ⟨_, rfl, z, rfl, Nat.le_of_lt (small1000 (by omega)), acc.map V.int, c.at_, by rw [List.length_map]; exact small1000 (by omega), acc ++ [(z.length : Int)], ?_⟩
        rw [List.map_append]
        refine ⟨c.push hD _, by rw [List.length_append, List.length_singleton]; omega, ?_, ?_⟩
        · rw [List.sum_append]; simp; omega
        · rw [if_pos (by omega)] at l3
          rw [if_neg (by omega), List.sum_append]; simp; omega
      | none => cases e
      | bool b => cases e
      | int i => cases e
      | list l => cases e
      | tuple l => cases e
      | dict l => cases e
  · rintro H' ⟨acc, c, l1, l2, l3⟩
    rw [hl] at l3
    rw [if_neg (by omega)] at l3
    exact ⟨D, acc, rfl, SqL.of c.at_, 2 + (xs.length : Int), acc.sum, rfl, rfl, q _ _ c.sm (by omega) (by omega)⟩
def rowsN (p : Page) : Nat := p.countP Slot.isRow
def usedN (p : Page) : Nat := p.countP fun s => !s.isUn
theorem rows_used (p : Page) : rowsN p ≤ usedN p := List.countP_mono_left fun s _ h => by
  cases s with
  | row v => rfl
  | un => cases h
  | dead => cases h
  | red n => cases h
def sp_room (K : PySem.W.Frag) : Sp := s1 fun x H Q => ∃ p : Page, Td K H x (pgD p) ∧ PgOk p ∧ ∀ (n : Int) (H' : Hp), Same H H' → n ≤ 30 → 30 - 10 * (rowsN p : Int) ≤ n → Q (.int n) H'
theorem count_take {p : Page} {i : Nat} {s : Slot} (f : Slot → Bool) (h : p[i]? = some s) : (p.take (i + 1)).countP f = (p.take i).countP f + (if f s = true then 1 else 0) := by
  rw [List.take_succ, h, List.countP_append]
  simp [List.countP_cons]
theorem ok_room {P : Program} {w : World} {K : PySem.W.Frag} {mg : Str → Option Value} {base : Heap} (T : Tx K mg) : Df P w K mg base (fAd K ("room", none)) 2 [] (sp_room K) := by
  obtain ⟨fd, F⟩ := fn_room T
  refine df1 F sc_room (fun _ _ _ _ _ _ us hl => match us, hl with | [_], _ => rfl) fun page H Q h => ?_
  intro cdv A outer s E hr
  have hu := hu_of hr
  refine ⟨_, (pss_one (ps_ret (pe_op op_sub (pe_gi rfl (T.g_ROOM)) (pe_callB (cr_sumK K rfl) (by rfl) (T.b_sum) (by decide +kernel) (pa_cons (pe_lc (own := [("slot", 1)])  rfl (sc_room).nd (pi_tupK K (pv 0)) (blkOk_by (N := ["page", "slot"]) (sc := defScope t_room) (by decide +kernel)) (fun _ _ _ _ _ => (pg_name (i := 1) (sc_room).nd rfl (.inl rfl))) (fun _ _ _ _ _ => (pts_one (pt_val (pe_cf (ok_is_version T) (hr.mono (by decide)) rfl (T.g_is_version) (pa_cons (pv 1) pa_nil))))) (fun _ _ _ _ _ => (pe_cf (ok_size_of T) (hr.mono (by decide)) rfl (T.g_size_of) (pa_cons (pe_ixdK K (pv 1) (pe_gi rfl (T.g_CELLS))) pa_nil)))) pa_nil))))), ?_⟩
  obtain ⟨p, hp, ok, q⟩ := h
  obtain ⟨a, xs, ex, hq, hl, hr2⟩ := pg_open hp
  subst ex
  refine ⟨_, rfl, a, rfl, ⟨xs, hq.t⟩, fun D hD => ?_⟩
  have hq2 : ∀ H', Same H H' → SqT K H' a xs := fun H' sm => (hq.keep (Same.tk sm)).t
  refine lc_tup (K := K) (a := a) (xs := xs) (fun i H' => ∃ acc : List Int, CmW H D (acc.map V.int) H' ∧ acc.length ≤ i ∧ 0 ≤ acc.sum ∧ acc.sum ≤ 10 * ((p.take i).countP Slot.isRow : Int)) ⟨[], .start hD, Nat.le_refl _, Int.le_refl _, by simp⟩ (fun i H' _ ⟨acc, c, _⟩ => hq2 _ c.sm) ?_ ?_
  · rintro i x H' hi ⟨acc, c, l1, l2, l3⟩
    obtain ⟨d, hd, hxd⟩ := hr2.get2 hi
    rw [List.getElem?_map] at hd
    obtain ⟨s, hs, es⟩ := Option.map_eq_some_iff.mp hd
    subst es
    have il : i < p.length := (List.getElem?_eq_some_iff.mp hs).1
    have ct := count_take Slot.isRow hs
    refine ⟨rfl, ⟨_, rfl, _, rfl, s, hxd.same c.sm, _, rfl, ?_⟩⟩
    cases e : s.isRow with
    | false =>
      rw [e] at ct
      exact iteF ⟨acc, c, by omega, l2, by simp at ct; omega⟩
    | true =>
      rw [e, if_pos rfl] at ct
      refine iteT ?_
      cases s with
      | row v =>
        have okv : okKd v.kd := ok.kd v (List.mem_of_getElem? hs)
        refine ⟨_, rfl, _, 7, _, hxd.same c.sm, rfl, rfl, fun z hz => ⟨z, rfl, v.id, v.kd, hz, okv, fun n H2 sm2 n0 n1 => ?_⟩⟩
        have c2 := c.same sm2
        refine ⟨acc.map V.int, c2.at_, by rw [List.length_map]; exact small1000 (by have := ok.ln; omega), acc ++ [n], ?_⟩
        rw [List.map_append]
        refine ⟨c2.push hD _, by rw [List.length_append, List.length_singleton]; omega, ?_, ?_⟩
        · rw [List.sum_append]; simp; omega
        · rw [ct, List.sum_append]; simp; omega
      | un => cases e
      | dead => cases e
      | red n => cases e
  · rintro H' ⟨acc, c, l1, l2, l3⟩
    rw [hl, List.take_length] at l3
    exact ⟨D, acc, rfl, SqL.of c.at_, 30, acc.sum, rfl, rfl, q _ _ c.sm (by omega) (by unfold rowsN; omega)⟩
/-- the first unused slot, or the place behind the last one -/
def FreeAt (p : Page) (n : Nat) : Prop := (p[n]? = some .un) ∨ (n = p.length ∧ ∀ s ∈ p, s.isUn = false)
def sp_free_slot (K : PySem.W.Frag) : Sp := s1 fun x H Q => ∃ p : Page, Td K H x (pgD p) ∧ ∀ (n : Nat) (H' : Hp), Same H H' → FreeAt p n → Q (.int (n : Int)) H'
theorem ok_free_slot {P : Program} {w : World} {K : PySem.W.Frag} {mg : Str → Option Value} {base : Heap} (T : Tx K mg) : Df P w K mg base (fAd K ("free_slot", none)) 1 [] (sp_free_slot K) := by
  obtain ⟨fd, F⟩ := fn_free_slot T
  refine df1 F sc_free_slot (fun _ _ _ _ _ _ us hl => match us, hl with | [_], _ => rfl) fun page H Q h => ?_
  intro cdv A outer s E hr
  have hu := hu_of hr
  refine ⟨_, (pss_cons (ps_for PassesOwn.never rfl (pi_enumTK K (by rfl) (T.b_enumerate) (pa_cons (pv 0) pa_nil)) (pg_tupK K (n := 2) (by rfl) (pgs_cons (pg_name (i := 1) (sc_free_slot).nd rfl (.inl rfl)) (pgs_cons (pg_name (i := 2) (sc_free_slot).nd rfl (.inl rfl)) pgs_nil)))
    (pss_one (ps_if (pt_cmpR op_eq (pe_ixdK K (pv 2) pe_int) (pe_gs rfl (T.g_UNUSED_chains)) (nomark _)) (pss_one (ps_ret (pv 1))) pss_nil)))
    (pss_one (ps_ret (pe_callB (call_len_seqK K) (by rfl) (T.b_len) (by decide +kernel) (pa_cons (pv 0) pa_nil))))), ?_⟩
  obtain ⟨p, hp, q⟩ := h
  obtain ⟨a, xs, ex, hq, hl, hr2⟩ := pg_open hp
  subst ex
  refine ⟨_, rfl, a, xs, rfl, hq.t, ?_⟩
  refine for_et (K := K) (a := a) (xs := xs) (fun i σ H' => ∃ u v, σ = [some (.ref a), u, v] ∧ Same H H' ∧ ∀ s ∈ p.take i, s.isUn = false) ⟨none, none, rfl, .refl H, by simp⟩ (fun i σ H' _ ⟨_, _, _, sm, _⟩ => (hq.keep (Same.tk sm)).t) ?_ ?_
  · rintro i x σ H' T hi ⟨u, v, rfl, sm, hn⟩ nT
    obtain ⟨d, hd, hxd⟩ := hr2.get2 hi
    rw [List.getElem?_map] at hd
    obtain ⟨s, hs, es⟩ := Option.map_eq_some_iff.mp hd
    subst es
    have sm2 : Same H (upd H' T (.tup [.int (i : Nat), x])) := sm.trans (same_new nT)
    obtain ⟨r, hr3⟩ := s.head
    refine ⟨T, _, rfl, .inl (.inl upd_same), rfl, _, _, rfl, _, _, rfl, rfl, ?_⟩
    refine ⟨_, rfl, _, 0, _, hr3 ▸ hxd.same sm2, rfl, rfl, fun z hz => ?_⟩
    rw [hz.str_eq]
    refine ⟨rfl, _, rfl, ?_⟩
    rw [tag_un]
    cases e : s.isUn with
    | true =>
      refine iteT ⟨_, rfl, q i _ sm2 (.inl ?_)⟩
      rw [hs]
      cases s with
      | un => rfl
      | dead => cases e
      | red n => cases e
      | row v => cases e
    | false =>
      refine iteF ⟨_, _, rfl, sm2, fun t ht => ?_⟩
      rw [List.take_succ, hs] at ht
      rcases List.mem_append.mp ht with h | h
      · exact hn t h
      · have h : t = s := by simpa using h
        rw [h]
        exact e
  · rintro σ H' ⟨u, v, rfl, sm, hn⟩
    refine ⟨_, rfl, a, xs, rfl, .inr (hq.keep (Same.tk sm)).t, ?_⟩
    rw [hl] at hn ⊢
    rw [List.take_length] at hn
    exact q p.length H' sm (.inr ⟨rfl, hn⟩)
theorem used_full {p : Page} (h : ∀ s ∈ p, s.isUn = false) : usedN p = p.length := by
  unfold usedN
  rw [List.countP_eq_length]
  intro s hs
  rw [h s hs]
  rfl
def sp_fits (K : PySem.W.Frag) : Sp := s2 fun x y H Q => ∃ (p : Page) (id : Int) (kd : PyData), Td K H x (pgD p) ∧ PgOk p ∧ Td K H y (rowD id kd) ∧ okKd kd ∧
  ∀ (b : Bool) (H' : Hp), Same H H' → (b = true → ∀ n, FreeAt p n → n < 8) → (b = false → 3 ≤ usedN p) → Q (.bl b) H'
theorem free_lt {p : Page} {n m : Nat} (hp : p.length ≤ 8) (h : FreeAt p n) (hn : n < 8) (h2 : FreeAt p m) : m < 8 := by
  rcases h2 with h2 | ⟨h2, h3⟩
  · have := (List.getElem?_eq_some_iff.mp h2).1
    omega
  · rcases h with h | ⟨h, _⟩
    · have := h3 _ (List.mem_of_getElem? h)
      cases this
    · omega
theorem ok_fits {P : Program} {w : World} {K : PySem.W.Frag} {mg : Str → Option Value} {base : Heap} (T : Tx K mg) : Df P w K mg base (fAd K ("fits", none)) 3 [] (sp_fits K) := by
  obtain ⟨fd, F⟩ := fn_fits T
  refine df2 F sc_fits (fun _ _ _ _ _ _ us hl => match us, hl with | [_, _], _ => rfl) fun page cells H Q h => ?_
  intro cdv A outer s E hr
  have hu := hu_of hr
  refine ⟨_, (pss_one (ps_ret (pe_and (pe_cmpR op_le (pe_cf (ok_size_of T) (hr.mono (by decide)) rfl (T.g_size_of) (pa_cons (pv 1) pa_nil)) (pe_cf (ok_room T) (hr.mono (by decide)) rfl (T.g_room) (pa_cons (pv 0) pa_nil)) (nomark _)) (pe_one (pe_cmpR op_lt (pe_cf (ok_free_slot T) (hr.mono (by decide)) rfl (T.g_free_slot) (pa_cons (pv 0) pa_nil)) (pe_gi rfl (T.g_SLOTS)) (nomark _)))))), ?_⟩
  obtain ⟨p, id, kd, hp, ok, hy, okk, q⟩ := h
  refine ⟨_, rfl, _, rfl, id, kd, hy, okk, fun n H1 sm1 n0 n1 => ?_⟩
  refine ⟨_, rfl, _, rfl, p, hp.same sm1, ok, fun m H2 sm2 m0 m1 => ?_⟩
  have sm := sm1.trans sm2
  refine ⟨n, m, rfl, rfl, _, rfl, ite2 (fun h => ?_) fun h => ?_⟩
  · refine ⟨_, rfl, _, rfl, p, hp.same sm, fun f H3 sm3 hf => ⟨(f : Int), 8, rfl, rfl, ?_⟩⟩
    have eq : decide ((f : Int) < 8) = decide (f < 8) := decide_eq_decide.mpr (by omega)
    show Q (.bl (decide ((f : Int) < 8))) H3
    rw [eq]
    refine q _ _ (sm.trans sm3) (fun hb k hk => free_lt ok.ln hf (of_decide_eq_true hb) hk) fun hb => ?_
    have hb : ¬ f < 8 := of_decide_eq_false hb
    rcases hf with hf | ⟨hf, hall⟩
    · have := (List.getElem?_eq_some_iff.mp hf).1
      have := ok.ln
      omega
    · rw [used_full hall]
      omega
  · have h : ¬ n ≤ m := fun z => h (decide_eq_true z)
    refine q false _ sm nofun fun _ => ?_
    have := rows_used p
    omega
/-! ### dead, seen by all -/
def deadV (us ss : List Nat) (v : Ver) : Bool := decide (v.mkr ∈ us) || (match v.en with
  | some (e, _) => decide (e ∈ ss)
  | none => false)
def inO (us : List Nat) : Option Nat → Bool
  | some n => decide (n ∈ us)
  | none => false
theorem in_num {K : PySem.W.Frag} {H : Hp} {x : V} {o : Option Nat} (h : Td K H x (numO o)) (us : List Nat) : flatV x = true ∧ inV x (IL us) = inO us o := by
  cases o with
  | none =>
    rw [h.non_eq]
    exact ⟨rfl, IL_non us⟩
  | some n =>
    rw [h.int_eq]
    exact ⟨rfl, IL_in n us⟩
def sp_is_dead (K : PySem.W.Frag) : Sp := s3 fun x y z H Q => ∃ (v : Ver) (a b : Addr) (us ss : List Nat), Td K H x v.d ∧ y = .ref a ∧ H a = some (.lst (IL us)) ∧ z = .ref b ∧ H b = some (.lst (IL ss)) ∧ Q (.bl (deadV us ss v)) H
theorem ok_is_dead {P : Program} {w : World} {K : PySem.W.Frag} {mg : Str → Option Value} {base : Heap} (T : Tx K mg) : Df P w K mg base (fAd K ("is_dead", none)) 1 [] (sp_is_dead K) := by
  obtain ⟨fd, F⟩ := fn_is_dead T
  refine df3 F sc_is_dead (fun _ _ _ _ _ _ us hl => match us, hl with | [_, _, _], _ => rfl) fun version undone settled H Q h => ?_
  intro cdv A outer s E hr
  have hu := hu_of hr
  refine ⟨_, (pss_one (ps_ret (pe_or (pe_cmpR (op_in_seqK K) (pe_ixdK K (pv 0) (pe_gi rfl (T.g_MAKER_chains))) (pv 1) rfl) (pe_one (pe_cmpR (op_in_seqK K) (pe_ixdK K (pv 0) (pe_gi rfl (T.g_ENDER_chains))) (pv 2) rfl))))), ?_⟩
  obtain ⟨v, a, b, us, ss, hv, ea, ha, eb, hb, q⟩ := h
  subst ea eb
  refine ⟨_, rfl, _, 1, _, hv, rfl, rfl, fun x hx => ?_⟩
  rw [hx.int_eq]
  refine ⟨_, rfl, a, _, rfl, .inl (SqL.of ha), rfl, IL_flat us, _, rfl, ?_⟩
  show if inV (V.int ((v.mkr : Nat) : Int)) (IL us) = true then _ else _
  rw [IL_in]
  refine ite2 (fun h => ?_) fun h => ?_
  · have e : deadV us ss v = true := by unfold deadV; rw [h]; rfl
    rw [e] at q
    exact q
  · refine ⟨_, rfl, _, 3, _, hv, rfl, rfl, fun y hy => ⟨_, rfl, b, _, rfl, .inl (SqL.of hb), (in_num hy ss).1, IL_flat ss, ?_⟩⟩
    have e : deadV us ss v = inV y (IL ss) := by
      rw [(in_num hy ss).2]
      unfold deadV
      rw [Bool.eq_false_iff.mpr h, Bool.false_or]
      cases v.en with
      | none => rfl
      | some p => rfl
    rw [e] at q
    exact q
def sp_is_seen_by_all (K : PySem.W.Frag) : Sp := s3 fun x y z H Q => ∃ (v : Ver) (a b : Addr) (us ss : List Nat), Td K H x v.d ∧ y = .ref a ∧ H a = some (.lst (IL us)) ∧ z = .ref b ∧ H b = some (.lst (IL ss)) ∧ ∀ c, Q (.bl c) H
theorem ok_is_seen_by_all {P : Program} {w : World} {K : PySem.W.Frag} {mg : Str → Option Value} {base : Heap} (T : Tx K mg) : Df P w K mg base (fAd K ("is_seen_by_all", none)) 1 [] (sp_is_seen_by_all K) := by
  obtain ⟨fd, F⟩ := fn_is_seen_by_all T
  refine df3 F sc_is_seen_by_all (fun _ _ _ _ _ _ us hl => match us, hl with | [_, _, _], _ => rfl) fun version undone settled H Q h => ?_
  intro cdv A outer s E hr
  have hu := hu_of hr
  refine ⟨_, (pss_one (ps_ret (pe_and (pe_cmpR (op_in_seqK K) (pe_ixdK K (pv 0) (pe_gi rfl (T.g_MAKER_chains))) (pv 2) rfl) (pe_one (pe_or (pe_cmp (pc_isN (pe_ixdK K (pv 0) (pe_gi rfl (T.g_ENDER_chains)))) rfl) (pe_one (pe_cmpR (op_in_seqK K) (pe_ixdK K (pv 0) (pe_gi rfl (T.g_ENDER_chains))) (pv 1) rfl))))))), ?_⟩
  obtain ⟨v, a, b, us, ss, hv, ea, ha, eb, hb, q⟩ := h
  subst ea eb
  refine ⟨_, rfl, _, 1, _, hv, rfl, rfl, fun x hx => ?_⟩
  rw [hx.int_eq]
  refine ⟨_, rfl, b, _, rfl, .inl (SqL.of hb), rfl, IL_flat ss, _, rfl, ?_⟩
  refine ite2 (fun h => ?_) fun h => q false
  refine ⟨_, rfl, _, 3, _, hv, rfl, rfl, fun y hy => ⟨_, rfl, ?_⟩⟩
  refine ite2 (fun h => q true) fun h => ?_
  exact ⟨_, rfl, _, 3, _, hv, rfl, rfl, fun y hy => ⟨_, rfl, a, _, rfl, .inl (SqL.of ha), (in_num hy us).1, IL_flat us, q _⟩⟩
def sp_dead_ahead (K : PySem.W.Frag) : Sp := s4 fun x y z u H Q => ∃ (p : Page) (l a b : Addr) (ms us ss : List Nat), Td K H x (pgD p) ∧ y = .ref l ∧ H l = some (.lst (IL ms)) ∧ z = .ref a ∧ H a = some (.lst (IL us)) ∧ u = .ref b ∧ H b = some (.lst (IL ss)) ∧
  (∀ m ∈ ms, ∃ v, p[m]? = some (.row v)) ∧ ∀ n : Nat, n ≤ ms.length → (∀ i m v, i < n → ms[i]? = some m → p[m]? = some (.row v) → deadV us ss v = true) → Q (.int (n : Int)) H
theorem ok_dead_ahead {P : Program} {w : World} {K : PySem.W.Frag} {mg : Str → Option Value} {base : Heap} (T : Tx K mg) : Df P w K mg base (fAd K ("dead_ahead", none)) 2 [] (sp_dead_ahead K) := by
  obtain ⟨fd, F⟩ := fn_dead_ahead T
  refine df4 F sc_dead_ahead (fun _ _ _ _ _ _ us hl => match us, hl with | [_, _, _, _], _ => rfl) fun page row undone settled H Q h => ?_
  intro cdv A outer s E hr
  have hu := hu_of hr
  refine ⟨_, (pss_cons (ps_set (i := 4) (sc_dead_ahead).nd rfl (.inl rfl) pe_int)
    (pss_cons (ps_while PassesOwn.never (PW.pt (pw_and (pt_cmpR op_lt (pv 4) (pe_callB (call_len_seqK K) (by rfl) (T.b_len) (by decide +kernel) (pa_cons (pv 1) pa_nil)) (nomark _)) (pw_and1 (pt_val (pe_cf (ok_is_dead T) (hr.mono (by decide)) rfl (T.g_is_dead) (pa_cons (pe_ixdK K (pv 0) (pe_ix (ix_listK K) (pv 1) (pv 4) (fun _ _ => rfl))) (pa_cons (pv 2) (pa_cons (pv 3) pa_nil)))))))) (pss_one (ps_aug (i := 4) (sc_dead_ahead).nd rfl (.inl rfl) pe_int ip_add)))
    (pss_one (ps_ret (pv 4))))), ?_⟩
  obtain ⟨p, l, a, b, ms, us, ss, hp, el, hl, ea, ha, eb, hb, hr2, q⟩ := h
  subst el ea eb
  refine ⟨fun m σ' H' => ∃ n : Nat, H' = H ∧ σ' = [some page, some (.ref l), some (.ref a), some (.ref b), some (.int (n : Int))] ∧ n ≤ ms.length ∧ (∀ i m v, i < n → ms[i]? = some m → p[m]? = some (.row v) → deadV us ss v = true) ∧ m = ms.length - n, ⟨_, 0, rfl, rfl, Nat.zero_le _, fun i _ _ h => absurd h (Nat.not_lt_zero i), rfl⟩, ?_⟩
  rintro m σ' H' ⟨n, rfl, rfl, hn, hd, em⟩
  refine ⟨_, rfl, _, rfl, l, _, rfl, .inl (SqL.of hl), (n : Int), ((IL ms).length : Int), rfl, rfl, _, rfl, ?_⟩
  rw [IL_len]
  refine ite2 (fun h => ?_) fun h => ⟨_, rfl, q n hn hd⟩
  have h : n < ms.length := by
    have := of_decide_eq_true h
    omega
  have hm : ms[n]? = some ms[n] := List.getElem?_eq_getElem h
  obtain ⟨v, hv⟩ := hr2 _ (List.getElem_mem h)
  refine ⟨_, rfl, _, rfl, _, rfl, l, _, (n : Int), .int ((ms[n] : Nat) : Int), rfl, rfl, SqL.of hl, atI_nat (IL_at hm), ?_⟩
  refine ⟨_, ms[n], _, hp, rfl, pg_at hv, fun x hx => ⟨_, rfl, _, rfl, _, _, _, rfl, v, a, b, us, ss, hx, rfl, ha, rfl, hb, _, rfl, ?_⟩⟩
  refine ite2 (fun h2 => ?_) fun h2 => ⟨_, rfl, q n hn hd⟩
  refine ⟨fun σ2 H2 => ∃ m', m' < m ∧ ∃ n : Nat, H2 = H' ∧ σ2 = [some page, some (.ref l), some (.ref a), some (.ref b), some (.int (n : Int))] ∧ n ≤ ms.length ∧ (∀ i m v, i < n → ms[i]? = some m → p[m]? = some (.row v) → deadV us ss v = true) ∧ m' = ms.length - n, fun _ _ z => z, ?_⟩
  refine ⟨_, rfl, (n : Int), 1, rfl, rfl, ms.length - (n + 1), by omega, n + 1, rfl, rfl, h, fun i j u hi hj hu => ?_, rfl⟩
  by_cases hin : i < n
  · exact hd i j u hin hj hu
  · have ein : i = n := by omega
    subst ein
    rw [hm] at hj
    cases hj
    rw [hv] at hu
    cases hu
    exact h2
def sp_is_clear (K : PySem.W.Frag) : Sp := s3 fun x y z H Q => ∃ (p : Page) (a b : Addr) (us ss : List Nat), Td K H x (pgD p) ∧ p.length ≤ 1000 ∧ y = .ref a ∧ H a = some (.lst (IL us)) ∧ z = .ref b ∧ H b = some (.lst (IL ss)) ∧ ∀ c H', Same H H' → Q (.bl c) H'
theorem ok_is_clear {P : Program} {w : World} {K : PySem.W.Frag} {mg : Str → Option Value} {base : Heap} (T : Tx K mg) : Df P w K mg base (fAd K ("is_clear", none)) 2 [] (sp_is_clear K) := by
  obtain ⟨fd, F⟩ := fn_is_clear T
  refine df3 F sc_is_clear (fun _ _ _ _ _ _ us hl => match us, hl with | [_, _, _], _ => rfl) fun page undone settled H Q h => ?_
  intro cdv A outer s E hr
  have hu := hu_of hr
  refine ⟨_, (pss_cons (ps_if (pt_val (pe_callB (cr_anyK K rfl) (by rfl) (T.b_any) (by decide +kernel) (pa_cons (pe_lc (own := [("slot", 3)]) (tt := tYes) rfl (sc_is_clear).nd (pi_tupK K (pv 0)) (blkOk_by (N := ["page", "undone", "settled", "slot"]) (sc := defScope t_is_clear) (by decide +kernel)) (fun _ _ _ _ _ => (pg_name (i := 3) (sc_is_clear).nd rfl (.inl rfl))) (fun _ _ _ _ _ => pts_nil) (fun _ _ _ _ _ => (pe_cmpR op_eq (pe_ixdK K (pv 3) pe_int) (pe_gs rfl (T.g_DEAD_chains)) (nomark _)))) pa_nil))) (pss_one (ps_ret pe_bl)) pss_nil)
    (pss_one (ps_ret (pe_callB (cr_allK K rfl) (by rfl) (T.b_all) (by decide +kernel) (pa_cons (pe_lc (own := [("slot", 3)])  rfl (sc_is_clear).nd (pi_tupK K (pv 0)) (blkOk_by (N := ["page", "undone", "settled", "slot"]) (sc := defScope t_is_clear) (by decide +kernel)) (fun _ _ _ _ _ => (pg_name (i := 3) (sc_is_clear).nd rfl (.inl rfl))) (fun _ _ _ _ _ => (pts_one (pt_val (pe_cf (ok_is_version T) (hr.mono (by decide)) rfl (T.g_is_version) (pa_cons (pv 3) pa_nil))))) (fun _ _ _ _ _ => (pe_cf (ok_is_seen_by_all T) (hr.mono (by decide)) rfl (T.g_is_seen_by_all) (pa_cons (pv 3) (pa_cons (pv 1) (pa_cons (pv 2) pa_nil)))))) pa_nil))))), ?_⟩
  obtain ⟨p, a, b, us, ss, hp, pl, ea, ha, eb, hb, q⟩ := h
  subst ea eb
  obtain ⟨pa, xs, ex, hq, hl, hr2⟩ := pg_open hp
  subst ex
  refine ⟨_, rfl, pa, rfl, ⟨xs, hq.t⟩, fun D hD => ?_⟩
  refine lc_tup (K := K) (a := pa) (xs := xs) (fun i H' => ∃ acc : List Bool, CmW H D (acc.map V.bl) H' ∧ acc.length ≤ i) ⟨[], .start hD, Nat.le_refl _⟩ (fun i H' _ ⟨acc, c, _⟩ => (hq.keep (Same.tk c.sm)).t) ?_ ?_
  · rintro i x H' hi ⟨acc, c, l1⟩
    obtain ⟨d, hd, hxd⟩ := hr2.get2 hi
    rw [List.getElem?_map] at hd
    obtain ⟨s, hs, es⟩ := Option.map_eq_some_iff.mp hd
    subst es
    have il : i < p.length := (List.getElem?_eq_some_iff.mp hs).1
    obtain ⟨r, hr3⟩ := s.head
    refine ⟨rfl, ?_⟩
    unfold tYes
    refine iteT ?_
    refine ⟨_, rfl, _, 0, _, hr3 ▸ hxd.same c.sm, rfl, rfl, fun z hz => ?_⟩
    rw [hz.str_eq]
    exact ⟨rfl, acc.map V.bl, c.at_, by rw [List.length_map]; exact small1000 (by omega), acc ++ [_], by rw [List.map_append]; exact c.push hD _, by rw [List.length_append, List.length_singleton]; omega⟩
  · rintro H1 ⟨acc, c, l1⟩
    refine ⟨D, acc, rfl, SqL.of c.at_, _, rfl, ?_⟩
    refine ite2 (fun _ => q _ _ c.sm) fun _ => ?_
    have hq1 : SqT K H1 pa xs := (hq.keep (Same.tk c.sm)).t
    refine ⟨_, rfl, pa, rfl, ⟨xs, hq1⟩, fun D2 hD2 => ?_⟩
    refine lc_tup (K := K) (a := pa) (xs := xs) (fun i H' => ∃ acc : List Bool, CmW H1 D2 (acc.map V.bl) H' ∧ acc.length ≤ i) ⟨[], .start hD2, Nat.le_refl _⟩ (fun i H' _ ⟨acc, c2, _⟩ => (hq.keep (Same.tk (c.sm.trans c2.sm))).t) ?_ ?_
    · rintro i x H' hi ⟨acc2, c2, l2⟩
      obtain ⟨d, hd, hxd⟩ := hr2.get2 hi
      rw [List.getElem?_map] at hd
      obtain ⟨s, hs, es⟩ := Option.map_eq_some_iff.mp hd
      subst es
      have il : i < p.length := (List.getElem?_eq_some_iff.mp hs).1
      have sm := c.sm.trans c2.sm
      refine ⟨rfl, _, rfl, _, rfl, s, hxd.same sm, _, rfl, ?_⟩
      cases e : s.isRow with
      | false => exact iteF ⟨acc2, c2, by omega⟩
      | true =>
        cases s with
        | row v =>
          refine iteT ⟨_, rfl, _, rfl, _, rfl, _, _, _, rfl, v, a, b, us, ss, hxd.same sm, rfl, sm _ _ ha, rfl, sm _ _ hb, fun cc => ?_⟩
          exact ⟨acc2.map V.bl, c2.at_, by rw [List.length_map]; exact small1000 (by omega), acc2 ++ [cc], by rw [List.map_append]; exact c2.push hD2 _, by rw [List.length_append, List.length_singleton]; omega⟩
        | un => cases e
        | dead => cases e
        | red n => cases e
    · rintro H2 ⟨acc2, c2, l2⟩
      exact ⟨D2, acc2, rfl, SqL.of c2.at_, q _ _ (c.sm.trans c2.sm)⟩
end Rc


set_option Elab.async false
set_option linter.all false
set_option maxRecDepth 100000
set_option maxHeartbeats 4000000
namespace Rc
open PySem PySem.Spec PyProof.Rows L2 He
/-! ### small ones -/
def ID (us : List Nat) : PyData := .tuple (us.map fun (n : Nat) => .int (n : Int))
theorem tds_ints {K : PySem.W.Frag} {H : Hp} : ∀ {us : List Nat} {xs : List V}, Tds K H xs (us.map fun (n : Nat) => PyData.int (n : Int)) → xs = IL us
  | [], _, h => by
    cases h
    rfl
  | u :: us, _, h => by
    cases h with
    | cons a r =>
      rw [a.int_eq, tds_ints r]
      rfl
theorem ints_tds {K : PySem.W.Frag} {H : Hp} : ∀ (us : List Nat), Tds K H (IL us) (us.map fun (n : Nat) => PyData.int (n : Int))
  | [] => .nil
  | u :: us => .cons (.int _) (ints_tds us)
theorem id_open {K : PySem.W.Frag} {H : Hp} {x : V} {us : List Nat} (h : Td K H x (ID us)) : ∃ a, x = .ref a ∧ TqAt K H a (IL us) := by
  obtain ⟨a, xs, e, q, r⟩ := h.tup_eq
  have e2 := tds_ints r
  subst e2
  exact ⟨a, e, q⟩
def sp_version_of (K : PySem.W.Frag) : Sp := s4 fun x y z u H Q => ∃ (m c : Nat) (b : Bool) (id : Int) (kd : PyData), x = .int (m : Int) ∧ y = .int (c : Int) ∧ z = .bl b ∧ Td K H u (rowD id kd) ∧
  ∀ v H', Same H H' → Td K H' v (Ver.d ⟨m, c, none, none, b, id, kd⟩) → Q v H'
theorem ok_version_of {P : Program} {w : World} {K : PySem.W.Frag} {mg : Str → Option Value} {base : Heap} (T : Tx K mg) : Df P w K mg base (fAd K ("version_of", none)) 1 [] (sp_version_of K) := by
  obtain ⟨fd, F⟩ := fn_version_of T
  refine df4 F sc_version_of (fun _ _ _ _ _ _ us hl => match us, hl with | [_, _, _, _], _ => rfl) fun part command only cells H Q h => ?_
  intro cdv A outer s E hr
  have hu := hu_of hr
  refine ⟨_, (pss_one (ps_ret (pe_tupdK K (pa_cons (pe_gs rfl (T.g_ROW_table)) (pa_cons (pv 0) (pa_cons (pv 1) (pa_cons pe_non (pa_cons pe_non (pa_cons pe_non (pa_cons (pv 2) (pa_cons (pe_callTy (call_tuple_ofK K) (by rfl) (T.b_tuple) (by decide +kernel) (pa_cons (pv 3) pa_nil)) pa_nil))))))))))), ?_⟩
  obtain ⟨m, c, b, id, kd, ex, ey, ez, hc, q⟩ := h
  subst ex ey ez
  obtain ⟨a, xs, e, hq, hr2⟩ := hc.tup_eq
  subst e
  exact ⟨_, rfl, _, rfl, _, rfl, _, rfl, a, xs, rfl, .inr ⟨hq.t, _, .cons (.str _) (.cons (.int _) (.cons (.int _) (.cons .non (.cons .non (.cons .non (.cons (.bl _) (.cons hc .nil))))))), Nat.le_of_ble_eq_true rfl, q⟩⟩
def setAt (p : Page) (n : Nat) (s : Slot) : Page := p.take n ++ s :: p.drop (n + 1)
theorem setAt_lt {p : Page} {n : Nat} (s : Slot) (h : n < p.length) : setAt p n s = p.set n s := by
  unfold setAt
  rw [List.set_eq_take_append_cons_drop, if_pos h]
theorem cutD_to {ds : List PyData} {n : Nat} : cutD ds none (some (n : Int)) = ds.take n := by
  unfold cutD
  rw [HT.sIx_none, HT.sIx_nat, List.drop_zero, Nat.sub_zero]
  by_cases h : n ≤ ds.length
  · rw [Nat.min_eq_left h]
  · rw [Nat.min_eq_right (by omega), List.take_length, List.take_of_length_le (by omega)]
theorem cutD_from {ds : List PyData} {n : Nat} : cutD ds (some (n : Int)) none = ds.drop n := by
  unfold cutD
  rw [HT.sIx_none, HT.sIx_nat]
  by_cases h : n ≤ ds.length
  · rw [Nat.min_eq_left h, List.take_of_length_le (by rw [List.length_drop]; omega)]
  · rw [Nat.min_eq_right (by omega), List.drop_of_length_le (Nat.le_refl _), List.drop_of_length_le (by omega), List.take_nil]
def sp_with_slot (K : PySem.W.Frag) : Sp := s3 fun x y z H Q => ∃ (p : Page) (n : Nat) (s : Slot), Td K H x (pgD p) ∧ p.length ≤ 100 ∧ y = .int (n : Int) ∧ Td K H z s.d ∧
  ∀ v H', Same H H' → Td K H' v (pgD (setAt p n s)) → Q v H'
theorem ok_with_slot {P : Program} {w : World} {K : PySem.W.Frag} {mg : Str → Option Value} {base : Heap} (T : Tx K mg) : Df P w K mg base (fAd K ("with_slot", none)) 1 [] (sp_with_slot K) := by
  obtain ⟨fd, F⟩ := fn_with_slot T
  refine df3 F sc_with_slot (fun _ _ _ _ _ _ us hl => match us, hl with | [_, _, _], _ => rfl) fun page slot what H Q h => ?_
  intro cdv A outer s E hr
  have hu := hu_of hr
  refine ⟨_, (pss_one (ps_ret (pe_op (op_catdK K) (pe_op (op_catdK K) (pe_slice (sl_dK K) (pv 0) po_none (po_some (pv 1))) (pe_tupdK K (pa_cons (pv 2) pa_nil))) (pe_slice (sl_dK K) (pv 0) (po_some (pe_op op_add (pv 1) pe_int)) po_none)))), ?_⟩
  obtain ⟨p, n, s', hp, l, ey, hz, q⟩ := h
  subst ey
  refine ⟨_, rfl, _, rfl, (n : Int), rfl, _, hp, fun v1 H1 sm1 h1 => ?_⟩
  rw [cutD_to] at h1
  refine ⟨_, rfl, _, Tds.cons (hz.same sm1) .nil, Nat.le_of_ble_eq_true rfl, fun v2 H2 sm2 h2 => ?_⟩
  refine ⟨_, _, h1.same sm2, h2, by simp; omega, fun v3 H3 sm3 h3 => ?_⟩
  have sm := (sm1.trans sm2).trans sm3
  refine ⟨_, rfl, _, rfl, _, _, rfl, rfl, _, rfl, _, hp.same sm, fun v4 H4 sm4 h4 => ?_⟩
  have e : ((n : Int) + 1) = ((n + 1 : Nat) : Int) := by omega
  rw [e, cutD_from] at h4
  refine ⟨_, _, h3.same sm4, h4, by simp; omega, fun v5 H5 sm5 h5 => ?_⟩
  refine q v5 H5 ((sm.trans sm4).trans sm5) ?_
  have e2 : pgD (setAt p n s') = .tuple ((List.take n (p.map Slot.d) ++ [s'.d]) ++ List.drop (n + 1) (p.map Slot.d)) := by
    unfold pgD setAt
    rw [List.map_append, List.map_cons, List.map_take, List.map_drop, List.append_assoc]
    rfl
  rw [e2]
  exact h5
/-! ### what a snapshot sees -/
structure Sn where
  fol : Nat
  run : List Nat
  own : List Nat
  cmd : Nat
def Sn.d (s : Sn) : PyData := .tuple [.int (s.fol : Int), ID s.run, ID s.own, .int (s.cmd : Int)]
def countsB (s : Sn) (n c : Nat) (us : List Nat) : Bool := if n ∈ us then false else if n ∈ s.own then decide (c < s.cmd) else decide (n < s.fol) && !decide (n ∈ s.run)
def sp_counts (K : PySem.W.Frag) : Sp := s4 fun x y z u H Q => ∃ (sn : Sn) (n c : Nat) (a : Addr) (us : List Nat), Td K H x sn.d ∧ y = .int (n : Int) ∧ z = .int (c : Int) ∧ u = .ref a ∧ H a = some (.lst (IL us)) ∧ Q (.bl (countsB sn n c us)) H
theorem ok_counts {P : Program} {w : World} {K : PySem.W.Frag} {mg : Str → Option Value} {base : Heap} (T : Tx K mg) : Df P w K mg base (fAd K ("counts", none)) 1 [] (sp_counts K) := by
  obtain ⟨fd, F⟩ := fn_counts T
  refine df4 F sc_counts (fun _ _ _ _ _ _ us hl => match us, hl with | [_, _, _, _], _ => rfl) fun snapshot number command undone H Q h => ?_
  intro cdv A outer s E hr
  have hu := hu_of hr
  refine ⟨_, (pss_cons (ps_asg (pv 0) (pg_tupK K (n := 4) (by rfl) (pgs_cons (pg_name (i := 4) (sc_counts).nd rfl (.inl rfl)) (pgs_cons (pg_name (i := 5) (sc_counts).nd rfl (.inl rfl)) (pgs_cons (pg_name (i := 6) (sc_counts).nd rfl (.inl rfl)) (pgs_cons (pg_name (i := 7) (sc_counts).nd rfl (.inl rfl)) pgs_nil))))))
    (pss_cons (ps_if (pt_cmpR (op_in_seqK K) (pv 1) (pv 3) rfl) (pss_one (ps_ret pe_bl)) pss_nil)
    (pss_cons (ps_if (pt_cmpR (op_in_seqK K) (pv 1) (pv 6) rfl) (pss_one (ps_ret (pe_cmpR op_lt (pv 2) (pv 7) (nomark _)))) pss_nil)
    (pss_one (ps_ret (pe_and (pe_cmpR op_lt (pv 1) (pv 4) (nomark _)) (pe_one (pe_cmpR (op_notIn_seqK K) (pv 1) (pv 5) rfl)))))))), ?_⟩
  obtain ⟨sn, n, c, a, us, hx, ey, ez, eu, hu2, q⟩ := h
  subst ey ez eu
  obtain ⟨b, xs, ex, hq, hr2⟩ := hx.tup_eq
  subst ex
  cases hr2 with | cons h1 hr2 =>
  cases hr2 with | cons h2 hr2 =>
  cases hr2 with | cons h3 hr2 =>
  cases hr2 with | cons h4 hr2 =>
  cases hr2
  rw [h1.int_eq, h4.int_eq] at hq
  obtain ⟨b2, e2, q2⟩ := id_open h2
  obtain ⟨b3, e3, q3⟩ := id_open h3
  subst e2 e3
  refine ⟨_, rfl, b, _, rfl, hq.t, rfl, _, _, rfl, _, _, rfl, _, _, rfl, _, _, rfl, rfl, ?_⟩
  unfold countsB at q
  refine ⟨_, rfl, _, rfl, a, _, rfl, .inl (SqL.of hu2), rfl, IL_flat us, _, rfl, ?_⟩
  show if inV (V.int ((n : Nat) : Int)) (IL us) = true then _ else _
  rw [IL_in]
  refine ite2 (fun h => ?_) fun h => ?_
  · rw [if_pos (of_decide_eq_true h)] at q
    exact q
  rw [if_neg (fun z => h (decide_eq_true z))] at q
  refine ⟨_, rfl, _, rfl, b3, _, rfl, .inr q3.t, rfl, IL_flat _, _, rfl, ?_⟩
  show if inV (V.int ((n : Nat) : Int)) (IL sn.own) = true then _ else _
  rw [IL_in]
  refine ite2 (fun h => ?_) fun h => ?_
  · rw [if_pos (of_decide_eq_true h)] at q
    refine ⟨_, rfl, _, rfl, _, _, rfl, rfl, ?_⟩
    have e : decide ((c : Int) < (sn.cmd : Int)) = decide (c < sn.cmd) := decide_eq_decide.mpr (by omega)
    have e2 : Q (.bl (decide ((c : Int) < (sn.cmd : Int)))) H := by rw [e]; exact q
    exact e2
  rw [if_neg (fun z => h (decide_eq_true z))] at q
  refine ⟨_, rfl, _, rfl, _, _, rfl, rfl, _, rfl, ?_⟩
  have e : decide ((n : Int) < (sn.fol : Int)) = decide (n < sn.fol) := decide_eq_decide.mpr (by omega)
  show if decide ((n : Int) < (sn.fol : Int)) = true then _ else _
  refine ite2 (fun h => ?_) fun h => ?_
  · rw [← e, h, Bool.true_and] at q
    refine ⟨_, rfl, _, rfl, b2, _, rfl, .inr q2.t, rfl, IL_flat _, ?_⟩
    show Q (.bl (!inV (V.int ((n : Nat) : Int)) (IL sn.run))) H
    rw [IL_in]
    exact q
  · rw [← e, Bool.eq_false_iff.mpr h, Bool.false_and] at q
    exact q
def seesB (s : Sn) (us : List Nat) (v : Ver) : Bool := countsB s v.mkr v.mde us && (match v.en with
  | some (e, c) => !countsB s e c us
  | none => true)
def sp_sees (K : PySem.W.Frag) : Sp := s3 fun x y z H Q => ∃ (sn : Sn) (v : Ver) (a : Addr) (us : List Nat), Td K H x sn.d ∧ Td K H y v.d ∧ z = .ref a ∧ H a = some (.lst (IL us)) ∧ Q (.bl (seesB sn us v)) H
theorem ok_sees {P : Program} {w : World} {K : PySem.W.Frag} {mg : Str → Option Value} {base : Heap} (T : Tx K mg) : Df P w K mg base (fAd K ("sees", none)) 2 [] (sp_sees K) := by
  obtain ⟨fd, F⟩ := fn_sees T
  refine df3 F sc_sees (fun _ _ _ _ _ _ us hl => match us, hl with | [_, _, _], _ => rfl) fun snapshot version undone H Q h => ?_
  intro cdv A outer s E hr
  have hu := hu_of hr
  refine ⟨_, (pss_cons (ps_if (pt_not (pt_val (pe_cf (ok_counts T) (hr.mono (by decide)) rfl (T.g_counts) (pa_cons (pv 0) (pa_cons (pe_ixdK K (pv 1) (pe_gi rfl (T.g_MAKER_sight))) (pa_cons (pe_ixdK K (pv 1) (pe_gi rfl (T.g_MADE))) (pa_cons (pv 2) pa_nil))))))) (pss_one (ps_ret pe_bl)) pss_nil)
    (pss_one (ps_ret (pe_or (pe_cmp (pc_isN (pe_ixdK K (pv 1) (pe_gi rfl (T.g_ENDER_sight)))) rfl) (pe_one (pe_not (pe_cf (ok_counts T) (hr.mono (by decide)) rfl (T.g_counts) (pa_cons (pv 0) (pa_cons (pe_ixdK K (pv 1) (pe_gi rfl (T.g_ENDER_sight))) (pa_cons (pe_ixdK K (pv 1) (pe_gi rfl (T.g_ENDED))) (pa_cons (pv 2) pa_nil))))))))))), ?_⟩
  obtain ⟨sn, v, a, us, hx, hy, ez, ha, q⟩ := h
  subst ez
  unfold seesB at q
  refine ⟨_, rfl, _, rfl, _, 1, _, hy, rfl, rfl, fun y1 h1 => ⟨_, rfl, _, 2, _, hy, rfl, rfl, fun y2 h2 => ⟨_, rfl, ?_⟩⟩⟩
  rw [h1.int_eq, h2.int_eq]
  refine ⟨_, _, _, _, rfl, sn, v.mkr, v.mde, a, us, hx, rfl, rfl, rfl, ha, _, rfl, ?_⟩
  cases e : countsB sn v.mkr v.mde us with
  | false =>
    rw [e, Bool.false_and] at q
    exact iteT q
  | true =>
    rw [e, Bool.true_and] at q
    refine iteF ⟨_, rfl, _, 3, _, hy, rfl, rfl, fun y3 h3 => ⟨_, rfl, ?_⟩⟩
    cases ee : v.en with
    | none =>
      rw [ee] at h3 q
      rw [h3.non_eq]
      exact ite2 (fun _ => q) fun z => absurd (decide_eq_true rfl) z
    | some ec =>
      obtain ⟨en, ec⟩ := ec
      rw [ee] at h3 q
      rw [h3.int_eq]
      refine ite2 (fun z => absurd (of_decide_eq_true z) (fun z => nomatch z)) fun _ => ?_
      refine ⟨_, rfl, _, rfl, _, 3, _, hy, rfl, rfl, fun y4 h4 => ⟨_, rfl, _, 4, _, hy, rfl, rfl, fun y5 h5 => ⟨_, rfl, ?_⟩⟩⟩
      rw [ee] at h4 h5
      rw [h4.int_eq, h5.int_eq]
      exact ⟨_, _, _, _, rfl, sn, en, ec, a, us, hx, rfl, rfl, rfl, ha, _, rfl, q⟩
def sp_is_past (K : PySem.W.Frag) : Sp := s2 fun x y H Q => ∃ (sn : Sn) (n : Nat), Td K H x sn.d ∧ y = .int (n : Int) ∧ ∀ b, Q (.bl b) H
theorem ok_is_past {P : Program} {w : World} {K : PySem.W.Frag} {mg : Str → Option Value} {base : Heap} (T : Tx K mg) : Df P w K mg base (fAd K ("is_past", none)) 1 [] (sp_is_past K) := by
  obtain ⟨fd, F⟩ := fn_is_past T
  refine df2 F sc_is_past (fun _ _ _ _ _ _ us hl => match us, hl with | [_, _], _ => rfl) fun snapshot number H Q h => ?_
  intro cdv A outer s E hr
  have hu := hu_of hr
  refine ⟨_, (pss_one (ps_ret (pe_and (pe_cmpR op_lt (pv 1) (pe_ixdK K (pv 0) pe_int) (nomark _)) (pe_one (pe_cmpR (op_notIn_seqK K) (pv 1) (pe_ixdK K (pv 0) pe_int) rfl))))), ?_⟩
  obtain ⟨sn, n, hx, ey, q⟩ := h
  subst ey
  refine ⟨_, rfl, _, rfl, _, 0, _, hx, rfl, rfl, fun y1 h1 => ?_⟩
  rw [h1.int_eq]
  refine ⟨_, _, rfl, rfl, _, rfl, ite2 (fun _ => ?_) fun _ => q _⟩
  refine ⟨_, rfl, _, rfl, _, 1, _, hx, rfl, rfl, fun y2 h2 => ?_⟩
  obtain ⟨b2, e2, q2⟩ := id_open h2
  subst e2
  exact ⟨b2, _, rfl, .inr q2.t, rfl, IL_flat _, q _⟩
/-! ### tupled -/
inductive DL : Nat → PyData → Prop
  | non {n} : DL n .none
  | bl {n} (b : Bool) : DL n (.bool b)
  | int {n} (i : Int) : DL n (.int i)
  | str {n} (x : Str) : DL n (.str x)
  | tup {n} {ds : List PyData} (l : ds.length ≤ 1000) (h : ∀ d ∈ ds, DL n d) : DL (n + 1) (.tuple ds)
def tupS (K : PySem.W.Frag) : Nat → Sp
  | 0 => s1 fun _ _ _ => False
  | n + 1 => s1 fun x H Q => ∃ d, Td K H x d ∧ DL n d ∧ ∀ v H', Same H H' → Td K H' v d → Q v H'
theorem tup_isi {K : PySem.W.Frag} {H : Hp} {x : V} {d : PyData} (h : Td K H x d) : ∃ t b, TyX K H x t ∧ PySem.W.kitAny K t [.type "list", .type "tuple"] = some b ∧ (b = true ↔ ∃ ds, d = .tuple ds) := by
  have go : ∀ {t : String} {b1 b2 r : Bool}, kitB t "list" = some b1 → kitB t "tuple" = some b2 → (b1 || b2) = r → PySem.W.kitAny K (.type t) [.type "list", .type "tuple"] = some r := fun {t b1 b2 r} h1 h2 h3 => by
    refine kitAny_cons (kit_ty h1) (fun z => ?_) (fun z => by rw [← h3, z]; rfl)
    refine kitAny_cons (kit_ty h2) (fun z2 => ?_) (fun z2 => by rw [← h3, z, z2]; rfl)
    rw [← h3, z, z2]
    exact kitAny_nil
  cases h with
  | non => exact ⟨_, false, .base .non, go (b1 := false) (b2 := false) (by decide +kernel) (by decide +kernel) rfl, (fun z => by cases z), fun ⟨_, z⟩ => by cases z⟩
  | bl b => exact ⟨_, false, .base (.bl b), go (b1 := false) (b2 := false) (by decide +kernel) (by decide +kernel) rfl, (fun z => by cases z), fun ⟨_, z⟩ => by cases z⟩
  | int i => exact ⟨_, false, .base (.int i), go (b1 := false) (b2 := false) (by decide +kernel) (by decide +kernel) rfl, (fun z => by cases z), fun ⟨_, z⟩ => by cases z⟩
  | str s => exact ⟨_, false, .base (.str s), go (b1 := false) (b2 := false) (by decide +kernel) (by decide +kernel) rfl, (fun z => by cases z), fun ⟨_, z⟩ => by cases z⟩
  | tup q r =>
    refine ⟨.type "tuple", true, ?_, go (b1 := false) (b2 := true) (by decide +kernel) (by decide +kernel) rfl, fun _ => ⟨_, rfl⟩, fun _ => rfl⟩
    rcases q with q | ⟨o, its, n, q1, q2, _⟩
    · exact .base (.tup q)
    · exact .kTuple q1 q2
theorem tupled_step {P : Program} {w : World} {K : PySem.W.Frag} {mg : Str → Option Value} {base : Heap} (T : Tx K mg) {n k : Nat} (ih : Df P w K mg base (fAd K ("tupled", none)) k [] (tupS K n)) : Df P w K mg base (fAd K ("tupled", none)) (k + 1) [] (tupS K (n + 1)) := by
  obtain ⟨fd, F⟩ := fn_tupled T
  refine df1 F sc_tupled (fun _ _ _ _ _ _ us hl => match us, hl with | [_], _ => rfl) fun thing H Q h => ?_
  intro cdv A outer s E hr
  have hu := hu_of hr
  refine ⟨_, (pss_one (ps_ret (pe_ifExp (pt_val (pe_callB (call_isiTK K) (by rfl) (T.b_isinstance) (by decide +kernel) (pa_cons (pv 0) (pa_cons (pe_tup (pa_cons (pe_bltn (v := V.ty "list") (u := Value.type "list") (by rfl) (T.b_list) (by decide +kernel) rfl) (pa_cons (pe_bltn (v := V.ty "tuple") (u := Value.type "tuple") (by rfl) (T.b_tuple) (by decide +kernel) rfl) pa_nil))) pa_nil)))) (pe_callTy (call_tuple_ofK K) (by rfl) (T.b_tuple) (by decide +kernel) (pa_cons (pe_lc (own := [("part", 1)]) (tt := tYes) rfl (sc_tupled).nd (pi_tupK K (pv 0)) (blkOk_by (N := ["thing", "part"]) (sc := defScope t_tupled) (by decide +kernel)) (fun _ _ _ _ _ => (pg_name (i := 1) (sc_tupled).nd rfl (.inl rfl))) (fun _ _ _ _ _ => pts_nil) (fun _ _ _ _ _ => (pe_cf ih hr rfl (T.g_tupled) (pa_cons (pv 1) pa_nil)))) pa_nil)) (pv 0)))), ?_⟩
  obtain ⟨d, hx, hd, q⟩ := h
  refine ⟨_, rfl, Nat.le_of_ble_eq_true rfl, fun tp ntp => ?_⟩
  have s0 : Same H (upd H tp (.tup [V.ty "list", V.ty "tuple"])) := same_new ntp
  obtain ⟨t, b, ty, kt, hb⟩ := tup_isi (hx.same s0)
  refine ⟨thing, tp, _, t, _, b, rfl, upd_same, .cons (.ty "list") (.cons (.ty "tuple") .nil), ty, kt, _, rfl, ?_⟩
  refine ite2 (fun h => ?_) fun h => ⟨_, rfl, q _ _ s0 (hx.same s0)⟩
  obtain ⟨ds, ed⟩ := hb.mp h
  subst ed
  cases hd with | tup l hd =>
  obtain ⟨a, xs, ex, hq, hr2⟩ := hx.tup_eq
  subst ex
  have hl := hr2.length
  refine ⟨_, rfl, a, rfl, ⟨xs, (hq.keep (Same.tk s0)).t⟩, fun D hD => ?_⟩
  refine lc_tup (K := K) (a := a) (xs := xs) (fun i H' => ∃ acc : List V, CmW (upd H tp (.tup [V.ty "list", V.ty "tuple"])) D acc H' ∧ Tds K H' acc (ds.take i) ∧ acc.length ≤ i) ⟨[], .start hD, by rw [List.take_zero]; exact .nil, Nat.le_refl _⟩ (fun i H' _ ⟨acc, c, _⟩ => (hq.keep (Same.tk (s0.trans c.sm))).t) ?_ ?_
  · rintro i x H' hi ⟨acc, c, ht, li⟩
    obtain ⟨d, hdi, hxd⟩ := hr2.get2 hi
    have il : i < xs.length := (List.getElem?_eq_some_iff.mp hi).1
    refine ⟨rfl, ?_⟩
    unfold tYes
    refine iteT ?_
    refine ⟨_, rfl, x, rfl, d, hxd.same (s0.trans c.sm), hd d (List.mem_of_getElem? hdi), fun v H2 sm2 hv => ?_⟩
    have c2 := c.same sm2
    refine ⟨acc, c2.at_, small1000 (by omega), acc ++ [v], c2.push hD v, ?_, by rw [List.length_append, List.length_singleton]; omega⟩
    have tk : TKeep H2 (upd H2 D (.lst (acc ++ [v]))) := fun b ys e => by
      rw [upd_ne (fun z : b = D => by rw [z, c2.at_] at e; cases e)]
      exact e
    rw [List.take_succ, hdi]
    exact ((ht.same sm2).keep tk).app (.cons (hv.keep tk) .nil)
  · rintro H' ⟨acc, c, ht, _⟩
    rw [hl, List.take_length] at ht
    refine ⟨D, acc, rfl, .inl ⟨SqL.of c.at_, fun r nr => ?_⟩⟩
    have s3 : Same H' (upd H' r (.tup acc)) := same_new nr
    exact q _ _ ((s0.trans c.sm).trans s3) (.tup (.inl upd_same) (ht.same s3))
end Rc


set_option Elab.async false
set_option linter.all false
set_option maxRecDepth 100000
set_option maxHeartbeats 4000000
namespace Rc
open PySem PySem.Spec PyProof.Rows L2 He
theorem ok_tupled0 {P : Program} {w : World} {K : PySem.W.Frag} {mg : Str → Option Value} {base : Heap} (T : Tx K mg) : Df P w K mg base (fAd K ("tupled", none)) 1 [] (tupS K 0) := by
  obtain ⟨fd, F⟩ := fn_tupled T
  exact df1 F sc_tupled (fun _ _ _ _ _ _ us hl => match us, hl with | [_], _ => rfl) fun x H Q h => h.elim
theorem ok_tupled {P : Program} {w : World} {K : PySem.W.Frag} {mg : Str → Option Value} {base : Heap} (T : Tx K mg) : Df P w K mg base (fAd K ("tupled", none)) 5 [] (tupS K 4) :=
  tupled_step T (tupled_step T (tupled_step T (tupled_step T (ok_tupled0 T))))
theorem DL.up {n : Nat} {d : PyData} (h : DL n d) : DL (n + 1) d := by
  induction h with
  | non => exact .non
  | bl b => exact .bl b
  | int i => exact .int i
  | str x => exact .str x
  | tup l h ih => exact .tup l ih
theorem DL.kd {n : Nat} {d : PyData} (h : okKd d) : DL n d := by
  cases d with
  | none => exact .non
  | int i => exact .int i
  | str x => exact .str x
  | bool b => exact h.elim
  | list l => exact h.elim
  | tuple l => exact h.elim
  | dict l => exact h.elim
theorem dl_row {n : Nat} {id : Int} {kd : PyData} (h : okKd kd) : DL (n + 1) (rowD id kd) := .tup (Nat.le_of_ble_eq_true rfl) fun d hd => by
  rcases List.mem_cons.mp hd with e | hd
  · rw [e]; exact .int _
  · rw [List.mem_singleton.mp hd]; exact .kd h
theorem dl_slot {s : Slot} (h : ∀ v, s = .row v → okKd v.kd) : DL 2 s.d := by
  cases s with
  | un => exact .tup (Nat.le_of_ble_eq_true rfl) fun d hd => by rw [List.mem_singleton.mp hd]; exact .str _
  | dead => exact .tup (Nat.le_of_ble_eq_true rfl) fun d hd => by rw [List.mem_singleton.mp hd]; exact .str _
  | red n =>
    refine .tup (Nat.le_of_ble_eq_true rfl) fun d hd => ?_
    rcases List.mem_cons.mp hd with e | hd
    · rw [e]; exact .str _
    · rw [List.mem_singleton.mp hd]; exact .int _
  | row v =>
    refine .tup (Nat.le_of_ble_eq_true rfl) fun d hd => ?_
    have n1 : ∀ o : Option Nat, DL 1 (numO o) := fun o => by cases o with | none => exact .non | some n => exact .int _
    simp only [List.mem_cons, List.not_mem_nil, or_false] at hd
    rcases hd with e | e | e | e | e | e | e | e
    · rw [e]; exact .str _
    · rw [e]; exact .int _
    · rw [e]; exact .int _
    · rw [e]; exact n1 _
    · rw [e]; exact n1 _
    · rw [e]
      cases v.nx with
      | none => exact .non
      | some ab =>
        obtain ⟨a, b⟩ := ab
        refine .tup (Nat.le_of_ble_eq_true rfl) fun d hd => ?_
        simp only [List.mem_cons, List.not_mem_nil, or_false] at hd
        rcases hd with e | e
        · rw [e]; exact .int _
        · rw [e]; exact .int _
    · rw [e]; exact .bl _
    · rw [e]; exact dl_row (h v rfl)
theorem dl_page {p : Page} (ok : PgOk p) : DL 3 (pgD p) := .tup (by rw [List.length_map]; have := ok.ln; omega) fun d hd => by
  obtain ⟨s, hs, e⟩ := List.mem_map.mp hd
  rw [← e]
  exact dl_slot fun v hv => ok.kd v (hv ▸ hs)
/-! ### settled -/
theorem set_list_by {w : World} {K : PySem.W.Frag} {a D : Addr} {xs : List V} {g : TG} {tt : TT} {te : TE} {vs : List Nat} {σ : L2.St} {H0 : Hp} {Q : Hp → Prop} (Pv : Nat → Hp → Prop) (h0 : Pv 0 (upd H0 D (SetO w D (fun _ => false) 0))) (hl : ∀ i H, i ≤ xs.length → Pv i H → SqL K H a xs)
    (hs : ∀ i x H, xs[i]? = some x → Pv i H → g x (wipe σ vs) H fun ρ G2 => wipe ρ vs = wipe σ vs ∧ tt ρ G2 fun b G3 =>
      if b = true then te ρ G3 fun y G4 => ∃ (c : Int) (S : Int → Bool) (n : Nat), y = .int c ∧ G4 D = some (SetO w D S n) ∧ n + 1 < scanBound ∧ Pv (i + 1) (upd G4 D (SetO w D (fun j => S j || decide (j = c)) (if S c = true then n else n + 1))) else Pv (i + 1) G3)
    (hd : ∀ H, Pv xs.length H → Q H) : SetWalk w (Itl K a) D g tt te vs σ H0 Q := by
  refine ⟨fun i m H => m = xs.length - i ∧ i ≤ xs.length ∧ Pv i H, ⟨xs.length, rfl, Nat.zero_le _, h0⟩, ?_⟩
  rintro i m H ⟨em, hi, p⟩
  by_cases hlt : i < xs.length
  · refine .inr ⟨⟨xs, xs[i], hl i H hi p, List.getElem?_eq_getElem hlt⟩, Pv (i + 1), fun H' p' => ⟨xs.length - (i + 1), by omega, rfl, hlt, p'⟩, fun x H' y => ?_⟩
    rw [y.1]
    exact hs i x H (y.2 xs (hl i H hi p)) p
  · have e : i = xs.length := by omega
    subst e
    exact .inl ⟨⟨xs, hl _ H (Nat.le_refl _) p, Nat.le_refl _⟩, hd H p⟩
theorem nat_list : ∀ {ns : List Int}, (∀ k ∈ ns, 0 ≤ k) → ns.map V.int = IL (ns.map Int.toNat)
  | [], _ => rfl
  | n :: ns, h => by
    have h1 := h n List.mem_cons_self
    have e : ((n.toNat : Nat) : Int) = n := Int.toNat_of_nonneg h1
    show V.int n :: ns.map V.int = V.int ((n.toNat : Nat) : Int) :: IL (ns.map Int.toNat)
    rw [e, nat_list fun k hk => h k (List.mem_cons_of_mem _ hk)]
def sp_settled (K : PySem.W.Frag) : Sp := s2 fun x y H Q => ∃ (a b : Addr) (cs : List Nat) (vs : List V) (sns : List Sn), x = .ref a ∧ H a = some (.lst (IL cs)) ∧ cs.length < 64 ∧ y = .ref b ∧ H b = some (.lst vs) ∧ Tds K H vs (sns.map Sn.d) ∧ sns.length ≤ 1000 ∧
  ∀ (l : Addr) (ss : List Nat) (H' : Hp), Same H H' → H l = none → H' l = some (.lst (IL ss)) → (∀ s ∈ ss, s ∈ cs) → Q (.ref l) H'
/-- a block within a block -/
def relS (sc sc0 : Scope) : Scope :=
  { sc with names := sc.names.map fun (n, k) => if (k == .free && sc0.kind == .function && sc0.names.lookup n == some .cell) then (n, .cell) else (n, k) }
theorem blkOk_in {N : List Str} {sc sc0 scope : Scope} {env : Env} {own : List (Str × Nat)} (he : env.scope = sc0) (h : blkC N (relS sc sc0) scope own = true) : BlkOk N (relabel sc env) scope own := by
  subst he
  exact blkOk_by (sc := relS sc env.scope) h
theorem ok_settled {P : Program} {w : World} {K : PySem.W.Frag} {mg : Str → Option Value} {base : Heap} (T : Tx K mg) : Df P w K mg base (fAd K ("settled_sight", none)) 2 [] (sp_settled K) := by
  obtain ⟨fd, F⟩ := fn_settled T
  refine df2 F sc_settled (fun _ _ _ _ _ _ us hl => match us, hl with | [_, _], _ => rfl) fun committed snapshots H Q h => ?_
  intro cdv A outer s E hr
  have hu := hu_of hr
  refine ⟨_, (pss_one (ps_ret (pe_callB (cr_sortedSet rfl) (by rfl) (T.b_sorted) (by decide +kernel) (pa_cons (pe_setI (own := [("number", 2)])  rfl (sc_settled).nd (pi_listK K (pv 0)) (blkOk_by (N := ["committed", "snapshots", "number", "snapshot"]) (sc := defScope t_settled) (by decide +kernel)) (fun _ _ _ _ _ => (pg_name (i := 2) (sc_settled).nd rfl (.inr rfl))) (fun _ _ _ _ _ => (pts_one (pt_val (pe_callB (cr_allK K rfl) (by rfl) (T.b_all) (by decide +kernel) (pa_cons (pe_lc (own := [("snapshot", 3)]) (tt := tYes) rfl (sc_settled).nd (pi_listK K (pv 1)) (blkOk_in (N := ["committed", "snapshots", "number", "snapshot"]) (sc0 := defScope t_settled) rfl (by decide +kernel)) (fun _ _ _ _ _ => (pg_name (i := 3) (sc_settled).nd rfl (.inl rfl))) (fun _ _ _ _ _ => pts_nil) (fun _ _ _ _ _ => (pe_cf (ok_is_past T) (hr.mono (by decide)) rfl (T.g_is_past) (pa_cons (pv 3) (pa_cons (pv 2) pa_nil))))) pa_nil))))) (fun _ _ _ _ _ => (pv 2))) pa_nil)))), ?_⟩
  obtain ⟨a, b, cs, vs, sns, ex, ha, hc, ey, hb, ht, hls, q⟩ := h
  subst ex ey
  have hvl := ht.length
  rw [List.length_map] at hvl
  refine ⟨_, rfl, a, rfl, ⟨_, SqL.of ha⟩, fun D hD => ?_⟩
  refine set_list_by (K := K) (a := a) (xs := IL cs) (fun i H' => Same H H' ∧ ∃ S n, H' D = some (SetO w D S n) ∧ n ≤ i ∧ ∀ j, S j = true → ∃ m ∈ cs, j = ((m : Nat) : Int)) ⟨same_new hD, _, _, upd_same, Nat.le_refl _, fun j z => by cases z⟩ (fun i H' _ ⟨sm, _⟩ => SqL.of (sm _ _ ha)) ?_ ?_
  · rintro i x H' hi ⟨sm, S, n, hS, hn, hm⟩
    have il : i < cs.length := by
      have := (List.getElem?_eq_some_iff.mp hi).1
      rwa [IL_len] at this
    obtain ⟨c, hci, ec⟩ := IL_get hi
    subst ec
    refine ⟨rfl, ?_⟩
    refine ⟨_, rfl, b, rfl, ⟨_, SqL.of (sm _ _ hb)⟩, fun D2 hD2 => ?_⟩
    refine lc_list (K := K) (a := b) (xs := vs) (fun i H2 => ∃ acc : List Bool, CmW H' D2 (acc.map V.bl) H2 ∧ acc.length ≤ i) ⟨[], .start hD2, Nat.le_refl _⟩ (fun i H2 _ ⟨acc, c2, _⟩ => SqL.of (c2.sm _ _ (sm _ _ hb))) ?_ ?_
    · rintro i2 y H2 hi2 ⟨acc, c2, l2⟩
      have i2l : i2 < vs.length := (List.getElem?_eq_some_iff.mp hi2).1
      obtain ⟨d, hd, hyd⟩ := ht.get2 hi2
      rw [List.getElem?_map] at hd
      obtain ⟨sn, hs, es⟩ := Option.map_eq_some_iff.mp hd
      subst es
      refine ⟨rfl, ?_⟩
      unfold tYes
      refine iteT ⟨_, rfl, _, rfl, _, _, rfl, sn, c, hyd.same (sm.trans c2.sm), rfl, fun bb => ?_⟩
      exact ⟨acc.map V.bl, c2.at_, by rw [List.length_map]; exact small1000 (by omega), acc ++ [bb], by rw [List.map_append]; exact c2.push hD2 _, by rw [List.length_append, List.length_singleton]; omega⟩
    · rintro H2 ⟨acc, c2, l2⟩
      refine ⟨D2, acc, rfl, SqL.of c2.at_, _, rfl, ?_⟩
      have sm2 := sm.trans c2.sm
      refine ite2 (fun _ => ?_) fun _ => ⟨sm2, S, n, c2.sm _ _ hS, by omega, hm⟩
      refine ⟨_, rfl, (c : Int), S, n, rfl, c2.sm _ _ hS, by unfold scanBound; omega, fun b' o e => ?_, _, _, upd_same, ?_, fun j hj => ?_⟩
      · rw [upd_ne (ne_of_none e hD)]
        exact sm2 b' o e
      · split <;> omega
      · rcases Bool.or_eq_true_iff.mp hj with z | z
        · exact hm j z
        · exact ⟨c, List.mem_of_getElem? hci, of_decide_eq_true z⟩
  · rintro H' ⟨sm, S, n, hS, hn, hm⟩
    rw [IL_len] at hn
    refine ⟨D, S, n, rfl, hS, by omega, fun ns p hp hk _ np => ?_⟩
    have h0 : ∀ k ∈ ns, 0 ≤ k := fun k hk2 => by
      obtain ⟨m, _, e⟩ := hm k ((hk k).mp hk2)
      rw [e]
      omega
    rw [nat_list h0]
    refine q p _ _ (sm.trans (same_new np)) ?_ upd_same fun s hs => ?_
    · cases e : H p with
      | none => rfl
      | some o =>
        have := sm _ _ e
        rw [np] at this
        cases this
    · obtain ⟨k, hk2, e⟩ := List.mem_map.mp hs
      obtain ⟨m, hm2, e2⟩ := hm k ((hk k).mp hk2)
      rw [← e, e2]
      exact hm2
end Rc


set_option Elab.async false
set_option linter.all false
set_option maxRecDepth 100000
set_option maxHeartbeats 4000000
namespace Rc
open PySem PySem.Spec PyProof.Rows L2 He
theorem ixN_nat {n i : Nat} (h : i < n) : ixN n ((i : Nat) : Int) = some i := by
  unfold ixN
  rw [if_pos (by omega), if_pos (by omega), Int.toNat_natCast]
theorem cutV_to {xs : List V} {n : Nat} : cutV xs none (some ((n : Nat) : Int)) = xs.take n := by
  unfold cutV
  rw [HT.sIx_none, HT.sIx_nat, List.drop_zero, Nat.sub_zero]
  by_cases h : n ≤ xs.length
  · rw [Nat.min_eq_left h]
  · rw [Nat.min_eq_right (by omega), List.take_length, List.take_of_length_le (by omega)]
theorem IL_take (us : List Nat) (n : Nat) : (IL us).take n = IL (us.take n) := by
  unfold IL
  rw [List.map_take]
theorem tk_lst {H : Hp} {a : Addr} {ys : List V} {o : HO} (e : H a = some (.lst ys)) : TKeep H (upd H a o) := fun b xs h => by
  rw [upd_ne (fun z : b = a => by rw [z, e] at h; cases h)]
  exact h
/-! ### a page, pruned -/
def goneS (us ss : List Nat) : Slot → Bool
  | .row v => deadV us ss v
  | .red _ => true
  | _ => false
structure PrS (us ss : List Nat) (p q : Page) : Prop where
  ln : q.length = p.length
  at_ : ∀ (i : Nat) (s : Slot), p[i]? = some s → ∃ s' : Slot, q[i]? = some s' ∧ (s' = s ∨ (goneS us ss s = true ∧ s'.isRow = false))
theorem PrS.refl {us ss : List Nat} (p : Page) : PrS us ss p p := ⟨rfl, fun i s h => ⟨s, h, .inl rfl⟩⟩
theorem PrS.set {us ss : List Nat} {p q : Page} (h : PrS us ss p q) {n : Nat} {s s' : Slot} (hp : p[n]? = some s) (g : goneS us ss s = true) (r : s'.isRow = false) : PrS us ss p (q.set n s') := by
  refine ⟨by rw [List.length_set]; exact h.ln, fun i t hi => ?_⟩
  by_cases e : n = i
  · subst e
    rw [hp] at hi
    cases hi
    have hl : n < q.length := by
      rw [h.ln]
      exact (List.getElem?_eq_some_iff.mp hp).1
    exact ⟨s', by rw [List.getElem?_set_self hl], .inr ⟨g, r⟩⟩
  · rw [List.getElem?_set_ne e]
    exact h.at_ i t hi
structure PrW (K : PySem.W.Frag) (us ss : List Nat) (p : Page) (H : Hp) (S F D : Addr) (ws : List V) (q : Page) (fs ds : List Nat) (H' : Hp) : Prop where
  sm : Same H H'
  nS : H S = none
  nF : H F = none
  nD : H D = none
  sf : S ≠ F
  sd : S ≠ D
  fd : F ≠ D
  hS : H' S = some (.lst ws)
  td : Tds K H' ws (q.map Slot.d)
  pr : PrS us ss p q
  hF : H' F = some (.lst (IL fs))
  hD : H' D = some (.lst (IL ds))
section
variable {K : PySem.W.Frag} {us ss : List Nat} {p : Page} {H : Hp} {S F D : Addr} {ws : List V} {q : Page} {fs ds : List Nat} {H' H2 : Hp}
theorem PrW.wl (c : PrW K us ss p H S F D ws q fs ds H') : ws.length = p.length := by
  have := c.td.length
  rw [List.length_map, c.pr.ln] at this
  exact this
theorem PrW.same (c : PrW K us ss p H S F D ws q fs ds H') (s : Same H' H2) : PrW K us ss p H S F D ws q fs ds H2 :=
  ⟨c.sm.trans s, c.nS, c.nF, c.nD, c.sf, c.sd, c.fd, s _ _ c.hS, c.td.same s, c.pr, s _ _ c.hF, s _ _ c.hD⟩
theorem PrW.setS (c : PrW K us ss p H S F D ws q fs ds H') {n : Nat} {s s' : Slot} {v : V} (hp : p[n]? = some s) (g : goneS us ss s = true) (r : s'.isRow = false) (hv : Td K H' v s'.d) : PrW K us ss p H S F D (ws.set n v) (q.set n s') fs ds (upd H' S (.lst (ws.set n v))) := by
  have tk := tk_lst (o := .lst (ws.set n v)) c.hS
  refine ⟨fun b o e => ?_, c.nS, c.nF, c.nD, c.sf, c.sd, c.fd, upd_same, ?_, c.pr.set hp g r, ?_, ?_⟩
  · rw [upd_ne (ne_of_none e c.nS)]
    exact c.sm b o e
  · rw [List.map_set]
    exact Tds.set (hv.keep tk) n (c.td.keep tk)
  · rw [upd_ne (Ne.symm c.sf)]
    exact c.hF
  · rw [upd_ne (Ne.symm c.sd)]
    exact c.hD
theorem PrW.setF (c : PrW K us ss p H S F D ws q fs ds H') (gs : List Nat) : PrW K us ss p H S F D ws q gs ds (upd H' F (.lst (IL gs))) := by
  have tk := tk_lst (o := .lst (IL gs)) c.hF
  refine ⟨fun b o e => ?_, c.nS, c.nF, c.nD, c.sf, c.sd, c.fd, ?_, c.td.keep tk, c.pr, upd_same, ?_⟩
  · rw [upd_ne (ne_of_none e c.nF)]
    exact c.sm b o e
  · rw [upd_ne c.sf]
    exact c.hS
  · rw [upd_ne (Ne.symm c.fd)]
    exact c.hD
theorem PrW.setD (c : PrW K us ss p H S F D ws q fs ds H') (gs : List Nat) : PrW K us ss p H S F D ws q fs gs (upd H' D (.lst (IL gs))) := by
  have tk := tk_lst (o := .lst (IL gs)) c.hD
  refine ⟨fun b o e => ?_, c.nS, c.nF, c.nD, c.sf, c.sd, c.fd, ?_, c.td.keep tk, c.pr, ?_, upd_same⟩
  · rw [upd_ne (ne_of_none e c.nD)]
    exact c.sm b o e
  · rw [upd_ne c.sd]
    exact c.hS
  · rw [upd_ne c.fd]
    exact c.hF
end
theorem rep_il (n : Nat) (b : Bool) : ∃ zs : List Nat, zs.length ≤ 1 ∧ (List.replicate ((if b = true then (1 : Int) else 0)).toNat [V.int (n : Int)]).flatten = IL zs := by
  cases b with
  | true => exact ⟨[n], Nat.le_refl _, rfl⟩
  | false => exact ⟨[], Nat.zero_le _, rfl⟩
/-- [n] * int(b), behind a list -/
theorem rep_one {H : Hp} {n : Nat} {b : Bool} {Q : VK} (q : ∀ (r : Addr) (zs : List Nat) (H' : Hp), Same H H' → H' r = some (.lst (IL zs)) → zs.length ≤ 1 → Q (.ref r) H') {l : Addr} (hl : H l = some (.lst [V.int (n : Int)])) :
    rRep (.ref l) (.int (if b = true then 1 else 0)) H Q := by
  obtain ⟨zs, h1, h2⟩ := rep_il n b
  refine ⟨l, _, _, rfl, rfl, hl, by cases b <;> decide, by cases b <;> decide, ?_, fun r nr => ?_⟩
  · cases b
    · exact Nat.le_of_ble_eq_true rfl
    · exact Nat.le_of_ble_eq_true rfl
  · rw [h2]
    exact q r zs _ (same_new nr) upd_same h1
def sp_pruned (K : PySem.W.Frag) : Sp := s4 fun x y z u H Q => ∃ (p : Page) (n : Nat) (a b : Addr) (us ss : List Nat), Td K H x (pgD p) ∧ PgOk p ∧ y = .int (n : Int) ∧ z = .ref a ∧ H a = some (.lst (IL us)) ∧ u = .ref b ∧ H b = some (.lst (IL ss)) ∧
  ∀ (t : Addr) (v : V) (q : Page) (f d : Addr) (H' : Hp), Same H H' → H' t = some (.tup [v, .ref f, .ref d]) → Td K H' v (pgD q) → PrS us ss p q → Q (.ref t) H'
theorem ok_pruned {P : Program} {w : World} {K : PySem.W.Frag} {mg : Str → Option Value} {base : Heap} (T : Tx K mg) : Df P w K mg base (fAd K ("pruned", none)) 6 [] (sp_pruned K) := by
  obtain ⟨fd, F⟩ := fn_pruned T
  refine df4 F sc_pruned (fun _ _ _ _ _ _ us hl => match us, hl with | [_, _, _, _], _ => rfl) fun page number undone settled H Q h => ?_
  intro cdv A outer s E hr
  have hu := hu_of hr
  refine ⟨_, (pss_cons (ps_par3 (i := 5) (j := 6) (l := 7) (by rfl) (sc_pruned).nd rfl rfl rfl (by decide) (by decide) (by decide) rfl rfl rfl (pa_cons (pe_callTy (call_list_ofK K) (by rfl) (T.b_list) (by decide +kernel) (pa_cons (pe_cf (ok_tupled T) (hr.mono (by decide)) rfl (T.g_tupled) (pa_cons (pv 0) pa_nil)) pa_nil)) (pa_cons (pe_lst pa_nil) (pa_cons (pe_lst pa_nil) pa_nil))) (by rfl))
    (pss_cons (ps_for PassesOwn.never rfl (pi_range1 (by rfl) (T.b_range) (pa_cons (pe_callB (call_len_seqK K) (by rfl) (T.b_len) (by decide +kernel) (pa_cons (pv 0) pa_nil)) pa_nil)) (pg_name (i := 4) (sc_pruned).nd rfl (.inl rfl))
    (pss_cons (ps_set (i := 8) (sc_pruned).nd rfl (.inl rfl) (pe_cf (ok_chain T) (hr.mono (by decide)) rfl (T.g_chain) (pa_cons (pv 0) (pa_cons (pv 1) (pa_cons (pv 4) pa_nil)))))
    (pss_cons (ps_set (i := 9) (sc_pruned).nd rfl (.inl rfl) (pe_cf (ok_dead_ahead T) (hr.mono (by decide)) rfl (T.g_dead_ahead) (pa_cons (pv 0) (pa_cons (pv 8) (pa_cons (pv 2) (pa_cons (pv 3) pa_nil))))))
    (pss_cons (ps_for PassesOwn.never rfl (pi_listK K (pe_slice (sl_listK K) (pv 8) po_none (po_some (pv 9)))) (pg_name (i := 10) (sc_pruned).nd rfl (.inl rfl))
    (pss_cons (ps_asg (pe_tupdK K (pa_cons (pe_gs rfl (T.g_UNUSED_chains)) pa_nil)) (pg_sub (pv 5) (pv 10) set_list))
    (pss_one (ps_expr (pe_bm PySem.F.plainAttrs_list PySem.F.slot_list_extend PySem.F.type_list_extend mt_extend (pv 6) (pa_cons (pe_op op_rep (pe_lst (pa_cons (pv 10) pa_nil)) (pe_callTy call_int1 (by rfl) (T.b_int) (by decide +kernel) (pa_cons (pe_cmpR op_ne (pv 10) (pv 4) (nomark _)) pa_nil))) pa_nil))))))
    (pss_one (ps_if (pt_cmpR op_gt (pv 9) pe_int (nomark _)) (pss_cons (ps_asg (pe_ifExp (pt_cmpR op_lt (pv 9) (pe_callB (call_len_seqK K) (by rfl) (T.b_len) (by decide +kernel) (pa_cons (pv 8) pa_nil)) (nomark _)) (pe_tupdK K (pa_cons (pe_gs rfl (T.g_REDIRECT)) (pa_cons (pe_ix (ix_listK K) (pv 8) (pv 9) (fun _ _ => rfl)) pa_nil))) (pe_tupdK K (pa_cons (pe_gs rfl (T.g_DEAD_chains)) pa_nil))) (pg_sub (pv 5) (pv 4) set_list))
    (pss_one (ps_expr (pe_bm PySem.F.plainAttrs_list PySem.F.slot_list_extend PySem.F.type_list_extend mt_extend (pv 7) (pa_cons (pe_op op_rep (pe_lst (pa_cons (pv 4) pa_nil)) (pe_callTy call_int1 (by rfl) (T.b_int) (by decide +kernel) (pa_cons (pe_cmpR op_eq (pv 9) (pe_callB (call_len_seqK K) (by rfl) (T.b_len) (by decide +kernel) (pa_cons (pv 8) pa_nil)) (nomark _)) pa_nil))) pa_nil))))) pss_nil))))))
    (pss_cons (ps_for PassesOwn.never rfl (pi_enumK K (by rfl) (T.b_enumerate) (pa_cons (pe_callTy (call_list_ofK K) (by rfl) (T.b_list) (by decide +kernel) (pa_cons (pv 5) pa_nil)) pa_nil)) (pg_tupK K (n := 2) (by rfl) (pgs_cons (pg_name (i := 11) (sc_pruned).nd rfl (.inl rfl)) (pgs_cons (pg_name (i := 10) (sc_pruned).nd rfl (.inl rfl)) pgs_nil)))
    (pss_one (ps_if (PW.pt (pw_and (pt_val (pe_cf (ok_is_version T) (hr.mono (by decide)) rfl (T.g_is_version) (pa_cons (pv 10) pa_nil))) (pw_and (pt_val (pe_ixdK K (pv 10) (pe_gi rfl (T.g_ONLY)))) (pw_and1 (pt_cmpR (op_in_seqK K) (pe_ixdK K (pv 10) (pe_gi rfl (T.g_MAKER_chains))) (pv 2) rfl))))) (pss_cons (ps_asg (pe_tupdK K (pa_cons (pe_gs rfl (T.g_UNUSED_chains)) pa_nil)) (pg_sub (pv 5) (pv 11) set_list))
    (pss_one (ps_expr (pe_bm PySem.F.plainAttrs_list PySem.F.slot_list_append PySem.F.type_list_append mt_append (pv 6) (pa_cons (pv 11) pa_nil))))) pss_nil)))
    (pss_one (ps_ret (pe_tup (pa_cons (pe_callTy (call_tuple_ofK K) (by rfl) (T.b_tuple) (by decide +kernel) (pa_cons (pv 5) pa_nil)) (pa_cons (pe_callB (cr_sortedIK K) (by rfl) (T.b_sorted) (by decide +kernel) (pa_cons (pv 6) pa_nil)) (pa_cons (pv 7) pa_nil))))))))), ?_⟩
  obtain ⟨p, n, a, b, us, ss, hp, ok, ey, ez, ha, eu, hb, q⟩ := h
  subst ey ez eu
  have pl := ok.ln
  refine ⟨_, rfl, _, rfl, _, hp, dl_page ok, fun v0 H0 sm0 hv0 => ?_⟩
  obtain ⟨pa, xs, ex, hq, hl, hr2⟩ := pg_open hv0
  subst ex
  refine ⟨pa, xs, rfl, .inr hq.t, fun S nS => ⟨Nat.zero_le _, fun F nF => ⟨Nat.zero_le _, fun D nD => ⟨_, _, _, rfl, ?_⟩⟩⟩⟩
  have eSF : S ≠ F := fun z => by rw [← z, upd_same] at nF; cases nF
  have eSD : S ≠ D := fun z => by rw [← z, upd_ne eSF, upd_same] at nD; cases nD
  have eFD : F ≠ D := fun z => by rw [← z, upd_same] at nD; cases nD
  have nF0 : H0 F = none := by rw [upd_ne (Ne.symm eSF)] at nF; exact nF
  have nD0 : H0 D = none := by rw [upd_ne (Ne.symm eFD), upd_ne (Ne.symm eSD)] at nD; exact nD
  have sS : Same H0 (upd (upd (upd H0 S (.lst xs)) F (.lst [])) D (.lst [])) := ((same_new nS).trans (same_new nF)).trans (same_new nD)
  have low : ∀ {A : Addr}, H0 A = none → H A = none := fun {A} h => by
    cases e : H A with
    | none => rfl
    | some o => rw [sm0 A o e] at h; cases h
  have c0 : PrW K us ss p H S F D xs p [] [] (upd (upd (upd H0 S (.lst xs)) F (.lst [])) D (.lst [])) :=
    ⟨sm0.trans sS, low nS, low nF0, low nD0, eSF, eSD, eFD, by rw [upd_ne eSD, upd_ne eSF]; exact upd_same, hr2.same sS, PrS.refl p, by rw [upd_ne eFD]; exact upd_same, upd_same⟩
  obtain ⟨pa1, ps1, ep1, hq1, hl1, _⟩ := pg_open hp
  subst ep1
  refine ⟨_, rfl, pa1, ps1, rfl, .inr (hq1.keep (Same.tk c0.sm)).t, (ps1.length : Int), rfl, by rw [hl1]; omega, by rw [hl1]; omega, ?_⟩
  rw [Int.toNat_natCast, hl1]
  refine for_range (fun i σ' H' => ∃ ws q fs ds u4 u8 u9 u10 u11, σ' = [some (.ref pa1), some (.int (n : Int)), some (.ref a), some (.ref b), u4, some (.ref S), some (.ref F), some (.ref D), u8, u9, u10, u11] ∧
    PrW K us ss p H S F D ws q fs ds H' ∧ fs.length ≤ 9 * i ∧ ds.length ≤ i) ⟨xs, p, [], [], _, _, _, _, _, rfl, c0, Nat.zero_le _, Nat.zero_le _⟩ ?_ ?_
  · rintro i σ' H1 hi ⟨ws, q1, fs, ds, u4, u8, u9, u10, u11, rfl, c, lf, ld⟩
    have ei : ((0 : Int) + (i : Nat)) = ((i : Nat) : Int) := by omega
    rw [ei]
    refine ⟨_, rfl, _, rfl, _, rfl, _, _, _, rfl, p, (n : Int), i, rfl, rfl, hi, by omega, hp.same c.sm, fun l H2 ms sm2 nl hl2 hm lm h0 => ?_⟩
    have c2 := c.same sm2
    refine ⟨_, rfl, _, rfl, _, rfl, _, rfl, _, _, _, _, rfl, p, l, a, b, ms, us, ss, hp.same c2.sm, rfl, hl2, rfl, c2.sm _ _ ha, rfl, c2.sm _ _ hb, hm, fun many hmn hdead => ?_⟩
    refine ⟨_, rfl, _, rfl, (many : Int), rfl, l, _, rfl, SqL.of hl2, fun l3 nl3 => ⟨l3, rfl, ⟨_, SqL.of upd_same⟩, ?_⟩⟩
    rw [cutV_to, IL_take]
    have hS1 := c.hS
    have hF1 := c.hF
    have hD1 := c.hD
    have nlS : l ≠ S := fun z => by rw [z, hS1] at nl; cases nl
    have nlF : l ≠ F := fun z => by rw [z, hF1] at nl; cases nl
    have nlD : l ≠ D := fun z => by rw [z, hD1] at nl; cases nl
    have n3S : l3 ≠ S := fun z => by rw [z, c2.hS] at nl3; cases nl3
    have n3F : l3 ≠ F := fun z => by rw [z, c2.hF] at nl3; cases nl3
    have n3D : l3 ≠ D := fun z => by rw [z, c2.hD] at nl3; cases nl3
    have s3 : Same H2 (upd H2 l3 (.lst (IL (ms.take many)))) := same_new nl3
    have hmt : (ms.take many).length ≤ 8 := by rw [List.length_take]; omega
    refine for_list (K := K) (a := l3) (xs := IL (ms.take many)) (fun j σ' H' => ∃ ws q fs u10 u11, σ' = [some (.ref pa1), some (.int (n : Int)), some (.ref a), some (.ref b), some (.int (i : Int)), some (.ref S), some (.ref F), some (.ref D), some (.ref l), some (.int (many : Int)), u10, u11] ∧
      PrW K us ss p H S F D ws q fs ds H' ∧ fs.length ≤ 9 * i + j ∧ H' l3 = some (.lst (IL (ms.take many))) ∧ H' l = some (.lst (IL ms))) ⟨ws, q1, fs, _, _, rfl, c2.same s3, by omega, upd_same, s3 _ _ hl2⟩ (fun j σ' H' _ ⟨_, _, _, _, _, _, _, _, h3, _⟩ => SqL.of h3) ?_ ?_
    · rintro j x σ' H3 hj ⟨ws, q1, fs, u10, u11, rfl, c3, lf3, h3, hl3⟩
      obtain ⟨m, hmj, em⟩ := IL_get hj
      subst em
      have jl : j < (ms.take many).length := (List.getElem?_eq_some_iff.mp hmj).1
      have jm : j < many := by rw [List.length_take] at jl; omega
      have hmj2 : ms[j]? = some m := by rw [List.getElem?_take_of_lt jm] at hmj; exact hmj
      obtain ⟨v, hv⟩ := hm m (List.mem_of_getElem? hmj2)
      have dv := hdead j m v jm hmj2 hv
      have mp : m < p.length := (List.getElem?_eq_some_iff.mp hv).1
      refine ⟨_, Tds.cons (.str _) .nil, Nat.le_of_ble_eq_true rfl, fun z H4 sm4 hz => ?_⟩
      have c4 := c3.same sm4
      refine ⟨_, rfl, _, rfl, S, ws, (m : Int), m, rfl, rfl, c4.hS, ixN_nat (by rw [c4.wl]; exact mp), ?_⟩
      have c5 := c4.setS (s' := .un) hv dv rfl hz
      have h35 : ∀ {A : Addr} {o : HO}, A ≠ S → H3 A = some o → upd H4 S (.lst (ws.set m z)) A = some o := fun {A o} hne e => by
        rw [upd_ne hne]
        exact sm4 _ _ e
      refine ⟨_, rfl, .inl ⟨rfl, _, SqL.of c5.hF⟩, _, rfl, Nat.le_of_ble_eq_true rfl, fun l4 nl4 => ?_⟩
      refine ⟨_, rfl, _, rfl, rfl, .inr ⟨_, rfl, rep_one (fun r zs H6 sm6 hr6 lz => ?_) upd_same⟩⟩
      have sm56 : Same (upd H4 S (.lst (ws.set m z))) H6 := (same_new nl4).trans sm6
      have c6 := c5.same sm56
      refine ⟨F, r, IL fs, IL zs, rfl, rfl, c6.hF, hr6, Nat.le_of_lt (small1000 (by rw [IL_len, IL_len]; omega)), ?_⟩
      rw [← IL_app]
      refine ⟨_, _, fs ++ zs, _, _, rfl, c6.setF (fs ++ zs), by rw [List.length_append]; omega, ?_, ?_⟩
      · rw [upd_ne n3F]
        exact sm56 _ _ (h35 n3S h3)
      · rw [upd_ne nlF]
        exact sm56 _ _ (h35 nlS hl3)
    · rintro σ' H3 ⟨ws, q1, fs, u10, u11, rfl, c3, lf3, h3, hl3⟩
      rw [IL_len] at lf3
      refine ⟨_, rfl, (many : Int), 0, rfl, rfl, _, rfl, ite2 (fun hpos => ?_) fun _ => ⟨_, _, _, _, _, _, _, _, _, rfl, c3, by omega, by omega⟩⟩
      have hpos : 0 < many := by
        have := of_decide_eq_true hpos
        omega
      have gone : ∃ s, p[i]? = some s ∧ goneS us ss s = true := by
        have hne : ms ≠ [] := fun z => by
          rw [z] at hmn
          exact absurd hpos (by simp at hmn; omega)
        rcases h0 hne with ⟨m, hm2⟩ | hm0
        · exact ⟨_, hm2, rfl⟩
        · obtain ⟨v, hv⟩ := hm i (List.mem_of_getElem? hm0)
          exact ⟨_, hv, hdead 0 i v hpos hm0 hv⟩
      obtain ⟨s0, hs0, gs0⟩ := gone
      have il : i < ws.length := by rw [c3.wl]; exact hi
      refine ⟨_, rfl, _, rfl, l, IL ms, rfl, .inl (SqL.of hl3), (many : Int), ((IL ms).length : Int), rfl, rfl, _, rfl, ?_⟩
      rw [IL_len]
      refine ite2 (fun hlt => ?_) fun hge => ?_
      · have hlt : many < ms.length := by
          have := of_decide_eq_true hlt
          omega
        have hmm : ms[many]? = some ms[many] := List.getElem?_eq_getElem hlt
        refine ⟨_, rfl, _, rfl, l, _, (many : Int), .int ((ms[many] : Nat) : Int), rfl, rfl, SqL.of hl3, atI_nat (IL_at hmm), ?_⟩
        refine ⟨_, Tds.cons (.str _) (.cons (.int _) .nil), Nat.le_of_ble_eq_true rfl, fun z H4 sm4 hz => ?_⟩
        have c4 := c3.same sm4
        refine ⟨_, rfl, _, rfl, S, ws, (i : Int), i, rfl, rfl, c4.hS, ixN_nat il, ?_⟩
        have c5 := c4.setS (s' := .red ms[many]) hs0 gs0 rfl hz
        have hl5 : upd H4 S (.lst (ws.set i z)) l = some (.lst (IL ms)) := by
          rw [upd_ne nlS]
          exact sm4 _ _ hl3
        refine ⟨_, rfl, .inl ⟨rfl, _, SqL.of c5.hD⟩, _, rfl, Nat.le_of_ble_eq_true rfl, fun l4 nl4 => ?_⟩
        have s54 := same_new (o := .lst [V.int (i : Int)]) nl4
        refine ⟨_, rfl, _, rfl, l, IL ms, rfl, .inl (SqL.of (s54 _ _ hl5)), rfl, .inr ⟨_, rfl, rep_one (fun r zs H6 sm6 hr6 lz => ?_) upd_same⟩⟩
        have c6 := c5.same (s54.trans sm6)
        refine ⟨D, r, IL ds, IL zs, rfl, rfl, c6.hD, hr6, Nat.le_of_lt (small1000 (by rw [IL_len, IL_len]; omega)), ?_⟩
        rw [← IL_app]
        exact ⟨_, _, _, ds ++ zs, _, _, _, _, _, rfl, c6.setD (ds ++ zs), by omega, by rw [List.length_append]; omega⟩
      · refine ⟨_, Tds.cons (.str _) .nil, Nat.le_of_ble_eq_true rfl, fun z H4 sm4 hz => ?_⟩
        have c4 := c3.same sm4
        refine ⟨_, rfl, _, rfl, S, ws, (i : Int), i, rfl, rfl, c4.hS, ixN_nat il, ?_⟩
        have c5 := c4.setS (s' := .dead) hs0 gs0 rfl hz
        have hl5 : upd H4 S (.lst (ws.set i z)) l = some (.lst (IL ms)) := by
          rw [upd_ne nlS]
          exact sm4 _ _ hl3
        refine ⟨_, rfl, .inl ⟨rfl, _, SqL.of c5.hD⟩, _, rfl, Nat.le_of_ble_eq_true rfl, fun l4 nl4 => ?_⟩
        have s54 := same_new (o := .lst [V.int (i : Int)]) nl4
        refine ⟨_, rfl, _, rfl, l, IL ms, rfl, .inl (SqL.of (s54 _ _ hl5)), rfl, .inr ⟨_, rfl, rep_one (fun r zs H6 sm6 hr6 lz => ?_) upd_same⟩⟩
        have c6 := c5.same (s54.trans sm6)
        refine ⟨D, r, IL ds, IL zs, rfl, rfl, c6.hD, hr6, Nat.le_of_lt (small1000 (by rw [IL_len, IL_len]; omega)), ?_⟩
        rw [← IL_app]
        exact ⟨_, _, _, ds ++ zs, _, _, _, _, _, rfl, c6.setD (ds ++ zs), by omega, by rw [List.length_append]; omega⟩
  · rintro σ' H1 ⟨ws, q1, fs, ds, u4, u8, u9, u10, u11, rfl, c, lf, ld⟩
    refine ⟨_, rfl, S, ws, rfl, .inl (SqL.of c.hS), fun L nL => ⟨L, ws, rfl, SqL.of upd_same, ?_⟩⟩
    have s1 : Same H1 (upd H1 L (.lst ws)) := same_new nL
    have wl := c.wl
    have nLS : L ≠ S := fun z => by rw [z, c.hS] at nL; cases nL
    have nLF : L ≠ F := fun z => by rw [z, c.hF] at nL; cases nL
    refine for_en (K := K) (a := L) (xs := ws) (fun j σ' H' => ∃ ws2 q2 fs u10 u11, σ' = [some (.ref pa1), some (.int (n : Int)), some (.ref a), some (.ref b), u4, some (.ref S), some (.ref F), some (.ref D), u8, u9, u10, u11] ∧
      PrW K us ss p H S F D ws2 q2 fs ds H' ∧ fs.length ≤ 9 * p.length + j ∧ H' L = some (.lst ws) ∧ Tds K H' ws (q1.map Slot.d)) ⟨ws, q1, fs, _, _, rfl, c.same s1, by omega, upd_same, c.td.same s1⟩ (fun j σ' H' _ ⟨_, _, _, _, _, _, _, _, h3, _⟩ => SqL.of h3) ?_ ?_
    · rintro j x σ' H3 T hj ⟨ws2, q2, fs, u10, u11, rfl, c3, lf3, hL3, td3⟩ nT
      have jl : j < ws.length := (List.getElem?_eq_some_iff.mp hj).1
      have sT : Same H3 (upd H3 T (.tup [.int (j : Nat), x])) := same_new nT
      have c4 := c3.same sT
      obtain ⟨d, hd, hxd⟩ := (td3.same sT).get2 hj
      rw [List.getElem?_map] at hd
      obtain ⟨s, hs, es⟩ := Option.map_eq_some_iff.mp hd
      subst es
      refine ⟨T, _, rfl, .inl (.inl upd_same), rfl, _, _, rfl, _, _, rfl, rfl, ?_⟩
      refine ⟨_, rfl, _, rfl, s, hxd, _, rfl, ?_⟩
      cases e : s.isRow with
      | false => exact iteF ⟨_, _, _, _, _, rfl, c4, by omega, sT _ _ hL3, td3.same sT⟩
      | true =>
        cases s with
        | row v =>
          refine iteT ?_
          refine ⟨_, rfl, _, 6, _, hxd, rfl, rfl, fun y hy => ?_⟩
          rw [hy.bl_eq]
          refine ⟨_, rfl, ite2 (fun _ => ?_) fun _ => ⟨_, _, _, _, _, rfl, c4, by omega, sT _ _ hL3, td3.same sT⟩⟩
          refine ⟨_, rfl, _, 1, _, hxd, rfl, rfl, fun y2 hy2 => ?_⟩
          rw [hy2.int_eq]
          refine ⟨_, rfl, a, _, rfl, .inl (SqL.of (c4.sm _ _ ha)), rfl, IL_flat us, _, rfl, ?_⟩
          show if inV (V.int ((v.mkr : Nat) : Int)) (IL us) = true then _ else _
          rw [IL_in]
          refine ite2 (fun hin => ?_) fun _ => ⟨_, _, _, _, _, rfl, c4, by omega, sT _ _ hL3, td3.same sT⟩
          have jp : j < p.length := by omega
          have hpj : p[j]? = some p[j] := List.getElem?_eq_getElem jp
          obtain ⟨s', hs', hor⟩ := c.pr.at_ j _ hpj
          rw [hs] at hs'
          cases hs'
          have hpv : p[j]? = some (.row v) := by
            rcases hor with h | h
            · rw [hpj, ← h]
            · cases h.2
          have dv : goneS us ss (.row v) = true := by
            show deadV us ss v = true
            unfold deadV
            rw [hin]
            rfl
          refine ⟨_, Tds.cons (.str _) .nil, Nat.le_of_ble_eq_true rfl, fun z H5 sm5 hz => ?_⟩
          have c5 := c4.same sm5
          refine ⟨_, rfl, _, rfl, S, ws2, (j : Int), j, rfl, rfl, c5.hS, ixN_nat (by rw [c5.wl]; exact jp), ?_⟩
          have c6 := c5.setS (s' := .un) hpv dv rfl hz
          refine ⟨_, rfl, .inl ⟨rfl, _, SqL.of c6.hF⟩, _, rfl, F, _, _, rfl, rfl, c6.hF, small1000 (by rw [IL_len]; omega), ?_⟩
          have c7 := c6.setF (fs ++ [j])
          rw [IL_app] at c7
          have hL5 := sm5 _ _ (sT _ _ hL3)
          refine ⟨_, _, fs ++ [j], _, _, rfl, c7, by rw [List.length_append, List.length_singleton]; omega, ?_, ?_⟩
          · rw [upd_ne nLF, upd_ne nLS]
            exact hL5
          · exact (((td3.same sT).same sm5).keep (tk_lst c5.hS)).keep (tk_lst c6.hF)
        | un => cases e
        | dead => cases e
        | red n => cases e
    · rintro σ' H3 ⟨ws2, q2, fs, u10, u11, rfl, c3, lf3, hL3, td3⟩
      refine ⟨_, rfl, S, ws2, rfl, .inl ⟨SqL.of c3.hS, fun r nr => ?_⟩⟩
      have s4 : Same H3 (upd H3 r (.tup ws2)) := same_new nr
      refine ⟨_, rfl, F, fs.map (fun n : Nat => (n : Int)), rfl, SqL.of (by rw [List.map_map]; exact s4 _ _ c3.hF), fun ns' f' _ _ nf => ?_⟩
      have s5 := same_new (o := .lst (ns'.map V.int)) nf
      refine ⟨_, rfl, Nat.le_of_ble_eq_true rfl, fun t nt => ?_⟩
      have s6 := same_new (o := .tup [.ref r, .ref f', .ref D]) nt
      have s46 := (s4.trans s5).trans s6
      refine q t (.ref r) q2 f' D _ (c3.sm.trans s46) upd_same ?_ c3.pr
      exact .tup (.inl (s6 _ _ (s5 _ _ upd_same))) (c3.td.same s46)
end Rc


set_option Elab.async false
set_option linter.all false
set_option maxRecDepth 100000
set_option maxHeartbeats 4000000
namespace Rc
open PySem PySem.Spec PyProof.Rows L2 He
def colsD : PyData := .tuple [.str "id", .str "kind"]
def setD (wo : PyData) : PyData := .tuple [.tuple [.str "set", .str "kind", wo]]
def sp_changed (K : PySem.W.Frag) : Sp := s3 fun x y z H Q => ∃ (id : Int) (kd wo : PyData), Td K H x colsD ∧ Td K H y (rowD id kd) ∧ Td K H z (setD wo) ∧ ∀ v H', Same H H' → Td K H' v (rowD id wo) → Q v H'
theorem eqv_kind : eqV (.str "kind") (.str "kind") = true := by decide +kernel
theorem eqv_none : ∀ (m : Nat) (z' : V), m < 1 → [V.str "id", V.str "kind"][m]? = some z' → eqV z' (.str "kind") = false := fun m z hm hz => by
  have e : m = 0 := by omega
  subst e
  cases hz
  decide +kernel
theorem ok_changed {P : Program} {w : World} {K : PySem.W.Frag} {mg : Str → Option Value} {base : Heap} (T : Tx K mg) : Df P w K mg base (fAd K ("changed", none)) 1 [] (sp_changed K) := by
  obtain ⟨fd, F⟩ := fn_changed T
  refine df3 F sc_changed (fun _ _ _ _ _ _ us hl => match us, hl with | [_, _, _], _ => rfl) fun columns cells changes H Q h => ?_
  intro cdv A outer s E hr
  have hu := hu_of hr
  refine ⟨_, (pss_cons (ps_set (i := 3) (sc_changed).nd rfl (.inl rfl) (pe_callTy (call_list_ofK K) (by rfl) (T.b_list) (by decide +kernel) (pa_cons (pv 1) pa_nil)))
    (pss_cons (ps_for PassesOwn.never rfl (pi_tupK K (pv 2)) (pg_tupK K (n := 3) (by rfl) (pgs_cons (pg_name (i := 4) (sc_changed).nd rfl (.inl rfl)) (pgs_cons (pg_name (i := 5) (sc_changed).nd rfl (.inl rfl)) (pgs_cons (pg_name (i := 6) (sc_changed).nd rfl (.inl rfl)) pgs_nil))))
    (pss_cons (ps_set (i := 7) (sc_changed).nd rfl (.inl rfl) (pe_bm PySem.F.plainAttrs_list PySem.F.slot_list_index PySem.F.type_list_index mt_index (pe_callTy (call_list_ofK K) (by rfl) (T.b_list) (by decide +kernel) (pa_cons (pv 0) pa_nil)) (pa_cons (pv 5) pa_nil)))
    (pss_one (ps_if (pt_cmpR op_ne (pv 4) (pe_gs rfl (T.g_ADD)) (nomark _)) (pss_one (ps_asg (pv 6) (pg_sub (pv 3) (pv 7) set_list))) (pss_one ps_never)))))
    (pss_one (ps_ret (pe_callTy (call_tuple_ofK K) (by rfl) (T.b_tuple) (by decide +kernel) (pa_cons (pv 3) pa_nil)))))), ?_⟩
  obtain ⟨id, kd, wo, hx, hy, hz, q⟩ := h
  obtain ⟨xa, xs, ex, hxq, hxr⟩ := hx.tup_eq
  obtain ⟨ya, ys, ey, hyq, hyr⟩ := hy.tup_eq
  obtain ⟨za, zs, ez, hzq, hzr⟩ := hz.tup_eq
  subst ex ey ez
  cases hxr with | cons hx1 hxr =>
  cases hxr with | cons hx2 hxr =>
  cases hxr
  rw [hx1.str_eq, hx2.str_eq] at hxq
  cases hyr with | cons hy1 hyr =>
  cases hyr with | cons hy2 hyr =>
  cases hyr
  rename_i y1 y2
  cases hzr with | cons hz1 hzr =>
  cases hzr
  rename_i z1
  obtain ⟨wa, ws, ew, hwq, hwr⟩ := hz1.tup_eq
  subst ew
  cases hwr with | cons hw1 hwr =>
  cases hwr with | cons hw2 hwr =>
  cases hwr with | cons hw3 hwr =>
  cases hwr
  rename_i w1 w2 w3
  rw [hw1.str_eq, hw2.str_eq] at hwq
  refine ⟨_, rfl, ya, _, rfl, .inr hyq.t, fun F nF => ?_⟩
  have s0 : Same H (upd H F (.lst [y1, y2])) := same_new nF
  refine ⟨_, rfl, za, rfl, ⟨_, (hzq.keep (Same.tk s0)).t⟩, ?_⟩
  refine for_tup (K := K) (a := za) (xs := [.ref wa]) (fun i σ' H' => ∃ u4 u5 u6 u7, σ' = [some (.ref xa), some (.ref ya), some (.ref za), some (.ref F), u4, u5, u6, u7] ∧ Same H H' ∧ H' F = some (.lst [y1, if i = 0 then y2 else w3])) ⟨_, _, _, _, rfl, s0, upd_same⟩ (fun i σ' H' _ ⟨_, _, _, _, _, sm, _⟩ => (hzq.keep (Same.tk sm)).t) ?_ ?_
  · rintro i x σ' H' hi ⟨u4, u5, u6, u7, rfl, sm, hF⟩
    match i, hi with
    | 0, hi =>
      cases hi
      refine ⟨wa, _, rfl, (hwq.keep (Same.tk sm)).t, rfl, _, _, rfl, _, _, rfl, _, _, rfl, rfl, ?_⟩
      refine ⟨_, rfl, xa, _, rfl, .inr (hxq.keep (Same.tk sm)).t, fun L nL => ⟨.inl ⟨rfl, _, SqL.of upd_same⟩, _, rfl, ?_⟩⟩
      refine ⟨L, _, _, 1, .str "kind", rfl, rfl, SqL.of upd_same, rfl, rfl, rfl, eqv_kind, eqv_none, ?_⟩
      have s1 : Same H' (upd H' L (.lst [V.str "id", V.str "kind"])) := same_new nL
      refine ⟨_, rfl, rfl, _, rfl, ?_⟩
      refine ite2 (fun _ => ?_) fun hc => absurd (by decide +kernel) hc
      refine ⟨_, rfl, _, rfl, _, rfl, F, _, (1 : Int), 1, rfl, rfl, s1 _ _ hF, rfl, ?_⟩
      refine ⟨_, _, _, _, rfl, fun b o e => ?_, upd_same⟩
      rw [upd_ne (ne_of_none e nF)]
      exact s1 _ _ (sm _ _ e)
    | i + 1, hi => cases hi
  · rintro σ' H' ⟨u4, u5, u6, u7, rfl, sm, hF⟩
    refine ⟨_, rfl, F, _, rfl, .inl ⟨SqL.of hF, fun r nr => ?_⟩⟩
    have s2 := sm.trans (same_new (o := .tup [y1, w3]) nr)
    exact q _ _ s2 (.tup (.inl upd_same) (.cons (hy1.same s2) (.cons (hw3.same s2) .nil)))
end Rc


set_option Elab.async false
set_option linter.all false
set_option maxRecDepth 100000
set_option maxHeartbeats 4000000
/-! defs with defaults -/
namespace Rc
open PySem PySem.Spec PyProof.Rows L2 He
section
variable {P : Program} {w : World} {K : PySem.W.Frag} {mg : Str → Option Value} {base : Heap} {x qual : Str} {params : Arguments} {body : List Stmt} {scope : Scope} {g : Addr} {fd : FuncData} {N ps : List Str} {k : Nat} {sp : Sp} {dvs : List V}
theorem df_dfl (D : ∃ fd, FnOk P w K mg base CX0 k g fd ps sp ∧ FunD K x qual params body scope dvs [] g fd) (n j : Nat) (hd : dvs ≠ []) (hn : n + (dvs.length - j) = ps.length)
    (h : ∀ (T : Addr) (kV doc pm : Value) (an : Option Addr) (cdv ct : Value) (us its : List Value), us.length = n → its.length = dvs.length →
      ∃ k, bindArgs (PySem.W.fnOf x qual params body scope (.ref T) kV doc pm an cdv ct) ⟨us, []⟩ = seqItems? (.ref T) >>= k ∧ k (some its.toArray) = pure (ps.zip (us ++ its.drop j))) : Df P w K mg base g k (dvs.drop j) sp := by
  obtain ⟨fd, F, FD⟩ := D
  obtain ⟨ds, v, b⟩ := FD.binds1 n j hd hn h
  exact ⟨⟨fd, ps, ds, F, b, v⟩, FD.kp⟩
theorem okn2 {p : V → V → Hp → VK → Prop} {a b : Str} (F : FunD K x qual params body scope dvs [] g fd) (S : FnScope N [a, b] scope)
    (hb : ∀ x y H Q, p x y H Q → Bd P w K mg base qual scope g N k body [x, y] H Q) : FnOk P w K mg base CX0 (k + 1) g fd [a, b] (s2 p) :=
  ok_of F S (fun _ _ _ _ ⟨_, _, e, _⟩ => by rw [e]; rfl) fun _ _ _ _ ⟨_, _, e, h⟩ => by rw [e]; exact hb _ _ _ _ h
theorem okn3 {p : V → V → V → Hp → VK → Prop} {a b c : Str} (F : FunD K x qual params body scope dvs [] g fd) (S : FnScope N [a, b, c] scope)
    (hb : ∀ x y z H Q, p x y z H Q → Bd P w K mg base qual scope g N k body [x, y, z] H Q) : FnOk P w K mg base CX0 (k + 1) g fd [a, b, c] (s3 p) :=
  ok_of F S (fun _ _ _ _ ⟨_, _, _, e, _⟩ => by rw [e]; rfl) fun _ _ _ _ ⟨_, _, _, e, h⟩ => by rw [e]; exact hb _ _ _ _ _ h
theorem okn4 {p : V → V → V → V → Hp → VK → Prop} {a b c d : Str} (F : FunD K x qual params body scope dvs [] g fd) (S : FnScope N [a, b, c, d] scope)
    (hb : ∀ x y z u H Q, p x y z u H Q → Bd P w K mg base qual scope g N k body [x, y, z, u] H Q) : FnOk P w K mg base CX0 (k + 1) g fd [a, b, c, d] (s4 p) :=
  ok_of F S (fun _ _ _ _ ⟨_, _, _, _, e, _⟩ => by rw [e]; rfl) fun _ _ _ _ ⟨_, _, _, _, e, h⟩ => by rw [e]; exact hb _ _ _ _ _ _ h
theorem okn5 {p : V → V → V → V → V → Hp → VK → Prop} {a b c d e : Str} (F : FunD K x qual params body scope dvs [] g fd) (S : FnScope N [a, b, c, d, e] scope)
    (hb : ∀ x y z u v H Q, p x y z u v H Q → Bd P w K mg base qual scope g N k body [x, y, z, u, v] H Q) : FnOk P w K mg base CX0 (k + 1) g fd [a, b, c, d, e] (s5 p) :=
  ok_of F S (fun _ _ _ _ ⟨_, _, _, _, _, e, _⟩ => by rw [e]; rfl) fun _ _ _ _ ⟨_, _, _, _, _, e, h⟩ => by rw [e]; exact hb _ _ _ _ _ _ _ h
theorem okn6 {p : V → V → V → V → V → V → Hp → VK → Prop} {a b c d e f : Str} (F : FunD K x qual params body scope dvs [] g fd) (S : FnScope N [a, b, c, d, e, f] scope)
    (hb : ∀ x y z u v w' H Q, p x y z u v w' H Q → Bd P w K mg base qual scope g N k body [x, y, z, u, v, w'] H Q) : FnOk P w K mg base CX0 (k + 1) g fd [a, b, c, d, e, f] (s6 p) :=
  ok_of F S (fun _ _ _ _ ⟨_, _, _, _, _, _, e, _⟩ => by rw [e]; rfl) fun _ _ _ _ ⟨_, _, _, _, _, _, e, h⟩ => by rw [e]; exact hb _ _ _ _ _ _ _ _ h
end
/-! ### dicts with int keys -/
theorem valV_mem {α : Type} {f : α → V} : ∀ {kvs : List (Nat × α)} {n : Nat} {a : α}, (kvs.map (·.1)).Nodup → (n, a) ∈ kvs → valV (kvs.map fun p => ((Sum.inl ((p.1 : Nat) : Int) : Key), f p.2)) (.inl ((n : Nat) : Int)) = some (f a)
  | [], _, _, _, h => absurd h (List.not_mem_nil)
  | (m, b) :: r, n, a, nd, h => by
    rw [List.map_cons]
    rcases List.mem_cons.mp h with e | h
    · cases e
      exact valV_pos rfl
    · have h1 : m ≠ n := fun z => (List.nodup_cons.mp nd).1 (by show m ∈ _; rw [z]; exact List.mem_map.mpr ⟨(n, a), h, rfl⟩)
      rw [valV_neg (by intro z; injection z with z; exact h1 (by omega))]
      exact valV_mem (List.nodup_cons.mp nd).2 h
theorem valV_no {α : Type} {f : α → V} : ∀ {kvs : List (Nat × α)} {n : Nat}, (∀ p ∈ kvs, p.1 ≠ n) → valV (kvs.map fun p => ((Sum.inl ((p.1 : Nat) : Int) : Key), f p.2)) (.inl ((n : Nat) : Int)) = none
  | [], _, _ => rfl
  | (m, b) :: r, n, h => by
    rw [List.map_cons, valV_neg (by intro z; injection z with z; exact h (m, b) List.mem_cons_self (by omega))]
    exact valV_no fun p hp => h p (List.mem_cons_of_mem _ hp)
theorem putK_new {α : Type} {f : α → V} {kvs : List (Nat × α)} {n : Nat} {v : V} (h : ∀ p ∈ kvs, p.1 ≠ n) : putK (kvs.map fun p => ((Sum.inl ((p.1 : Nat) : Int) : Key), f p.2)) (.inl ((n : Nat) : Int)) v = (kvs.map fun p => ((Sum.inl ((p.1 : Nat) : Int) : Key), f p.2)) ++ [(.inl ((n : Nat) : Int), v)] := by
  unfold putK
  rw [valV_any, valV_no h]
  rfl
end Rc

set_option Elab.async false
set_option linter.all false
set_option maxRecDepth 100000
set_option maxHeartbeats 4000000
namespace Rc
open PySem PySem.Spec PyProof.Rows L2 He
structure LedNe (l : Addr) (L : Led) : Prop where
  l_de : l ≠ L.de
  l_ow : l ≠ L.ow
  l_st : l ≠ L.st
  de_ow : L.de ≠ L.ow
  de_st : L.de ≠ L.st
  ow_st : L.ow ≠ L.st
  a_l : ∀ d ∈ L.act, d.a ≠ l ∧ d.a ≠ L.de ∧ d.a ≠ L.ow ∧ d.a ≠ L.st
  p_l : ∀ d ∈ L.act, d.p ≠ l ∧ d.p ≠ L.de ∧ d.p ≠ L.ow ∧ d.p ≠ L.st
theorem led_ne {l : Addr} {L : Led} (nd : (L.fp l).Nodup) : LedNe l L := by
  unfold Led.fp at nd
  simp only [List.nodup_cons, List.mem_cons, List.mem_flatMap, not_or, not_exists, not_and] at nd
  obtain ⟨⟨h1, h2, h3, h4⟩, ⟨h5, h6, h7⟩, ⟨h8, h9⟩, h10, _⟩ := nd
  refine ⟨h1, h2, h3, h5, h6, h8, fun d hd => ?_, fun d hd => ?_⟩
  · exact ⟨Ne.symm (h4 d hd).1, Ne.symm (h7 d hd).1, Ne.symm (h9 d hd).1, Ne.symm (h10 d hd).1⟩
  · exact ⟨Ne.symm (h4 d hd).2.1, Ne.symm (h7 d hd).2.1, Ne.symm (h9 d hd).2.1, Ne.symm (h10 d hd).2.1⟩
def Led.push (L : Led) (n : Nat) : Led := { L with owners := L.owners ++ [n], states := L.states ++ [.runs] }
theorem SL_len (ss : List Sta) : (SL ss).length = ss.length := List.length_map _
theorem SL_app (ss tt : List Sta) : SL (ss ++ tt) = SL ss ++ SL tt := List.map_append
theorem LedAt.push {K : PySem.W.Frag} {H : Hp} {l : Addr} {L : Led} (h : LedAt K H l L) (lt : L.owners.length < 63) (n : Nat) : LedAt K (upd (upd H L.ow (.lst (IL L.owners ++ [.int (n : Int)]))) L.st (.lst (SL L.states ++ [.str "runs"]))) l (L.push n) := by
  have ne := led_ne h.nd
  obtain ⟨dx, e⟩ := h.ob
  have kp : ∀ {a : Addr} {o : HO}, a ≠ L.ow → a ≠ L.st → H a = some o → upd (upd H L.ow (.lst (IL L.owners ++ [.int (n : Int)]))) L.st (.lst (SL L.states ++ [.str "runs"])) a = some o := fun {a o} h1 h2 e => by
    rw [upd_ne h2, upd_ne h1]
    exact e
  refine ⟨⟨dx, kp ne.l_ow ne.l_st e⟩, kp ne.de_ow ne.de_st h.de, ?_, ?_, fun d hd => ?_, h.nd, h.kn, ?_, fun q hq => ?_, ?_, fun d hd => ?_⟩
  · show upd (upd H L.ow _) L.st _ L.ow = some (.lst (IL (L.owners ++ [n])))
    rw [upd_ne ne.ow_st, upd_same, IL_app]
    rfl
  · show upd (upd H L.ow _) L.st _ L.st = some (.lst (SL (L.states ++ [.runs])))
    rw [upd_same, SL_app]
    rfl
  · obtain ⟨h1, h2⟩ := h.act d hd
    obtain ⟨_, _, a1, a2⟩ := ne.a_l d hd
    obtain ⟨_, _, p1, p2⟩ := ne.p_l d hd
    exact ⟨h1.keep (fun o e => kp a1 a2 e) (fun o e => kp p1 p2 e), h2⟩
  · show (L.owners ++ [n]).length = (L.states ++ [Sta.runs]).length
    rw [List.length_append, List.length_append, h.ln]
    rfl
  · show q.1 ≤ (L.owners ++ [n]).length + 1
    rw [List.length_append]
    have := h.kl q hq
    omega
  · show (L.owners ++ [n]).length ≤ 63
    rw [List.length_append, List.length_singleton]
    omega
  · obtain ⟨h1, h2, h3⟩ := h.pp d hd
    refine ⟨h1, h2, fun p hp => ?_⟩
    show 1 ≤ p ∧ p ≤ (L.owners ++ [n]).length
    rw [List.length_append]
    have := h3 p hp
    omega
theorem push_chg {K : PySem.W.Frag} {H : Hp} {l : Addr} {L : Led} (h : LedAt K H l L) (xs ys : List V) : Chg [L.ow, L.st] H (upd (upd H L.ow (.lst xs)) L.st (.lst ys)) :=
  (Chg.upd h.ow (by simp)).trans (Chg.upd (u := .lst (SL L.states)) (by rw [upd_ne (Ne.symm (led_ne h.nd).ow_st)]; exact h.st) (by simp))
def sp_Ledger_following (K : PySem.W.Frag) : Sp := s1 fun x H Q => ∃ l L, x = .ref l ∧ LedAt K H l L ∧ Q (.int ((L.owners.length + 1 : Nat) : Int)) H
theorem ok_Ledger_following {P : Program} {w : World} {K : PySem.W.Frag} {mg : Str → Option Value} {base : Heap} (T : Tx K mg) : Df P w K mg base (fAd K ("Ledger", some "following")) 1 [] (sp_Ledger_following K) := by
  obtain ⟨fd, F⟩ := fn_Ledger_following T
  refine df1 F sc_Ledger_following (fun _ _ _ _ _ _ us hl => match us, hl with | [_], _ => rfl) fun self H Q h => ?_
  intro cdv A outer s E hr
  have hu := hu_of hr
  refine ⟨_, (pss_one (ps_ret (pe_op op_add (pe_callB (call_len_seqK K) (by rfl) (T.b_len) (by decide +kernel) (pa_cons (pe_at (T.f_Ledger_own_owners) (pv 0)) pa_nil)) pe_int))), ?_⟩
  obtain ⟨l, L, ex, hL, q⟩ := h
  subst ex
  obtain ⟨dx, e⟩ := hL.ob
  refine ⟨_, rfl, l, dx, _, _, rfl, e, rfl, L.ow, _, rfl, .inl (SqL.of hL.ow), _, 1, rfl, rfl, ?_⟩
  have e1 : ((IL L.owners).length : Int) + 1 = ((L.owners.length + 1 : Nat) : Int) := by
    rw [IL_len]
    omega
  rw [← e1] at q
  exact q
def sp_Ledger_take_number (K : PySem.W.Frag) : Sp := s2 fun x y H Q => ∃ l L n, x = .ref l ∧ y = .int ((n : Nat) : Int) ∧ LedAt K H l L ∧ L.owners.length < 63 ∧
  ∀ H', Chg [L.ow, L.st] H H' → LedAt K H' l (L.push n) → Q (.int ((L.owners.length + 1 : Nat) : Int)) H'
theorem okf_Ledger_take_number {P : Program} {w : World} {K : PySem.W.Frag} {mg : Str → Option Value} {base : Heap} (T : Tx K mg) : ∃ fd, FnOk P w K mg base CX0 1 (fAd K ("Ledger", some "take_number")) fd ["self", "owner"] (sp_Ledger_take_number K) ∧ FunD K "take_number" "Ledger.take_number" (defArgs t_Ledger_take_number) (defBody t_Ledger_take_number) (defScope t_Ledger_take_number) [.non] [] (fAd K ("Ledger", some "take_number")) fd := by
  obtain ⟨fd, F⟩ := fn_Ledger_take_number T
  refine ⟨fd, okn2 F sc_Ledger_take_number fun self owner H Q h => ?_, F⟩
  intro cdv A outer s E hr
  have hu := hu_of hr
  refine ⟨_, (pss_cons (ps_expr (pe_bm PySem.F.plainAttrs_list PySem.F.slot_list_append PySem.F.type_list_append mt_append (pe_at (T.f_Ledger_own_owners) (pv 0)) (pa_cons (pv 1) pa_nil)))
    (pss_cons (ps_expr (pe_bm PySem.F.plainAttrs_list PySem.F.slot_list_append PySem.F.type_list_append mt_append (pe_at (T.f_Ledger_own_states) (pv 0)) (pa_cons (pe_ifExp (pt_cmp (pc_isN (pv 1)) rfl) (pe_gs rfl (T.g_BUILT)) (pe_gs rfl (T.g_RUNS))) pa_nil)))
    (pss_one (ps_ret (pe_callB (call_len_seqK K) (by rfl) (T.b_len) (by decide +kernel) (pa_cons (pe_at (T.f_Ledger_own_owners) (pv 0)) pa_nil)))))), ?_⟩
  obtain ⟨l, L, n, ex, ey, hL, lt, q⟩ := h
  subst ex ey
  obtain ⟨dx, e⟩ := hL.ob
  have ne := led_ne hL.nd
  refine ⟨_, rfl, l, dx, _, _, rfl, e, rfl, .inl ⟨rfl, _, SqL.of hL.ow⟩, _, rfl, L.ow, _, _, rfl, rfl, hL.ow, small1000 (by rw [IL_len]; omega), ?_⟩
  have e1 : upd H L.ow (.lst (IL L.owners ++ [.int (n : Int)])) l = some (Ob (ga K "Ledger") dx nsLedger [.ref L.de, .ref L.ow, .ref L.st]) := by
    rw [upd_ne ne.l_ow]
    exact e
  have e2 : upd H L.ow (.lst (IL L.owners ++ [.int (n : Int)])) L.st = some (.lst (SL L.states)) := by
    rw [upd_ne (Ne.symm ne.ow_st)]
    exact hL.st
  refine ⟨_, rfl, l, dx, _, _, rfl, e1, rfl, .inl ⟨rfl, _, SqL.of e2⟩, _, rfl, _, rfl, ite2 (fun h => absurd (of_decide_eq_true h) (fun z => nomatch z)) fun _ => ?_⟩
  refine ⟨L.st, _, _, rfl, rfl, e2, small1000 (by rw [SL_len, ← hL.ln]; omega), ?_⟩
  have hp := hL.push lt n
  obtain ⟨dx', e3⟩ := hp.ob
  refine ⟨_, rfl, l, dx', _, _, rfl, e3, rfl, L.ow, _, rfl, .inl (SqL.of hp.ow), ?_⟩
  have e4 : (IL (L.push n).owners).length = L.owners.length + 1 := by
    rw [IL_len]
    show (L.owners ++ [n]).length = _
    rw [List.length_append]
    rfl
  rw [e4]
  exact q _ (push_chg hL _ _) hp
theorem ok_Ledger_take_number {P : Program} {w : World} {K : PySem.W.Frag} {mg : Str → Option Value} {base : Heap} (T : Tx K mg) : Df P w K mg base (fAd K ("Ledger", some "take_number")) 1 [] (sp_Ledger_take_number K) :=
  df_dfl (okf_Ledger_take_number T) 2 1 (List.cons_ne_nil _ _) rfl fun T kV doc pm an cdv ct us its hu hi => match us, hu, its, hi with | [_, _], _, [_], _ => ⟨_, rfl, rfl⟩
theorem st_at {L : Led} {n : Nat} {s : Sta} (h : L.states[n]? = some s) : (SL L.states)[n]? = some (.str (staS s)) := by
  unfold SL
  rw [List.getElem?_map, h]
  rfl
def sp_Ledger_owner_of (K : PySem.W.Frag) : Sp := s2 fun x y H Q => ∃ l L n o, x = .ref l ∧ y = .int ((n : Nat) : Int) ∧ LedAt K H l L ∧ 1 ≤ n ∧ L.owners[n - 1]? = some o ∧ Q (.int ((o : Nat) : Int)) H
theorem ok_Ledger_owner_of {P : Program} {w : World} {K : PySem.W.Frag} {mg : Str → Option Value} {base : Heap} (T : Tx K mg) : Df P w K mg base (fAd K ("Ledger", some "owner_of")) 1 [] (sp_Ledger_owner_of K) := by
  obtain ⟨fd, F⟩ := fn_Ledger_owner_of T
  refine df2 F sc_Ledger_owner_of (fun _ _ _ _ _ _ us hl => match us, hl with | [_, _], _ => rfl) fun self number H Q h => ?_
  intro cdv A outer s E hr
  have hu := hu_of hr
  refine ⟨_, (pss_one (ps_ret (pe_ix (ix_listK K) (pe_at (T.f_Ledger_own_owners) (pv 0)) (pe_op op_sub (pv 1) pe_int) (fun _ _ => rfl)))), ?_⟩
  obtain ⟨l, L, n, o, ex, ey, hL, h1, ho, q⟩ := h
  subst ex ey
  obtain ⟨dx, e⟩ := hL.ob
  have e1 : ((n : Int) - 1) = ((n - 1 : Nat) : Int) := by omega
  refine ⟨_, rfl, l, dx, _, _, rfl, e, rfl, _, rfl, _, 1, rfl, rfl, L.ow, _, _, .int ((o : Nat) : Int), rfl, rfl, SqL.of hL.ow, ?_, q⟩
  rw [e1]
  exact atI_nat (IL_at ho)
def sp_Ledger_state (K : PySem.W.Frag) : Sp := s2 fun x y H Q => ∃ l L n s, x = .ref l ∧ y = .int ((n : Nat) : Int) ∧ LedAt K H l L ∧ 1 ≤ n ∧ L.states[n - 1]? = some s ∧ Q (.str (staS s)) H
theorem ok_Ledger_state {P : Program} {w : World} {K : PySem.W.Frag} {mg : Str → Option Value} {base : Heap} (T : Tx K mg) : Df P w K mg base (fAd K ("Ledger", some "state")) 2 [] (sp_Ledger_state K) := by
  obtain ⟨fd, F⟩ := fn_Ledger_state T
  refine df2 F sc_Ledger_state (fun _ _ _ _ _ _ us hl => match us, hl with | [_, _], _ => rfl) fun self number H Q h => ?_
  intro cdv A outer s E hr
  have hu := hu_of hr
  refine ⟨_, (pss_one (ps_ret (pe_ifExp (pt_chain op_le op_lt pe_int (pv 1) (pe_mt0 (ok_Ledger_following T) (T.m_Ledger_following) (hr.mono (by decide)) (pv 0))) (pe_ix (ix_listK K) (pe_at (T.f_Ledger_own_states) (pv 0)) (pe_op op_sub (pv 1) pe_int) (fun _ _ => rfl)) pe_non))), ?_⟩
  obtain ⟨l, L, n, st, ex, ey, hL, h1, hs, q⟩ := h
  subst ex ey
  obtain ⟨dx, e⟩ := hL.ob
  have e1 : ((n : Int) - 1) = ((n - 1 : Nat) : Int) := by omega
  have lt : n - 1 < L.owners.length := by
    rw [hL.ln]
    exact (List.getElem?_eq_some_iff.mp hs).1
  refine ⟨_, rfl, 1, (n : Int), rfl, rfl, _, rfl, ite2 (fun _ => ?_) fun z => absurd (decide_eq_true (by omega)) z⟩
  refine ⟨_, rfl, l, dx, _, rfl, e, _, rfl, l, L, rfl, hL, (n : Int), _, rfl, rfl, _, rfl, ite2 (fun _ => ?_) fun z => absurd (decide_eq_true (by omega)) z⟩
  refine ⟨_, rfl, l, dx, _, _, rfl, e, rfl, _, rfl, _, 1, rfl, rfl, L.st, _, _, .str (staS st), rfl, rfl, SqL.of hL.st, ?_, q⟩
  rw [e1]
  exact atI_nat (st_at hs)
theorem deal_get {K : PySem.W.Frag} {H : Hp} {l : Addr} {L : Led} (h : LedAt K H l L) {n : Nat} {a : Addr} (m : (n, a) ∈ L.kvs) : DGet H L.de (.int ((n : Nat) : Int)) (some (.ref a)) := by
  have e : valV (dealK L.kvs) (.inl ((n : Nat) : Int)) = some (.ref a) := valV_mem (f := V.ref) h.kn m
  rw [← e]
  exact DGet.k (k := .inl ((n : Nat) : Int)) h.de
def sp_Ledger_look_running (K : PySem.W.Frag) : Sp := s2 fun x y H Q => ∃ l L n a, x = .ref l ∧ y = .int ((n : Nat) : Int) ∧ LedAt K H l L ∧ (n, a) ∈ L.kvs ∧ 1 ≤ n ∧ L.states[n - 1]? = some .runs ∧ Q .non H
theorem ok_Ledger_look_running {P : Program} {w : World} {K : PySem.W.Frag} {mg : Str → Option Value} {base : Heap} (T : Tx K mg) : Df P w K mg base (fAd K ("Ledger", some "look_running")) 3 [] (sp_Ledger_look_running K) := by
  obtain ⟨fd, F⟩ := fn_Ledger_look_running T
  refine df2 F sc_Ledger_look_running (fun _ _ _ _ _ _ us hl => match us, hl with | [_, _], _ => rfl) fun self number H Q h => ?_
  intro cdv A outer s E hr
  have hu := hu_of hr
  refine ⟨_, (pss_one (ps_if (PW.pt (pw_or (pt_cmp (pc_dnotin hu (pv 1) (pe_at (T.f_Ledger_own_deals) (pv 0))) rfl) (pw_or1 (pt_cmpR op_ne (pe_mt (ok_Ledger_state T) (T.m_Ledger_state) (hr.mono (by decide)) (pv 0) (pa_cons (pv 1) pa_nil)) (pe_gs rfl (T.g_RUNS)) (nomark _))))) (pss_one ps_never) pss_nil)), ?_⟩
  obtain ⟨l, L, n, a, ex, ey, hL, hm, h1, hs, q⟩ := h
  subst ex ey
  obtain ⟨dx, e⟩ := hL.ob
  refine ⟨_, rfl, _, rfl, l, dx, _, _, rfl, e, rfl, L.de, _, rfl, deal_get hL hm, _, rfl, iteF ?_⟩
  refine ⟨_, rfl, l, dx, _, rfl, e, _, rfl, _, _, rfl, l, L, n, .runs, rfl, rfl, hL, h1, hs, rfl, _, rfl, ?_⟩
  exact ite2 (fun z => by cases z) fun _ => q
end Rc


set_option Elab.async false
set_option linter.all false
set_option maxRecDepth 100000
set_option maxHeartbeats 4000000
namespace Rc
open PySem PySem.Spec PyProof.Rows L2 He
theorem DGet.keep1 {H H' : Hp} {a : Addr} {n : Nat} {kvs : List (Key × V)} {r : V} (e : H' a = some (.dK kvs)) (v : valV kvs (.inl ((n : Nat) : Int)) = some r) : DGet H' a (.int ((n : Nat) : Int)) (some r) := by
  rw [← v]
  exact DGet.k (k := .inl ((n : Nat) : Int)) e
theorem LedAt.there {K : PySem.W.Frag} {H : Hp} {l : Addr} {L : Led} (h : LedAt K H l L) : ∀ a ∈ L.fp l, H a ≠ none := fun a ha => by
  unfold Led.fp at ha
  simp only [List.mem_cons, List.mem_flatMap, List.not_mem_nil, or_false] at ha
  obtain ⟨dx, e⟩ := h.ob
  rcases ha with z | z | z | z | ⟨d, hd, z⟩
  · rw [z, e]; exact fun z => nomatch z
  · rw [z, h.de]; exact fun z => nomatch z
  · rw [z, h.ow]; exact fun z => nomatch z
  · rw [z, h.st]; exact fun z => nomatch z
  · obtain ⟨⟨dx2, e2⟩, e3⟩ := (h.act d hd).1
    rcases z with z | z
    · rw [z, e2]; exact fun z => nomatch z
    · rw [z, e3]; exact fun z => nomatch z
theorem LedAt.nt {K : PySem.W.Frag} {H : Hp} {l : Addr} {L : Led} (h : LedAt K H l L) : ∀ a ∈ L.fp l, NT (H a) := fun a ha => by
  unfold Led.fp at ha
  simp only [List.mem_cons, List.mem_flatMap, List.not_mem_nil, or_false] at ha
  obtain ⟨dx, e⟩ := h.ob
  rcases ha with z | z | z | z | ⟨d, hd, z⟩
  · rw [z]; exact NT.of e rfl
  · rw [z]; exact NT.of h.de rfl
  · rw [z]; exact NT.of h.ow rfl
  · rw [z]; exact NT.of h.st rfl
  · obtain ⟨⟨dx2, e2⟩, e3⟩ := (h.act d hd).1
    rcases z with z | z
    · rw [z]; exact NT.of e2 rfl
    · rw [z]; exact NT.of e3 rfl
/-- nothing of the ledger is among fp -/
theorem LedAt.chg {K : PySem.W.Frag} {H H' : Hp} {l : Addr} {L : Led} {fp : List Addr} (h : LedAt K H l L) (c : Chg fp H H') (n : ∀ a ∈ fp, a ∉ L.fp l) : LedAt K H' l L :=
  h.keep fun a ha o e => c.keep a o e fun z => n a z ha
theorem LedAt.cht {K : PySem.W.Frag} {H H' : Hp} {l : Addr} {L : Led} {fp : List Addr} (h : LedAt K H l L) (c : ChT fp H H') (n : ∀ a ∈ fp, a ∉ L.fp l) : LedAt K H' l L :=
  h.keep fun a ha o e => c.keep a o e (fun z => n a z ha) fun ps z => by
    obtain ⟨o', e', hn⟩ := h.nt a ha
    rw [e] at e'
    cases e'
    exact hn ps z
theorem same_mk {H : Hp} {x dx : Addr} {o1 o2 : HO} (nx : H x = none) (nd : H dx = none) : Same H (upd (upd H dx o1) x o2) := fun b o e => by
  rw [upd_ne (ne_of_none e nx), upd_ne (ne_of_none e nd)]
  exact e
/-! ### new ones -/
def sp_Deal_init (K : PySem.W.Frag) : Sp := s3 fun x y z H Q => ∃ (a dx : Addr) (n : Nat), x = .ref a ∧ H a = some (Ob (ga K "Deal") dx nsDeal []) ∧ y = .int (n : Int) ∧ z = .str "each" ∧
  ∀ p H', Chg [a] H H' → H p = none → H' a = some (Ob (ga K "Deal") dx nsDeal [.ref p, .str "each", .int ((0 : Nat) : Int)]) → H' p = some (.lst (IL [n])) → Q .non H'
theorem ok_Deal_init {P : Program} {w : World} {K : PySem.W.Frag} {mg : Str → Option Value} {base : Heap} (T : Tx K mg) : Df P w K mg base (fAd K ("Deal", some "__init__")) 1 [] (sp_Deal_init K) := by
  obtain ⟨fd, F⟩ := fn_Deal_init T
  refine df3 F sc_Deal_init (fun _ _ _ _ _ _ us hl => match us, hl with | [_, _, _], _ => rfl) fun self number level H Q h => ?_
  intro cdv A outer s E hr
  have hu := hu_of hr
  refine ⟨_, (pss_cons (ps_new (T.f_Deal_own_parts) (pv 0) (pe_lst (pa_cons (pv 1) pa_nil)))
    (pss_cons (ps_new (T.f_Deal_own_level) (pv 0) (pv 2))
    (pss_one (ps_new (T.f_Deal_own_commands) (pv 0) pe_int)))), ?_⟩
  obtain ⟨a, dx, n, ex, e, ey, ez, q⟩ := h
  subst ex ey ez
  refine ⟨_, rfl, Nat.le_of_ble_eq_true rfl, fun p np => ?_⟩
  have s1 : Same H (upd H p (.lst [.int (n : Int)])) := same_new np
  have hpa : p ≠ a := fun z => by rw [z, e] at np; cases np
  refine ⟨_, rfl, a, dx, _, rfl, s1 _ _ e, rfl, ?_⟩
  refine ⟨_, rfl, _, rfl, a, dx, _, rfl, upd_same, rfl, ?_⟩
  refine ⟨_, rfl, a, dx, _, rfl, upd_same, rfl, ?_⟩
  refine q p _ ?_ np upd_same ?_
  · refine ((((Chg.of s1).trans (Chg.upd (s1 _ _ e) (by simp))).trans (Chg.upd upd_same (by simp))).trans (Chg.upd upd_same (by simp)))
  · rw [upd_ne hpa, upd_ne hpa, upd_ne hpa]
    exact upd_same
def sp_Ledger_init (K : PySem.W.Frag) : Sp := s1 fun x H Q => ∃ (a dx : Addr), x = .ref a ∧ H a = some (Ob (ga K "Ledger") dx nsLedger []) ∧
  ∀ de ow st H', Chg [a] H H' → H de = none → H ow = none → H st = none → LedAt K H' a ⟨de, ow, st, [], [], [], []⟩ → Q .non H'
theorem ok_Ledger_init {P : Program} {w : World} {K : PySem.W.Frag} {mg : Str → Option Value} {base : Heap} (T : Tx K mg) : Df P w K mg base (fAd K ("Ledger", some "__init__")) 1 [] (sp_Ledger_init K) := by
  obtain ⟨fd, F⟩ := fn_Ledger_init T
  refine df1 F sc_Ledger_init (fun _ _ _ _ _ _ us hl => match us, hl with | [_], _ => rfl) fun self H Q h => ?_
  intro cdv A outer s E hr
  have hu := hu_of hr
  refine ⟨_, (pss_cons (ps_new (T.f_Ledger_own_deals) (pv 0) pe_dnewK)
    (pss_cons (ps_new (T.f_Ledger_own_owners) (pv 0) (pe_lst pa_nil))
    (pss_one (ps_new (T.f_Ledger_own_states) (pv 0) (pe_lst pa_nil))))), ?_⟩
  obtain ⟨a, dx, ex, e, q⟩ := h
  subst ex
  refine fun de nde => ?_
  have s1 : Same H (upd H de (.dK [])) := same_new nde
  have n1 : de ≠ a := fun z => by rw [z, e] at nde; cases nde
  have e1 := s1 _ _ e
  refine ⟨_, rfl, a, dx, _, rfl, e1, rfl, ?_⟩
  refine ⟨Nat.zero_le _, fun ow now => ?_⟩
  have s2 := same_new (o := .lst []) now
  have n2 : ow ≠ a := fun z => by rw [z, upd_same] at now; cases now
  have n3 : ow ≠ de := fun z => by rw [z, upd_ne n1, upd_same] at now; cases now
  have now0 : H ow = none := by rw [upd_ne n2, upd_ne n3] at now; exact now
  refine ⟨_, rfl, a, dx, _, rfl, s2 _ _ upd_same, rfl, ?_⟩
  refine ⟨Nat.zero_le _, fun st nst => ?_⟩
  have s3 := same_new (o := .lst []) nst
  have n4 : st ≠ a := fun z => by rw [z, upd_same] at nst; cases nst
  have n5 : st ≠ ow := fun z => by rw [z, upd_ne n2, upd_same] at nst; cases nst
  have n6 : st ≠ de := fun z => by rw [z, upd_ne n1, upd_ne (Ne.symm n3), upd_ne n1, upd_same] at nst; cases nst
  have nst0 : H st = none := by rw [upd_ne n4, upd_ne n5, upd_ne n4, upd_ne n6] at nst; exact nst
  refine ⟨_, rfl, a, dx, _, rfl, s3 _ _ upd_same, rfl, ?_⟩
  refine q de ow st _ ?_ nde now0 nst0 ?_
  · exact (((((Chg.of s1).trans (Chg.upd e1 (by simp))).trans (Chg.of s2)).trans (Chg.upd (s2 _ _ upd_same) (by simp))).trans (Chg.of s3)).trans (Chg.upd (s3 _ _ upd_same) (by simp))
  · refine ⟨⟨dx, upd_same⟩, ?_, ?_, ?_, nofun, ?_, List.nodup_nil, rfl, nofun, Nat.zero_le _, nofun⟩
    · show upd _ a _ de = _
      rw [upd_ne n1, upd_ne (Ne.symm n6), upd_ne n1, upd_ne (Ne.symm n3), upd_ne n1]
      exact upd_same
    · show upd _ a _ ow = _
      rw [upd_ne n2, upd_ne (Ne.symm n5), upd_ne n2]
      exact upd_same
    · show upd _ a _ st = _
      rw [upd_ne n4]
      exact upd_same
    · simp [Led.fp, Ne.symm n1, Ne.symm n2, Ne.symm n3, Ne.symm n4, Ne.symm n5, Ne.symm n6]
/-! ### one deal of it -/
def Led.withD (L : Led) (l1 : List Dl) (d : Dl) (l2 : List Dl) : Led := { L with act := l1 ++ d :: l2 }
theorem LedAt.setD {K : PySem.W.Frag} {H H' : Hp} {l : Addr} {L : Led} {l1 l2 : List Dl} {d d' : Dl} (h : LedAt K H l L) (ea : L.act = l1 ++ d :: l2) (hd : DealAt K H' d') (en : d'.n = d.n) (eA : d'.a = d.a) (eP : d'.p = d.p)
    (kp : ∀ a o, a ≠ d.a → a ≠ d.p → H a = some o → H' a = some o) (pp : d'.parts.length ≤ 8 ∧ d'.parts ≠ [] ∧ ∀ p ∈ d'.parts, 1 ≤ p ∧ p ≤ L.owners.length) : LedAt K H' l (L.withD l1 d' l2) := by
  have ne := led_ne h.nd
  have efp : (L.withD l1 d' l2).fp l = L.fp l := by
    unfold Led.withD Led.fp
    rw [ea]
    simp [eA, eP]
  have dm : d ∈ L.act := by rw [ea]; simp
  obtain ⟨a1, a2, a3, a4⟩ := ne.a_l d dm
  obtain ⟨p1, p2, p3, p4⟩ := ne.p_l d dm
  obtain ⟨dx, e⟩ := h.ob
  have nd2 := h.nd
  unfold Led.fp at nd2
  rw [ea] at nd2
  simp only [List.nodup_cons] at nd2
  have nd3 := nd2.2.2.2.2
  rw [List.flatMap_append, List.flatMap_cons, List.nodup_append] at nd3
  obtain ⟨_, nd4, dj1⟩ := nd3
  rw [List.nodup_append] at nd4
  obtain ⟨_, _, dj2⟩ := nd4
  have oth : ∀ d2, d2 ∈ l1 ∨ d2 ∈ l2 → (d2.a ≠ d.a ∧ d2.a ≠ d.p) ∧ d2.p ≠ d.a ∧ d2.p ≠ d.p := fun d2 h2 => by
    rcases h2 with h2 | h2
    · have m1 : d2.a ∈ l1.flatMap fun d => [d.a, d.p] := List.mem_flatMap.mpr ⟨d2, h2, by simp⟩
      have m2 : d2.p ∈ l1.flatMap fun d => [d.a, d.p] := List.mem_flatMap.mpr ⟨d2, h2, by simp⟩
      exact ⟨⟨dj1 _ m1 _ (by simp), dj1 _ m1 _ (by simp)⟩, dj1 _ m2 _ (by simp), dj1 _ m2 _ (by simp)⟩
    · have m1 : d2.a ∈ l2.flatMap fun d => [d.a, d.p] := List.mem_flatMap.mpr ⟨d2, h2, by simp⟩
      have m2 : d2.p ∈ l2.flatMap fun d => [d.a, d.p] := List.mem_flatMap.mpr ⟨d2, h2, by simp⟩
      exact ⟨⟨Ne.symm (dj2 _ (by simp) _ m1), Ne.symm (dj2 _ (by simp) _ m1)⟩, Ne.symm (dj2 _ (by simp) _ m2), Ne.symm (dj2 _ (by simp) _ m2)⟩
  have two : ∀ d2 ∈ (L.withD l1 d' l2).act, d2 = d' ∨ (d2 ∈ L.act ∧ (d2 ∈ l1 ∨ d2 ∈ l2)) := fun d2 h2 => by
    have h2 : d2 ∈ l1 ++ d' :: l2 := h2
    rw [ea]
    simp only [List.mem_append, List.mem_cons] at h2 ⊢
    rcases h2 with h2 | h2 | h2
    · exact .inr ⟨.inl h2, .inl h2⟩
    · exact .inl h2
    · exact .inr ⟨.inr (.inr h2), .inr h2⟩
  refine ⟨⟨dx, kp _ _ (Ne.symm a1) (Ne.symm p1) e⟩, kp _ _ (Ne.symm a2) (Ne.symm p2) h.de, kp _ _ (Ne.symm a3) (Ne.symm p3) h.ow, kp _ _ (Ne.symm a4) (Ne.symm p4) h.st, fun d2 h2 => ?_, efp ▸ h.nd, h.kn, h.ln, h.kl, h.lo, fun d2 h2 => ?_⟩
  · rcases two d2 h2 with z | ⟨m, z⟩
    · rw [z, en, eA]
      exact ⟨hd, (h.act d dm).2⟩
    · obtain ⟨h3, h4⟩ := h.act d2 m
      obtain ⟨⟨o1, o2⟩, o3, o4⟩ := oth d2 z
      exact ⟨h3.keep (fun o => kp _ o o1 o2) (fun o => kp _ o o3 o4), h4⟩
  · rcases two d2 h2 with z | ⟨m, z⟩
    · rw [z]
      exact pp
    · exact h.pp d2 m
theorem deal_of {K : PySem.W.Frag} {H : Hp} {l : Addr} {L : Led} {l1 l2 : List Dl} {d : Dl} (h : LedAt K H l L) (ea : L.act = l1 ++ d :: l2) : DGet H L.de (.int ((d.n : Nat) : Int)) (some (.ref d.a)) ∧ (∃ dx, H d.a = some (Ob (ga K "Deal") dx nsDeal [.ref d.p, .str "each", .int ((d.cmd : Nat) : Int)])) ∧ H d.p = some (.lst (IL d.parts)) := by
  have dm : d ∈ L.act := by rw [ea]; simp
  obtain ⟨h1, h2⟩ := h.act d dm
  exact ⟨deal_get h h2, h1.ob, h1.ps⟩
def sp_Ledger_save (K : PySem.W.Frag) : Sp := s2 fun x y H Q => ∃ l L l1 d l2, x = .ref l ∧ y = .int ((d.n : Nat) : Int) ∧ LedAt K H l L ∧ L.act = l1 ++ d :: l2 ∧ L.owners.length < 63 ∧ d.parts.length < 8 ∧
  ∀ H', Chg [L.ow, L.st, d.p] H H' → LedAt K H' l ((L.push d.n).withD l1 { d with parts := d.parts ++ [L.owners.length + 1] } l2) → Q (.int ((L.owners.length + 1 : Nat) : Int)) H'
theorem ok_Ledger_save {P : Program} {w : World} {K : PySem.W.Frag} {mg : Str → Option Value} {base : Heap} (T : Tx K mg) : Df P w K mg base (fAd K ("Ledger", some "save")) 2 [] (sp_Ledger_save K) := by
  obtain ⟨fd, F⟩ := fn_Ledger_save T
  refine df2 F sc_Ledger_save (fun _ _ _ _ _ _ us hl => match us, hl with | [_, _], _ => rfl) fun self number H Q h => ?_
  intro cdv A outer s E hr
  have hu := hu_of hr
  refine ⟨_, (pss_cons (ps_set (i := 2) (sc_Ledger_save).nd rfl (.inl rfl) (pe_mt (ok_Ledger_take_number T) (T.m_Ledger_take_number) (hr.mono (by decide)) (pv 0) (pa_cons (pv 1) pa_nil)))
    (pss_cons (ps_expr (pe_bm PySem.F.plainAttrs_list PySem.F.slot_list_append PySem.F.type_list_append mt_append (pe_at (T.f_Deal_own_parts) (pe_dget hu (pe_at (T.f_Ledger_own_deals) (pv 0)) (pv 1) (fun _ _ => rfl))) (pa_cons (pv 2) pa_nil)))
    (pss_one (ps_ret (pv 2))))), ?_⟩
  obtain ⟨l, L, l1, d, l2, ex, ey, hL, ea, lt, lp, q⟩ := h
  subst ex ey
  obtain ⟨dx, e⟩ := hL.ob
  refine ⟨_, rfl, l, dx, _, rfl, e, _, rfl, _, _, rfl, l, L, d.n, rfl, rfl, hL, lt, fun H1 c1 h1 => ?_⟩
  have ea1 : (L.push d.n).act = l1 ++ d :: l2 := ea
  obtain ⟨dg, ⟨dx2, e2⟩, e3⟩ := deal_of h1 ea1
  obtain ⟨dx1, e1⟩ := h1.ob
  refine ⟨_, rfl, l, dx1, _, _, rfl, e1, rfl, _, rfl, L.de, _, rfl, dg, d.a, dx2, _, _, rfl, e2, rfl, ?_⟩
  refine ⟨.inl ⟨rfl, _, SqL.of e3⟩, _, rfl, d.p, _, _, rfl, rfl, e3, small1000 (by rw [IL_len]; omega), ?_⟩
  refine ⟨_, rfl, q _ ?_ ?_⟩
  · exact (c1.mono (by simp)).trans (Chg.upd e3 (by simp))
  · have dm : d ∈ L.act := by rw [ea]; simp
    have apne : d.a ≠ d.p := by
      have nd := hL.nd
      unfold Led.fp at nd
      rw [ea] at nd
      simp [List.nodup_append] at nd
      exact nd.2.2.2.2.2.1.1.1
    obtain ⟨pl, pn, pb⟩ := hL.pp d dm
    refine h1.setD ea1 ⟨⟨dx2, ?_⟩, ?_⟩ rfl rfl rfl (fun a o _ np e => by rw [upd_ne np]; exact e) ⟨?_, ?_, fun p hp => ?_⟩
    · rw [upd_ne apne]
      exact e2
    · show upd H1 d.p _ d.p = some (.lst (IL (d.parts ++ [L.owners.length + 1])))
      rw [upd_same, IL_app]
      rfl
    · simp
      omega
    · simp
    · show 1 ≤ p ∧ p ≤ (L.owners ++ [d.n]).length
      rw [List.length_append, List.length_singleton]
      rcases List.mem_append.mp hp with hp | hp
      · have := pb p hp
        omega
      · rw [List.mem_singleton.mp hp]
        omega
end Rc


set_option Elab.async false
set_option linter.all false
set_option maxRecDepth 100000
set_option maxHeartbeats 4000000
namespace Rc
open PySem PySem.Spec PyProof.Rows L2 He
theorem deal_ne {K : PySem.W.Frag} {H : Hp} {l : Addr} {L : Led} (h : LedAt K H l L) {d : Dl} (dm : d ∈ L.act) : d.a ≠ d.p := by
  obtain ⟨l1, l2, ea⟩ := List.append_of_mem dm
  have nd := h.nd
  unfold Led.fp at nd
  rw [ea] at nd
  simp [List.nodup_append] at nd
  exact nd.2.2.2.2.2.1.1.1
/-! ### begin -/
def Led.begun (L : Led) (d : Dl) : Led := { L with owners := L.owners ++ [d.n], states := L.states ++ [.runs], kvs := L.kvs ++ [(d.n, d.a)], act := L.act ++ [d] }
def KL (L : Led) : Prop := ∀ q ∈ L.kvs, 1 ≤ q.1 ∧ q.1 ≤ L.owners.length
theorem LedAt.addKv {K : PySem.W.Frag} {H : Hp} {l : Addr} {L : Led} (h : LedAt K H l L) (kl : KL L) (x : Addr) :
    LedAt K (upd H L.de (.dK (dealK L.kvs ++ [(.inl ((L.owners.length + 1 : Nat) : Int), .ref x)]))) l { L with kvs := L.kvs ++ [(L.owners.length + 1, x)] } := by
  have ne := led_ne h.nd
  obtain ⟨dx, e⟩ := h.ob
  refine ⟨⟨dx, ?_⟩, ?_, ?_, ?_, fun d hd => ?_, h.nd, ?_, h.ln, fun q hq => ?_, h.lo, h.pp⟩
  · rw [upd_ne ne.l_de]
    exact e
  · show upd H L.de _ L.de = some (.dK (dealK (L.kvs ++ [(L.owners.length + 1, x)])))
    rw [upd_same]
    unfold dealK
    rw [List.map_append]
    rfl
  · show upd H L.de _ L.ow = _
    rw [upd_ne (Ne.symm ne.de_ow)]
    exact h.ow
  · show upd H L.de _ L.st = _
    rw [upd_ne (Ne.symm ne.de_st)]
    exact h.st
  · obtain ⟨h1, h2⟩ := h.act d hd
    obtain ⟨_, a1, _⟩ := ne.a_l d hd
    obtain ⟨_, p1, _⟩ := ne.p_l d hd
    refine ⟨h1.keep (fun o e => ?_) (fun o e => ?_), List.mem_append_left _ h2⟩
    · rw [upd_ne a1]
      exact e
    · rw [upd_ne p1]
      exact e
  · show ((L.kvs ++ [(L.owners.length + 1, x)]).map (·.1)).Nodup
    rw [List.map_append, List.nodup_append]
    refine ⟨h.kn, List.nodup_cons.mpr ⟨nofun, List.nodup_nil⟩, fun a ha b hb => ?_⟩
    rw [List.mem_singleton.mp hb]
    obtain ⟨q, hq, e⟩ := List.mem_map.mp ha
    have := (kl q hq).2
    show a ≠ L.owners.length + 1
    omega
  · rcases List.mem_append.mp hq with z | z
    · exact h.kl q z
    · rw [List.mem_singleton.mp z]
      exact Nat.le_refl _
theorem LedAt.addAct {K : PySem.W.Frag} {H : Hp} {l : Addr} {L : Led} {d : Dl} (h : LedAt K H l L) (hd : DealAt K H d) (hk : (d.n, d.a) ∈ L.kvs) (na : d.a ∉ L.fp l) (np : d.p ∉ L.fp l) (ap : d.a ≠ d.p)
    (pp : d.parts.length ≤ 8 ∧ d.parts ≠ [] ∧ ∀ p ∈ d.parts, 1 ≤ p ∧ p ≤ L.owners.length) : LedAt K H l { L with act := L.act ++ [d] } := by
  have efp : Led.fp l { L with act := L.act ++ [d] } = L.fp l ++ [d.a, d.p] := by
    unfold Led.fp
    rw [List.flatMap_append]
    rfl
  refine ⟨h.ob, h.de, h.ow, h.st, fun d2 h2 => ?_, ?_, h.kn, h.ln, h.kl, h.lo, fun d2 h2 => ?_⟩
  · rcases List.mem_append.mp h2 with z | z
    · exact h.act d2 z
    · rw [List.mem_singleton.mp z]
      exact ⟨hd, hk⟩
  · rw [efp, List.nodup_append]
    refine ⟨h.nd, by simp [ap], fun a ha b hb => ?_⟩
    simp only [List.mem_cons, List.not_mem_nil, or_false] at hb
    rcases hb with z | z
    · rw [z]
      exact fun y => na (y ▸ ha)
    · rw [z]
      exact fun y => np (y ▸ ha)
  · rcases List.mem_append.mp h2 with z | z
    · exact h.pp d2 z
    · rw [List.mem_singleton.mp z]
      exact pp
def sp_Ledger_begin (K : PySem.W.Frag) : Sp := s2 fun x y H Q => ∃ l L, x = .ref l ∧ y = .str "each" ∧ LedAt K H l L ∧ KL L ∧ L.owners.length < 63 ∧
  ∀ d H', d.n = L.owners.length + 1 → d.parts = [d.n] → d.cmd = 0 → H d.a = none → H d.p = none → Chg [L.de, L.ow, L.st] H H' → LedAt K H' l (L.begun d) → Q (.int ((d.n : Nat) : Int)) H'
theorem ok_Ledger_begin {P : Program} {w : World} {K : PySem.W.Frag} {mg : Str → Option Value} {base : Heap} (T : Tx K mg) : Df P w K mg base (fAd K ("Ledger", some "begin")) 3 [] (sp_Ledger_begin K) := by
  obtain ⟨fd, F⟩ := fn_Ledger_begin T
  refine df2 F sc_Ledger_begin (fun _ _ _ _ _ _ us hl => match us, hl with | [_, _], _ => rfl) fun self level H Q h => ?_
  intro cdv A outer s E hr
  have hu := hu_of hr
  refine ⟨_, (pss_cons (ps_set (i := 2) (sc_Ledger_begin).nd rfl (.inl rfl) (pe_mt0 (ok_Ledger_following T) (T.m_Ledger_following) (hr.mono (by decide)) (pv 0)))
    (pss_cons (ps_dput hu (pe_at (T.f_Ledger_own_deals) (pv 0)) (pv 2) (pe_mk (ok_Deal_init T) (T.k_Deal) (hr.mono (by decide)) rfl (T.g_Deal) (pa_cons (pv 2) (pa_cons (pv 1) pa_nil))) rfl)
    (pss_one (ps_ret (pe_mt (ok_Ledger_take_number T) (T.m_Ledger_take_number) (hr.mono (by decide)) (pv 0) (pa_cons (pv 2) pa_nil)))))), ?_⟩
  obtain ⟨l, L, ex, ey, hL, kl, lt, q⟩ := h
  subst ex ey
  obtain ⟨dx, e⟩ := hL.ob
  refine ⟨_, rfl, l, dx, _, rfl, e, _, rfl, l, L, rfl, hL, ?_⟩
  refine ⟨_, rfl, _, rfl, fun a adx na nadx hne => ⟨_, _, _, rfl, a, adx, L.owners.length + 1, rfl, upd_same, rfl, rfl, fun p H1 c1 np1 ha hp => ⟨rfl, ?_⟩⟩⟩
  have s0 := same_mk (o1 := .own a) (o2 := .ins (ga K "Deal") adx []) na nadx
  have th := hL.there
  have afp : a ∉ L.fp l := fun z => th a z na
  have np : H p = none := by
    cases eq : H p with
    | none => rfl
    | some o =>
      rw [s0 _ _ eq] at np1
      cases np1
  have pfp : p ∉ L.fp l := fun z => th p z np
  have ap : a ≠ p := fun z => by
    subst z
    rw [upd_same] at np1
    cases np1
  have hL1 : LedAt K H1 l L := (hL.same s0).chg c1 fun b hb => by rw [List.mem_singleton.mp hb]; exact afp
  obtain ⟨dx1, e1⟩ := hL1.ob
  have hL2 := hL1.addKv kl a
  have hf : ∀ q ∈ L.kvs, q.1 ≠ L.owners.length + 1 := fun q hq => by have := (kl q hq).2; omega
  have eput : putK (dealK L.kvs) (.inl ((L.owners.length + 1 : Nat) : Int)) (.ref a) = dealK L.kvs ++ [(.inl ((L.owners.length + 1 : Nat) : Int), .ref a)] := putK_new (f := V.ref) hf
  have kvl : (dealK L.kvs).length < sizeLine := by
    refine small1000 ?_
    unfold dealK
    rw [List.length_map]
    have := nodup_le (n := L.owners.length + 1) hL.kn (fun m hm => by
      obtain ⟨q, hq, e⟩ := List.mem_map.mp hm
      have := (kl q hq).2
      omega)
    rw [List.length_map] at this
    have := hL.lo
    omega
  refine ⟨_, rfl, l, dx1, _, _, rfl, e1, rfl, _, rfl, L.de, _, rfl, DPut.k (k := .inl ((L.owners.length + 1 : Nat) : Int)) hL1.de kvl, ?_⟩
  rw [eput]
  obtain ⟨dx2, e2⟩ := hL2.ob
  refine ⟨_, rfl, l, dx2, _, rfl, e2, _, rfl, _, _, rfl, l, _, L.owners.length + 1, rfl, rfl, hL2, lt, fun H3 c3 h3 => ?_⟩
  have ne := led_ne hL.nd
  have a_de : a ≠ L.de := fun z => afp (z ▸ by simp [Led.fp])
  have a_ow : a ≠ L.ow := fun z => afp (z ▸ by simp [Led.fp])
  have a_st : a ≠ L.st := fun z => afp (z ▸ by simp [Led.fp])
  have p_de : p ≠ L.de := fun z => pfp (z ▸ by simp [Led.fp])
  have p_ow : p ≠ L.ow := fun z => pfp (z ▸ by simp [Led.fp])
  have p_st : p ≠ L.st := fun z => pfp (z ▸ by simp [Led.fp])
  refine q ⟨L.owners.length + 1, a, p, [L.owners.length + 1], 0⟩ H3 rfl rfl rfl na np ?_ ?_
  · have c12 : Chg [L.de, L.ow, L.st] H1 (upd H1 L.de (.dK (dealK L.kvs ++ [(.inl ((L.owners.length + 1 : Nat) : Int), .ref a)]))) := Chg.upd hL1.de (by simp)
    have c01 : Chg [L.de, L.ow, L.st] H H1 := by
      refine ⟨fun b o e n => c1.keep b o (s0 _ _ e) fun z => ?_, fun b o e i => c1.imm b o (s0 _ _ e) i, fun b ⟨o, e, n⟩ => c1.live b ⟨o, s0 _ _ e, n⟩⟩
      rw [List.mem_singleton.mp z, na] at e
      cases e
    exact (c01.trans c12).trans (c3.mono (by simp))
  · refine h3.addAct (d := ⟨L.owners.length + 1, a, p, [L.owners.length + 1], 0⟩) ⟨⟨adx, c3.keep _ _ ?_ ?_⟩, c3.keep _ _ ?_ ?_⟩ ?_ afp pfp ap ⟨by simp, by simp, fun p hp => ?_⟩
    · rw [upd_ne a_de]
      exact ha
    · simp [a_ow, a_st]
    · rw [upd_ne p_de]
      exact hp
    · simp [p_ow, p_st]
    · show (L.owners.length + 1, a) ∈ L.kvs ++ [(L.owners.length + 1, a)]
      simp
    · show 1 ≤ p ∧ p ≤ (L.owners ++ [L.owners.length + 1]).length
      rw [List.length_append, List.mem_singleton.mp hp]
      simp
/-! ### looking at one -/
def sp_Ledger_parts (K : PySem.W.Frag) : Sp := s2 fun x y H Q => ∃ l L l1 d l2, x = .ref l ∧ y = .int ((d.n : Nat) : Int) ∧ LedAt K H l L ∧ L.act = l1 ++ d :: l2 ∧ ∀ v H', Same H H' → Td K H' v (ID d.parts) → Q v H'
theorem ok_Ledger_parts {P : Program} {w : World} {K : PySem.W.Frag} {mg : Str → Option Value} {base : Heap} (T : Tx K mg) : Df P w K mg base (fAd K ("Ledger", some "parts")) 1 [] (sp_Ledger_parts K) := by
  obtain ⟨fd, F⟩ := fn_Ledger_parts T
  refine df2 F sc_Ledger_parts (fun _ _ _ _ _ _ us hl => match us, hl with | [_, _], _ => rfl) fun self number H Q h => ?_
  intro cdv A outer s E hr
  have hu := hu_of hr
  refine ⟨_, (pss_one (ps_ret (pe_callTy (call_tuple_ofK K) (by rfl) (T.b_tuple) (by decide +kernel) (pa_cons (pe_at (T.f_Deal_own_parts) (pe_dget hu (pe_at (T.f_Ledger_own_deals) (pv 0)) (pv 1) (fun _ _ => rfl))) pa_nil)))), ?_⟩
  obtain ⟨l, L, l1, d, l2, ex, ey, hL, ea, q⟩ := h
  subst ex ey
  obtain ⟨dx, e⟩ := hL.ob
  obtain ⟨dg, ⟨dx2, e2⟩, e3⟩ := deal_of hL ea
  refine ⟨_, rfl, l, dx, _, _, rfl, e, rfl, _, rfl, L.de, _, rfl, dg, d.a, dx2, _, _, rfl, e2, rfl, d.p, _, rfl, .inl ⟨SqL.of e3, fun r nr => ?_⟩⟩
  exact q _ _ (same_new nr) (.tup (.inl upd_same) (ints_tds _))
def sp_Ledger_level (K : PySem.W.Frag) : Sp := s2 fun x y H Q => ∃ l L l1 d l2, x = .ref l ∧ y = .int ((d.n : Nat) : Int) ∧ LedAt K H l L ∧ L.act = l1 ++ d :: l2 ∧ Q (.str "each") H
theorem ok_Ledger_level {P : Program} {w : World} {K : PySem.W.Frag} {mg : Str → Option Value} {base : Heap} (T : Tx K mg) : Df P w K mg base (fAd K ("Ledger", some "level")) 1 [] (sp_Ledger_level K) := by
  obtain ⟨fd, F⟩ := fn_Ledger_level T
  refine df2 F sc_Ledger_level (fun _ _ _ _ _ _ us hl => match us, hl with | [_, _], _ => rfl) fun self number H Q h => ?_
  intro cdv A outer s E hr
  have hu := hu_of hr
  refine ⟨_, (pss_one (ps_ret (pe_at (T.f_Deal_own_level) (pe_dget hu (pe_at (T.f_Ledger_own_deals) (pv 0)) (pv 1) (fun _ _ => rfl))))), ?_⟩
  obtain ⟨l, L, l1, d, l2, ex, ey, hL, ea, q⟩ := h
  subst ex ey
  obtain ⟨dx, e⟩ := hL.ob
  obtain ⟨dg, ⟨dx2, e2⟩, e3⟩ := deal_of hL ea
  exact ⟨_, rfl, l, dx, _, _, rfl, e, rfl, _, rfl, L.de, _, rfl, dg, d.a, dx2, _, _, rfl, e2, rfl, q⟩
def sp_Ledger_command (K : PySem.W.Frag) : Sp := s2 fun x y H Q => ∃ l L l1 d l2, x = .ref l ∧ y = .int ((d.n : Nat) : Int) ∧ LedAt K H l L ∧ L.act = l1 ++ d :: l2 ∧ Q (.int ((d.cmd : Nat) : Int)) H
theorem ok_Ledger_command {P : Program} {w : World} {K : PySem.W.Frag} {mg : Str → Option Value} {base : Heap} (T : Tx K mg) : Df P w K mg base (fAd K ("Ledger", some "command")) 1 [] (sp_Ledger_command K) := by
  obtain ⟨fd, F⟩ := fn_Ledger_command T
  refine df2 F sc_Ledger_command (fun _ _ _ _ _ _ us hl => match us, hl with | [_, _], _ => rfl) fun self number H Q h => ?_
  intro cdv A outer s E hr
  have hu := hu_of hr
  refine ⟨_, (pss_one (ps_ret (pe_at (T.f_Deal_own_commands) (pe_dget hu (pe_at (T.f_Ledger_own_deals) (pv 0)) (pv 1) (fun _ _ => rfl))))), ?_⟩
  obtain ⟨l, L, l1, d, l2, ex, ey, hL, ea, q⟩ := h
  subst ex ey
  obtain ⟨dx, e⟩ := hL.ob
  obtain ⟨dg, ⟨dx2, e2⟩, e3⟩ := deal_of hL ea
  exact ⟨_, rfl, l, dx, _, _, rfl, e, rfl, _, rfl, L.de, _, rfl, dg, d.a, dx2, _, _, rfl, e2, rfl, q⟩
def sp_Ledger_stepped (K : PySem.W.Frag) : Sp := s2 fun x y H Q => ∃ l L l1 d l2, x = .ref l ∧ y = .int ((d.n : Nat) : Int) ∧ LedAt K H l L ∧ L.act = l1 ++ d :: l2 ∧
  ∀ H', Chg [d.a] H H' → LedAt K H' l (L.withD l1 { d with cmd := d.cmd + 1 } l2) → Q .non H'
theorem ok_Ledger_stepped {P : Program} {w : World} {K : PySem.W.Frag} {mg : Str → Option Value} {base : Heap} (T : Tx K mg) : Df P w K mg base (fAd K ("Ledger", some "stepped")) 1 [] (sp_Ledger_stepped K) := by
  obtain ⟨fd, F⟩ := fn_Ledger_stepped T
  refine df2 F sc_Ledger_stepped (fun _ _ _ _ _ _ us hl => match us, hl with | [_, _], _ => rfl) fun self number H Q h => ?_
  intro cdv A outer s E hr
  have hu := hu_of hr
  refine ⟨_, (pss_one (ps_inc (T.f_Deal_own_commands) (pe_dget hu (pe_at (T.f_Ledger_own_deals) (pv 0)) (pv 1) (fun _ _ => rfl)) pe_int)), ?_⟩
  obtain ⟨l, L, l1, d, l2, ex, ey, hL, ea, q⟩ := h
  subst ex ey
  obtain ⟨dx, e⟩ := hL.ob
  obtain ⟨dg, ⟨dx2, e2⟩, e3⟩ := deal_of hL ea
  have dm : d ∈ L.act := by rw [ea]; simp
  refine ⟨_, rfl, l, dx, _, _, rfl, e, rfl, _, rfl, L.de, _, rfl, dg, d.a, dx2, _, _, rfl, e2, rfl, 1, rfl, dx2, _, e2, Nat.le_refl 3, ?_⟩
  refine q _ (Chg.upd e2 (by simp)) ?_
  refine hL.setD ea ⟨⟨dx2, ?_⟩, ?_⟩ rfl rfl rfl (fun a o na _ e => by rw [upd_ne na]; exact e) (hL.pp d dm)
  · rw [upd_same]
    rfl
  · show upd H d.a _ d.p = _
    rw [upd_ne (Ne.symm (deal_ne hL dm))]
    exact e3
end Rc


set_option Elab.async false
set_option linter.all false
set_option maxRecDepth 100000
set_option maxHeartbeats 4000000
namespace Rc
open PySem PySem.Spec PyProof.Rows L2 He
theorem IL_ex {us : List Nat} {i : Nat} {x : V} (h : (IL us)[i]? = some x) : ∃ n, us[i]? = some n ∧ x = .int ((n : Nat) : Int) := IL_get h
def runP (L : Led) (d : Dl) : List Nat := d.parts.filter fun p => decide (L.states[p - 1]? = some Sta.runs)
theorem take_fil {us : List Nat} {i n : Nat} (f : Nat → Bool) (h : us[i]? = some n) : (us.take (i + 1)).filter f = (us.take i).filter f ++ (if f n = true then [n] else []) := by
  rw [List.take_succ, h, List.filter_append]
  cases e : f n <;> simp [List.filter_cons, e]
def sp_Ledger_running_parts (K : PySem.W.Frag) : Sp := s2 fun x y H Q => ∃ l L l1 d l2, x = .ref l ∧ y = .int ((d.n : Nat) : Int) ∧ LedAt K H l L ∧ L.act = l1 ++ d :: l2 ∧
  ∀ r H', Same H H' → H r = none → H' r = some (.lst (IL (runP L d))) → Q (.ref r) H'
theorem ok_Ledger_running_parts {P : Program} {w : World} {K : PySem.W.Frag} {mg : Str → Option Value} {base : Heap} (T : Tx K mg) : Df P w K mg base (fAd K ("Ledger", some "running_parts")) 1 [] (sp_Ledger_running_parts K) := by
  obtain ⟨fd, F⟩ := fn_Ledger_running_parts T
  refine df2 F sc_Ledger_running_parts (fun _ _ _ _ _ _ us hl => match us, hl with | [_, _], _ => rfl) fun self number H Q h => ?_
  intro cdv A outer s E hr
  have hu := hu_of hr
  refine ⟨_, (pss_one (ps_ret (pe_lc (own := [("part", 2)])  rfl (sc_Ledger_running_parts).nd (pi_listK K (pe_at (T.f_Deal_own_parts) (pe_dget hu (pe_at (T.f_Ledger_own_deals) (pv 0)) (pv 1) (fun _ _ => rfl)))) (blkOk_by (N := ["self", "number", "part"]) (sc := defScope t_Ledger_running_parts) (by decide +kernel)) (fun _ _ _ _ _ => (pg_name (i := 2) (sc_Ledger_running_parts).nd rfl (.inl rfl))) (fun _ _ _ _ _ => (pts_one (pt_cmpR op_eq (pe_ix (ix_listK K) (pe_at (T.f_Ledger_own_states) (pv 0)) (pe_op op_sub (pv 2) pe_int) (fun _ _ => rfl)) (pe_gs rfl (T.g_RUNS)) (nomark _)))) (fun _ _ _ _ _ => (pv 2))))), ?_⟩
  obtain ⟨l, L, l1, d, l2, ex, ey, hL, ea, q⟩ := h
  subst ex ey
  obtain ⟨dx, e⟩ := hL.ob
  obtain ⟨dg, ⟨dx2, e2⟩, e3⟩ := deal_of hL ea
  have dm : d ∈ L.act := by rw [ea]; simp
  obtain ⟨pl, _, pb⟩ := hL.pp d dm
  refine ⟨_, rfl, l, dx, _, _, rfl, e, rfl, _, rfl, L.de, _, rfl, dg, d.a, dx2, _, _, rfl, e2, rfl, d.p, rfl, ⟨_, SqL.of e3⟩, fun D hD => ?_⟩
  refine lc_list (K := K) (a := d.p) (xs := IL d.parts) (fun i H' => ∃ acc : List Nat, CmW H D (IL acc) H' ∧ acc = (d.parts.take i).filter (fun p => decide (L.states[p - 1]? = some Sta.runs)) ∧ acc.length ≤ i) ⟨[], .start hD, rfl, Nat.le_refl _⟩ (fun i H' _ ⟨acc, c, _⟩ => SqL.of (c.sm _ _ e3)) ?_ ?_
  · rintro i x H' hi ⟨acc, c, ha, hl⟩
    have il : i < (IL d.parts).length := (List.getElem?_eq_some_iff.mp hi).1
    rw [IL_len] at il
    obtain ⟨p, hp, ep⟩ := IL_get hi
    subst ep
    obtain ⟨p1, p2⟩ := pb p (List.mem_of_getElem? hp)
    have lt : p - 1 < L.states.length := by rw [← hL.ln]; omega
    have hs : L.states[p - 1]? = some L.states[p - 1] := List.getElem?_eq_getElem lt
    have e1 : ((p : Int) - 1) = ((p - 1 : Nat) : Int) := by omega
    refine ⟨rfl, _, rfl, l, dx, _, _, rfl, c.sm _ _ e, rfl, _, rfl, _, 1, rfl, rfl, L.st, _, _, .str (staS L.states[p - 1]), rfl, rfl, SqL.of (c.sm _ _ hL.st), ?_, rfl, _, rfl, ?_⟩
    · rw [e1]
      exact atI_nat (st_at hs)
    · have tf := take_fil (fun p => decide (L.states[p - 1]? = some Sta.runs)) hp
      have es : (decide (V.str (staS L.states[p - 1]) = V.str "runs")) = decide (L.states[p - 1]? = some Sta.runs) := by
        rw [hs]
        refine (sta_eq L.states[p - 1] .runs).trans ?_
        exact decide_eq_decide.mpr ⟨fun z => by rw [z], fun z => by injection z⟩
      rw [es]
      refine ite2 (fun hc => ?_) fun hc => ?_
      · rw [if_pos hc, ← ha] at tf
        refine ⟨_, rfl, IL acc, c.at_, small1000 (by rw [IL_len]; omega), acc ++ [p], ?_, tf.symm, by rw [List.length_append, List.length_singleton]; omega⟩
        rw [IL_app]
        exact c.push hD _
      · rw [if_neg hc, List.append_nil, ← ha] at tf
        exact ⟨acc, c, tf.symm, by omega⟩
  · rintro H' ⟨acc, c, ha, hl⟩
    rw [IL_len, List.take_length] at ha
    refine q D H' c.sm hD ?_
    rw [c.at_, ha]
    rfl
def setL (ps : List Nat) (s : Sta) (ss : List Sta) : List Sta := ps.foldl (fun ss p => ss.set (p - 1) s) ss
theorem setL_len (s : Sta) : ∀ (ps : List Nat) (ss : List Sta), (setL ps s ss).length = ss.length
  | [], _ => rfl
  | p :: ps, ss => by
    show (setL ps s (ss.set (p - 1) s)).length = _
    rw [setL_len s ps, List.length_set]
theorem setL_take {ps : List Nat} {i p : Nat} (s : Sta) (ss : List Sta) (h : ps[i]? = some p) : setL (ps.take (i + 1)) s ss = (setL (ps.take i) s ss).set (p - 1) s := by
  unfold setL
  rw [List.take_succ, h, List.foldl_append]
  rfl
def Led.setS (L : Led) (ps : List Nat) (s : Sta) : Led := { L with states := setL ps s L.states }
theorem LedAt.setS {K : PySem.W.Frag} {H H' : Hp} {l : Addr} {L : Led} (h : LedAt K H l L) {ss : List Sta} (ln : ss.length = L.states.length) (hs : H' L.st = some (.lst (SL ss))) (kp : ∀ a o, a ≠ L.st → H a = some o → H' a = some o) : LedAt K H' l { L with states := ss } := by
  have ne := led_ne h.nd
  obtain ⟨dx, e⟩ := h.ob
  refine ⟨⟨dx, kp _ _ ne.l_st e⟩, kp _ _ ne.de_st h.de, kp _ _ ne.ow_st h.ow, hs, fun d hd => ?_, h.nd, h.kn, h.ln.trans ln.symm, h.kl, h.lo, h.pp⟩
  obtain ⟨h1, h2⟩ := h.act d hd
  obtain ⟨_, _, _, a1⟩ := ne.a_l d hd
  obtain ⟨_, _, _, p1⟩ := ne.p_l d hd
  exact ⟨h1.keep (fun o => kp _ o a1) (fun o => kp _ o p1), h2⟩
def sp_Ledger_enter (K : PySem.W.Frag) : Sp := s3 fun x y z H Q => ∃ l L a ps s, x = .ref l ∧ y = .ref a ∧ z = .str (staS s) ∧ LedAt K H l L ∧ H a = some (.lst (IL ps)) ∧ a ≠ L.st ∧ (∀ p ∈ ps, 1 ≤ p ∧ p ≤ L.owners.length) ∧
  ∀ H', Chg [L.st] H H' → LedAt K H' l (L.setS ps s) → Q .non H'
theorem ok_Ledger_enter {P : Program} {w : World} {K : PySem.W.Frag} {mg : Str → Option Value} {base : Heap} (T : Tx K mg) : Df P w K mg base (fAd K ("Ledger", some "enter")) 1 [] (sp_Ledger_enter K) := by
  obtain ⟨fd, F⟩ := fn_Ledger_enter T
  refine df3 F sc_Ledger_enter (fun _ _ _ _ _ _ us hl => match us, hl with | [_, _, _], _ => rfl) fun self parts state H Q h => ?_
  intro cdv A outer s E hr
  have hu := hu_of hr
  refine ⟨_, (pss_one (ps_for PassesOwn.never rfl (pi_listK K (pv 1)) (pg_name (i := 3) (sc_Ledger_enter).nd rfl (.inl rfl))
    (pss_one (ps_asg (pv 2) (pg_sub (pe_at (T.f_Ledger_own_states) (pv 0)) (pe_op op_sub (pv 3) pe_int) set_list))))), ?_⟩
  obtain ⟨l, L, a, ps, st, ex, ey, ez, hL, ha, hne, hps, q⟩ := h
  subst ex ey ez
  obtain ⟨dx, e⟩ := hL.ob
  have ne := led_ne hL.nd
  refine ⟨_, rfl, a, rfl, ⟨_, SqL.of ha⟩, ?_⟩
  refine for_list (K := K) (a := a) (xs := IL ps) (fun i σ' H' => ∃ u, σ' = [some (.ref l), some (.ref a), some (.str (staS st)), u] ∧ Chg [L.st] H H' ∧ H' L.st = some (.lst (SL (setL (ps.take i) st L.states)))) ⟨_, rfl, .refl H, hL.st⟩ (fun i σ' H' _ ⟨_, _, c, _⟩ => SqL.of (c.keep _ _ ha (by simp [hne]))) ?_ ?_
  · rintro i x σ' H' hi ⟨u, rfl, c, hS⟩
    obtain ⟨p, hp, ep⟩ := IL_get hi
    subst ep
    obtain ⟨p1, p2⟩ := hps p (List.mem_of_getElem? hp)
    have e1 : ((p : Int) - 1) = ((p - 1 : Nat) : Int) := by omega
    refine ⟨_, rfl, _, rfl, l, dx, _, _, rfl, c.keep _ _ e (by simp [ne.l_st]), rfl, _, rfl, _, 1, rfl, rfl, L.st, _, ((p : Int) - 1), p - 1, rfl, rfl, hS, ?_, ?_⟩
    · rw [e1]
      refine ixN_nat ?_
      rw [SL_len, setL_len, ← hL.ln]
      omega
    · refine ⟨_, rfl, c.trans (Chg.upd hS (by simp)), ?_⟩
      rw [upd_same, setL_take st L.states hp]
      unfold SL
      rw [List.map_set]
  · rintro σ' H' ⟨u, rfl, c, hS⟩
    rw [IL_len, List.take_length] at hS
    exact q H' c (hL.setS (setL_len _ _ _) hS fun b o hb e => c.keep b o e (by simp [hb]))
def goneP (L : Led) (d : Dl) (n : Nat) : List Nat := (runP L d).filter fun p => decide (n ≤ p)
theorem gone_in {L : Led} {d : Dl} {p : Nat} (h : p ∈ runP L d) : p ∈ d.parts := (List.mem_filter.mp h).1
def sp_Ledger_undo (K : PySem.W.Frag) : Sp := s3 fun x y z H Q => ∃ l L l1 d l2 n, x = .ref l ∧ y = .int ((d.n : Nat) : Int) ∧ z = .int ((n : Nat) : Int) ∧ LedAt K H l L ∧ L.act = l1 ++ d :: l2 ∧ n ∈ d.parts.drop 1 ∧ L.states[n - 1]? = some .runs ∧
  ∀ r H', Chg [L.st] H H' → H r = none → H' r = some (.lst (IL (goneP L d n))) → LedAt K H' l (L.setS (goneP L d n) .und) → Q (.ref r) H'
theorem ok_Ledger_undo {P : Program} {w : World} {K : PySem.W.Frag} {mg : Str → Option Value} {base : Heap} (T : Tx K mg) : Df P w K mg base (fAd K ("Ledger", some "undo")) 3 [] (sp_Ledger_undo K) := by
  obtain ⟨fd, F⟩ := fn_Ledger_undo T
  refine df3 F sc_Ledger_undo (fun _ _ _ _ _ _ us hl => match us, hl with | [_, _, _], _ => rfl) fun self number part H Q h => ?_
  intro cdv A outer s E hr
  have hu := hu_of hr
  refine ⟨_, (pss_cons (ps_if (PW.pt (pw_or (pt_cmpR (op_notIn_seqK K) (pv 2) (pe_slice (sl_listK K) (pe_at (T.f_Deal_own_parts) (pe_dget hu (pe_at (T.f_Ledger_own_deals) (pv 0)) (pv 1) (fun _ _ => rfl))) (po_some pe_int) po_none) rfl) (pw_or1 (pt_cmpR op_ne (pe_mt (ok_Ledger_state T) (T.m_Ledger_state) (hr.mono (by decide)) (pv 0) (pa_cons (pv 2) pa_nil)) (pe_gs rfl (T.g_RUNS)) (nomark _))))) (pss_one ps_never) pss_nil)
    (pss_cons (ps_setLc (i := 3) (own := [("other", 4)])  rfl (sc_Ledger_undo).nd rfl rfl (sw_true rfl rfl rfl (by decide +kernel)) (pi_listK K (pe_mt (ok_Ledger_running_parts T) (T.m_Ledger_running_parts) (hr.mono (by decide)) (pv 0) (pa_cons (pv 1) pa_nil))) (blkOk_by (N := ["self", "number", "part", "gone", "other"]) (sc := defScope t_Ledger_undo) (by decide +kernel)) (fun _ _ _ _ _ => (pg_name (i := 4) (sc_Ledger_undo).nd rfl (.inl rfl))) (fun _ _ _ _ _ => (pts_one (pt_cmpR op_ge (pv 4) (pv 2) (nomark _)))) (fun _ _ _ _ _ => (pv 4)))
    (pss_cons (ps_expr (pe_mt (ok_Ledger_enter T) (T.m_Ledger_enter) (hr.mono (by decide)) (pv 0) (pa_cons (pv 3) (pa_cons (pe_gs rfl (T.g_UNDONE)) pa_nil))))
    (pss_one (ps_ret (pv 3)))))), ?_⟩
  obtain ⟨l, L, l1, d, l2, n, ex, ey, ez, hL, ea, hn, hs, q⟩ := h
  subst ex ey ez
  obtain ⟨dx, e⟩ := hL.ob
  obtain ⟨dg, ⟨dx2, e2⟩, e3⟩ := deal_of hL ea
  have dm : d ∈ L.act := by rw [ea]; simp
  obtain ⟨pl, _, pb⟩ := hL.pp d dm
  have n1 := (pb n (List.mem_of_mem_drop hn)).1
  have ec : cutV (IL d.parts) (some 1) none = IL (d.parts.drop 1) := by
    unfold cutV
    rw [HT.sIx_none]
    show List.take ((IL d.parts).length - HT.sIx (IL d.parts).length 0 (some ((1 : Nat) : Int))) (List.drop (HT.sIx (IL d.parts).length 0 (some ((1 : Nat) : Int))) (IL d.parts)) = _
    rw [HT.sIx_nat]
    unfold IL
    rw [List.map_drop, List.length_map]
    by_cases h : 1 ≤ d.parts.length
    · rw [Nat.min_eq_left h, List.take_of_length_le (by rw [List.length_drop, List.length_map]; omega)]
    · have e0 : d.parts = [] := List.length_eq_zero_iff.mp (by omega)
      rw [e0]
      rfl
  refine ⟨_, rfl, _, rfl, l, dx, _, _, rfl, e, rfl, _, rfl, L.de, _, rfl, dg, d.a, dx2, _, _, rfl, e2, rfl, 1, rfl, d.p, _, rfl, SqL.of e3, fun c nc => ?_⟩
  rw [ec]
  have s1 : Same H (upd H c (.lst (IL (d.parts.drop 1)))) := same_new nc
  refine ⟨c, _, rfl, .inl (SqL.of upd_same), rfl, IL_flat _, _, rfl, ?_⟩
  have ein : inV (V.int ((n : Nat) : Int)) (IL (d.parts.drop 1)) = true := by
    rw [IL_in]
    exact decide_eq_true hn
  rw [ein]
  refine iteF ?_
  have hL1 := hL.same s1
  obtain ⟨dx1, e1⟩ := hL1.ob
  refine ⟨_, rfl, l, dx1, _, rfl, e1, _, rfl, _, _, rfl, l, L, n, .runs, rfl, rfl, hL1, n1, hs, rfl, _, rfl, ?_⟩
  refine ite2 (fun z => by cases z) fun _ => ?_
  refine ⟨_, rfl, l, dx1, _, rfl, e1, _, rfl, _, _, rfl, l, L, l1, d, l2, rfl, rfl, hL1, ea, fun r H2 sm2 nr hr2 => ?_⟩
  have hL2 := hL1.same sm2
  refine ⟨r, rfl, ⟨_, SqL.of hr2⟩, fun D hD => ?_⟩
  have rpl : (runP L d).length ≤ 8 := Nat.le_trans (List.length_filter_le _ _) pl
  refine lc_list (K := K) (a := r) (xs := IL (runP L d)) (fun i H' => ∃ acc : List Nat, CmW H2 D (IL acc) H' ∧ acc = ((runP L d).take i).filter (fun p => decide (n ≤ p)) ∧ acc.length ≤ i) ⟨[], .start hD, rfl, Nat.le_refl _⟩ (fun i H' _ ⟨acc, c, _⟩ => SqL.of (c.sm _ _ hr2)) ?_ ?_
  · rintro i x H' hi ⟨acc, c, ha, hl⟩
    have il : i < (IL (runP L d)).length := (List.getElem?_eq_some_iff.mp hi).1
    rw [IL_len] at il
    obtain ⟨p, hp, ep⟩ := IL_get hi
    subst ep
    refine ⟨rfl, _, rfl, _, rfl, _, _, rfl, rfl, _, rfl, ?_⟩
    have tf := take_fil (fun p => decide (n ≤ p)) hp
    have es : decide ((n : Int) ≤ (p : Int)) = decide (n ≤ p) := decide_eq_decide.mpr (by omega)
    show if decide ((n : Int) ≤ (p : Int)) = true then _ else _
    rw [es]
    refine ite2 (fun hc => ?_) fun hc => ?_
    · rw [if_pos hc, ← ha] at tf
      refine ⟨_, rfl, IL acc, c.at_, small1000 (by rw [IL_len]; omega), acc ++ [p], ?_, tf.symm, by rw [List.length_append, List.length_singleton]; omega⟩
      rw [IL_app]
      exact c.push hD _
    · rw [if_neg hc, List.append_nil, ← ha] at tf
      exact ⟨acc, c, tf.symm, by omega⟩
  · rintro H' ⟨acc, c, ha, hl⟩
    rw [IL_len, List.take_length] at ha
    have hL3 := hL2.same c.sm
    obtain ⟨dx3, e3'⟩ := hL3.ob
    have aD : H' D = some (.lst (IL (goneP L d n))) := by
      rw [c.at_, ha]
      rfl
    have dst : D ≠ L.st := fun z => by
      rw [z, hL2.st] at hD
      cases hD
    refine ⟨_, rfl, l, dx3, _, rfl, e3', _, rfl, _, _, _, rfl, l, L, D, goneP L d n, .und, rfl, rfl, rfl, hL3, aD, dst, fun p hp => pb p (gone_in (List.mem_filter.mp hp).1), fun H4 c4 h4 => ⟨_, rfl, ?_⟩⟩
    have sm13 := (s1.trans sm2).trans c.sm
    refine q D H4 ((Chg.of sm13).trans c4) ?_ (c4.keep _ _ aD (by simp [dst])) h4
    cases eq : H D with
    | none => rfl
    | some o =>
      have := (s1.trans sm2) _ _ eq
      rw [hD] at this
      cases this
def sp_Ledger_finish (K : PySem.W.Frag) : Sp := s3 fun x y z H Q => ∃ l L l1 d l2 s, x = .ref l ∧ y = .int ((d.n : Nat) : Int) ∧ z = .str (staS s) ∧ LedAt K H l L ∧ L.act = l1 ++ d :: l2 ∧
  ∀ H', Chg [L.st] H H' → LedAt K H' l (L.setS (runP L d) s) → Q .non H'
theorem ok_Ledger_finish {P : Program} {w : World} {K : PySem.W.Frag} {mg : Str → Option Value} {base : Heap} (T : Tx K mg) : Df P w K mg base (fAd K ("Ledger", some "finish")) 2 [] (sp_Ledger_finish K) := by
  obtain ⟨fd, F⟩ := fn_Ledger_finish T
  refine df3 F sc_Ledger_finish (fun _ _ _ _ _ _ us hl => match us, hl with | [_, _, _], _ => rfl) fun self number state H Q h => ?_
  intro cdv A outer s E hr
  have hu := hu_of hr
  refine ⟨_, (pss_one (ps_expr (pe_mt (ok_Ledger_enter T) (T.m_Ledger_enter) (hr.mono (by decide)) (pv 0) (pa_cons (pe_mt (ok_Ledger_running_parts T) (T.m_Ledger_running_parts) (hr.mono (by decide)) (pv 0) (pa_cons (pv 1) pa_nil)) (pa_cons (pv 2) pa_nil))))), ?_⟩
  obtain ⟨l, L, l1, d, l2, st, ex, ey, ez, hL, ea, q⟩ := h
  subst ex ey ez
  obtain ⟨dx, e⟩ := hL.ob
  have dm : d ∈ L.act := by rw [ea]; simp
  obtain ⟨pl, _, pb⟩ := hL.pp d dm
  refine ⟨_, rfl, l, dx, _, rfl, e, _, rfl, l, dx, _, rfl, e, _, rfl, _, _, rfl, l, L, l1, d, l2, rfl, rfl, hL, ea, fun r H2 sm2 nr hr2 => ?_⟩
  have hL2 := hL.same sm2
  have rst : r ≠ L.st := fun z => by
    rw [z, hL.st] at nr
    cases nr
  exact ⟨_, rfl, _, _, _, rfl, l, L, r, runP L d, st, rfl, rfl, rfl, hL2, hr2, rst, fun p hp => pb p (gone_in hp), fun H4 c4 h4 => q H4 ((Chg.of sm2).trans c4) h4⟩
def sp_Ledger_working (K : PySem.W.Frag) : Sp := s2 fun x y H Q => ∃ l L l1 d l2 n, x = .ref l ∧ y = .int ((d.n : Nat) : Int) ∧ LedAt K H l L ∧ L.act = l1 ++ d :: l2 ∧ (runP L d).getLast? = some n ∧ ∀ H', Same H H' → Q (.int ((n : Nat) : Int)) H'
theorem ok_Ledger_working {P : Program} {w : World} {K : PySem.W.Frag} {mg : Str → Option Value} {base : Heap} (T : Tx K mg) : Df P w K mg base (fAd K ("Ledger", some "working")) 2 [] (sp_Ledger_working K) := by
  obtain ⟨fd, F⟩ := fn_Ledger_working T
  refine df2 F sc_Ledger_working (fun _ _ _ _ _ _ us hl => match us, hl with | [_, _], _ => rfl) fun self number H Q h => ?_
  intro cdv A outer s E hr
  have hu := hu_of hr
  refine ⟨_, (pss_one (ps_ret (pe_ix (ix_listK K) (pe_mt (ok_Ledger_running_parts T) (T.m_Ledger_running_parts) (hr.mono (by decide)) (pv 0) (pa_cons (pv 1) pa_nil)) (pe_un un_neg pe_int) (fun _ _ => rfl)))), ?_⟩
  obtain ⟨l, L, l1, d, l2, n, ex, ey, hL, ea, hn, q⟩ := h
  subst ex ey
  obtain ⟨dx, e⟩ := hL.ob
  refine ⟨_, rfl, l, dx, _, rfl, e, _, rfl, _, _, rfl, l, L, l1, d, l2, rfl, rfl, hL, ea, fun r H2 sm2 nr hr2 => ?_⟩
  refine ⟨1, rfl, r, _, (-1 : Int), .int ((n : Nat) : Int), rfl, rfl, SqL.of hr2, ?_, q H2 sm2⟩
  rw [List.getLast?_eq_getElem?] at hn
  have ll := (List.getElem?_eq_some_iff.mp hn).1
  unfold atI ixN
  rw [IL_len, if_neg (by decide), if_pos (by omega)]
  have e1 : ((-1 : Int) + ((runP L d).length : Int)).toNat = (runP L d).length - 1 := by omega
  rw [e1]
  exact IL_at hn
end Rc


set_option Elab.async false
set_option linter.all false
set_option maxRecDepth 100000
set_option maxHeartbeats 4000000
namespace Rc
open PySem PySem.Spec PyProof.Rows L2 He
def withS (ss : List Sta) (s : Sta) : List Nat := ((List.range ss.length).filter fun i => decide (ss[i]? = some s)).map (· + 1)
theorem mem_withS {ss : List Sta} {s : Sta} {m : Nat} : m ∈ withS ss s ↔ 1 ≤ m ∧ ss[m - 1]? = some s := by
  unfold withS
  simp only [List.mem_map, List.mem_filter, List.mem_range, decide_eq_true_eq]
  constructor
  · rintro ⟨i, ⟨h1, h2⟩, rfl⟩
    exact ⟨by omega, by rw [Nat.add_sub_cancel]; exact h2⟩
  · rintro ⟨h1, h2⟩
    refine ⟨m - 1, ⟨(List.getElem?_eq_some_iff.mp h2).1, h2⟩, by omega⟩
theorem withS_len (ss : List Sta) (s : Sta) : (withS ss s).length ≤ ss.length := by
  unfold withS
  rw [List.length_map]
  exact Nat.le_trans (List.length_filter_le _ _) (by rw [List.length_range]; exact Nat.le_refl _)
theorem range_fil (f : Nat → Bool) (i : Nat) : ((List.range (i + 1)).filter f).map (· + 1) = ((List.range i).filter f).map (· + 1) ++ (if f i = true then [i + 1] else []) := by
  rw [List.range_succ, List.filter_append, List.map_append]
  cases e : f i <;> simp [List.filter_cons, e]
def sp_Ledger_with_state (K : PySem.W.Frag) : Sp := s2 fun x y H Q => ∃ l L s, x = .ref l ∧ y = .str (staS s) ∧ LedAt K H l L ∧ ∀ r H', Same H H' → H r = none → H' r = some (.lst (IL (withS L.states s))) → Q (.ref r) H'
theorem ok_Ledger_with_state {P : Program} {w : World} {K : PySem.W.Frag} {mg : Str → Option Value} {base : Heap} (T : Tx K mg) : Df P w K mg base (fAd K ("Ledger", some "with_state")) 1 [] (sp_Ledger_with_state K) := by
  obtain ⟨fd, F⟩ := fn_Ledger_with_state T
  refine df2 F sc_Ledger_with_state (fun _ _ _ _ _ _ us hl => match us, hl with | [_, _], _ => rfl) fun self state H Q h => ?_
  intro cdv A outer s E hr
  have hu := hu_of hr
  refine ⟨_, (pss_one (ps_ret (pe_lc (own := [("place", 2), ("own", 3)])  rfl (sc_Ledger_with_state).nd (pi_enumK K (by rfl) (T.b_enumerate) (pa_cons (pe_at (T.f_Ledger_own_states) (pv 0)) pa_nil)) (blkOk_by (N := ["self", "state", "place", "own"]) (sc := defScope t_Ledger_with_state) (by decide +kernel)) (fun _ _ _ _ _ => (pg_tupK K (n := 2) (by rfl) (pgs_cons (pg_name (i := 2) (sc_Ledger_with_state).nd rfl (.inl rfl)) (pgs_cons (pg_name (i := 3) (sc_Ledger_with_state).nd rfl (.inl rfl)) pgs_nil)))) (fun _ _ _ _ _ => (pts_one (pt_cmpR op_eq (pv 3) (pv 1) (nomark _)))) (fun _ _ _ _ _ => (pe_op op_add (pv 2) pe_int))))), ?_⟩
  obtain ⟨l, L, st, ex, ey, hL, q⟩ := h
  subst ex ey
  obtain ⟨dx, e⟩ := hL.ob
  have sl : L.states.length ≤ 63 := by rw [← hL.ln]; exact hL.lo
  refine ⟨_, rfl, l, dx, _, _, rfl, e, rfl, L.st, _, rfl, SqL.of hL.st, fun D hD => ?_⟩
  refine lc_en (K := K) (a := L.st) (xs := SL L.states) (fun i H' => ∃ acc : List Nat, CmW H D (IL acc) H' ∧ acc = ((List.range i).filter fun i => decide (L.states[i]? = some st)).map (· + 1) ∧ acc.length ≤ i) ⟨[], .start hD, rfl, Nat.le_refl _⟩ (fun i H' _ ⟨acc, c, _⟩ => SqL.of (c.sm _ _ hL.st)) ?_ ?_
  · rintro i x H' U hi ⟨acc, c, ha, hl⟩ nU
    have il : i < (SL L.states).length := (List.getElem?_eq_some_iff.mp hi).1
    rw [SL_len] at il
    have hs : L.states[i]? = some L.states[i] := List.getElem?_eq_getElem il
    have ex : x = .str (staS L.states[i]) := by
      rw [st_at hs] at hi
      cases hi
      rfl
    subst ex
    have sU : Same H' (upd H' U (.tup [.int (i : Nat), .str (staS L.states[i])])) := same_new nU
    have c2 := c.same sU
    refine ⟨U, _, rfl, .inl (.inl upd_same), rfl, _, _, rfl, _, _, rfl, rfl, rfl, ?_⟩
    refine ⟨_, rfl, _, rfl, rfl, _, rfl, ?_⟩
    have tf := range_fil (fun i => decide (L.states[i]? = some st)) i
    have es : (decide (V.str (staS L.states[i]) = V.str (staS st))) = decide (L.states[i]? = some st) := by
      rw [hs]
      refine (sta_eq L.states[i] st).trans ?_
      exact decide_eq_decide.mpr ⟨fun z => by rw [z], fun z => by injection z⟩
    rw [es]
    refine ite2 (fun hc => ?_) fun hc => ?_
    · rw [if_pos hc, ← ha] at tf
      refine ⟨_, rfl, _, 1, rfl, rfl, IL acc, c2.at_, small1000 (by rw [IL_len]; omega), acc ++ [i + 1], ?_, tf.symm, by rw [List.length_append, List.length_singleton]; omega⟩
      rw [IL_app]
      exact c2.push hD _
    · rw [if_neg hc, List.append_nil, ← ha] at tf
      exact ⟨acc, c2, tf.symm, by omega⟩
  · rintro H' ⟨acc, c, ha, hl⟩
    rw [SL_len] at ha
    refine q D H' c.sm hD ?_
    rw [c.at_, ha]
    rfl
def sp_Ledger_undone (K : PySem.W.Frag) : Sp := s1 fun x H Q => ∃ l L, x = .ref l ∧ LedAt K H l L ∧ ∀ r H', Same H H' → H r = none → H' r = some (.lst (IL (withS L.states .und))) → Q (.ref r) H'
theorem ok_Ledger_undone {P : Program} {w : World} {K : PySem.W.Frag} {mg : Str → Option Value} {base : Heap} (T : Tx K mg) : Df P w K mg base (fAd K ("Ledger", some "undone")) 2 [] (sp_Ledger_undone K) := by
  obtain ⟨fd, F⟩ := fn_Ledger_undone T
  refine df1 F sc_Ledger_undone (fun _ _ _ _ _ _ us hl => match us, hl with | [_], _ => rfl) fun self H Q h => ?_
  intro cdv A outer s E hr
  have hu := hu_of hr
  refine ⟨_, (pss_one (ps_ret (pe_mt (ok_Ledger_with_state T) (T.m_Ledger_with_state) (hr.mono (by decide)) (pv 0) (pa_cons (pe_gs rfl (T.g_UNDONE)) pa_nil)))), ?_⟩
  obtain ⟨l, L, ex, hL, q⟩ := h
  subst ex
  obtain ⟨dx, e⟩ := hL.ob
  exact ⟨_, rfl, l, dx, _, rfl, e, _, _, rfl, l, L, .und, rfl, rfl, hL, q⟩
def sp_Ledger_committed (K : PySem.W.Frag) : Sp := s1 fun x H Q => ∃ l L, x = .ref l ∧ LedAt K H l L ∧ ∀ r H', Same H H' → H r = none → H' r = some (.lst (IL (withS L.states .com))) → Q (.ref r) H'
theorem ok_Ledger_committed {P : Program} {w : World} {K : PySem.W.Frag} {mg : Str → Option Value} {base : Heap} (T : Tx K mg) : Df P w K mg base (fAd K ("Ledger", some "committed")) 2 [] (sp_Ledger_committed K) := by
  obtain ⟨fd, F⟩ := fn_Ledger_committed T
  refine df1 F sc_Ledger_committed (fun _ _ _ _ _ _ us hl => match us, hl with | [_], _ => rfl) fun self H Q h => ?_
  intro cdv A outer s E hr
  have hu := hu_of hr
  refine ⟨_, (pss_one (ps_ret (pe_mt (ok_Ledger_with_state T) (T.m_Ledger_with_state) (hr.mono (by decide)) (pv 0) (pa_cons (pe_gs rfl (T.g_COMMITTED)) pa_nil)))), ?_⟩
  obtain ⟨l, L, ex, hL, q⟩ := h
  subst ex
  obtain ⟨dx, e⟩ := hL.ob
  exact ⟨_, rfl, l, dx, _, rfl, e, _, _, rfl, l, L, .com, rfl, rfl, hL, q⟩
def sp_Ledger_running (K : PySem.W.Frag) : Sp := s1 fun x H Q => ∃ l L, x = .ref l ∧ LedAt K H l L ∧ KL L ∧ ∀ r rs H', Same H H' → H r = none → H' r = some (.lst (IL rs)) → (∀ m ∈ rs, (∃ a, (m, a) ∈ L.kvs) ∧ L.states[m - 1]? = some .runs) → rs.length ≤ L.kvs.length → Q (.ref r) H'
theorem kvs_len {K : PySem.W.Frag} {H : Hp} {l : Addr} {L : Led} (hL : LedAt K H l L) (kl : KL L) : L.kvs.length ≤ 64 := by
  have := nodup_le (n := L.owners.length + 1) hL.kn (fun m hm => by
    obtain ⟨q, hq, e⟩ := List.mem_map.mp hm
    have := (kl q hq).2
    omega)
  rw [List.length_map] at this
  have := hL.lo
  omega
theorem ok_Ledger_running {P : Program} {w : World} {K : PySem.W.Frag} {mg : Str → Option Value} {base : Heap} (T : Tx K mg) : Df P w K mg base (fAd K ("Ledger", some "running")) 1 [] (sp_Ledger_running K) := by
  obtain ⟨fd, F⟩ := fn_Ledger_running T
  refine df1 F sc_Ledger_running (fun _ _ _ _ _ _ us hl => match us, hl with | [_], _ => rfl) fun self H Q h => ?_
  intro cdv A outer s E hr
  have hu := hu_of hr
  refine ⟨_, (pss_one (ps_ret (pe_lock (pe_lc (own := [("number", 1)])  rfl (sc_Ledger_running).nd (pi_keys (pe_at (T.f_Ledger_own_deals) (pv 0))) (blkOk_by (N := ["self", "number"]) (sc := defScope t_Ledger_running) (by decide +kernel)) (fun _ _ _ _ _ => (pg_name (i := 1) (sc_Ledger_running).nd rfl (.inl rfl))) (fun _ _ _ _ _ => (pts_one (pt_cmpR op_eq (pe_ix (ix_listK K) (pe_at (T.f_Ledger_own_states) (pv 0)) (pe_op op_sub (pv 1) pe_int) (fun _ _ => rfl)) (pe_gs rfl (T.g_RUNS)) (nomark _)))) (fun _ _ _ _ _ => (pv 1)))))), ?_⟩
  obtain ⟨l, L, ex, hL, kl, q⟩ := h
  subst ex
  obtain ⟨dx, e⟩ := hL.ob
  have ne := led_ne hL.nd
  have kb := kvs_len hL kl
  refine ⟨L.de, _, hL.de, True.intro, fun od => ?_⟩
  have e1 : upd H L.de (.frz od (.dK (dealK L.kvs))) l = some (Ob (ga K "Ledger") dx nsLedger [.ref L.de, .ref L.ow, .ref L.st]) := by
    rw [upd_ne ne.l_de]
    exact e
  have e2 : upd H L.de (.frz od (.dK (dealK L.kvs))) L.st = some (.lst (SL L.states)) := by
    rw [upd_ne (Ne.symm ne.de_st)]
    exact hL.st
  refine ⟨_, rfl, l, dx, _, _, rfl, e1, rfl, L.de, od, rfl, .inl ⟨_, upd_same, fun D hD => ?_⟩⟩
  have kvl : (dealK L.kvs).length = L.kvs.length := List.length_map _
  refine lc_any (n := L.kvs.length) (fun i H' => ∃ acc : List Nat, CmW (upd H L.de (.frz od (.dK (dealK L.kvs)))) D (IL acc) H' ∧ (∀ m ∈ acc, (∃ a, (m, a) ∈ L.kvs) ∧ L.states[m - 1]? = some Sta.runs) ∧ acc.length ≤ i) ⟨[], .start hD, nofun, Nat.le_refl _⟩
    (fun i H' hi ⟨acc, c, _⟩ => ⟨c.sm _ _ upd_same, by rw [kvl]; exact hi⟩) (fun H' ⟨acc, c, _⟩ => ⟨c.sm _ _ upd_same, by rw [kvl]; exact Nat.le_refl _⟩) ?_ ?_
  · rintro i H' x H2 hi ⟨acc, c, ha, hl⟩ ⟨eH, k, v, hk, ek⟩
    subst eH ek
    unfold dealK at hk
    rw [List.getElem?_map] at hk
    obtain ⟨p, hp, ep⟩ := Option.map_eq_some_iff.mp hk
    cases ep
    have pm := List.mem_of_getElem? hp
    obtain ⟨p1, p2⟩ := kl p pm
    have lt : p.1 - 1 < L.states.length := by rw [← hL.ln]; omega
    have hs : L.states[p.1 - 1]? = some L.states[p.1 - 1] := List.getElem?_eq_getElem lt
    have e3 : ((p.1 : Int) - 1) = ((p.1 - 1 : Nat) : Int) := by omega
    refine ⟨rfl, _, rfl, l, dx, _, _, rfl, c.sm _ _ e1, rfl, _, rfl, _, 1, rfl, rfl, L.st, _, _, .str (staS L.states[p.1 - 1]), rfl, rfl, SqL.of (c.sm _ _ e2), ?_, rfl, _, rfl, ?_⟩
    · rw [e3]
      exact atI_nat (st_at hs)
    · refine ite2 (fun hc => ?_) fun hc => ⟨acc, c, ha, by omega⟩
      have es : L.states[p.1 - 1] = .runs := by
        have := (sta_eq L.states[p.1 - 1] .runs).symm.trans hc
        exact of_decide_eq_true this
      refine ⟨_, rfl, IL acc, c.at_, small1000 (by rw [IL_len]; omega), acc ++ [p.1], ?_, fun m hm => ?_, by rw [List.length_append, List.length_singleton]; omega⟩
      · rw [IL_app]
        exact c.push hD _
      · rcases List.mem_append.mp hm with z | z
        · exact ha m z
        · rw [List.mem_singleton.mp z]
          exact ⟨⟨p.2, pm⟩, by rw [hs, es]⟩
  · rintro H' ⟨acc, c, ha, hl⟩
    have hDde : D ≠ L.de := fun z => by
      rw [z, upd_same] at hD
      cases hD
    refine ⟨c.sm _ _ upd_same, q D acc _ (fun b o eb => ?_) ?_ ?_ ha hl⟩
    · by_cases hb : b = L.de
      · subst hb
        rw [upd_same]
        rw [hL.de] at eb
        exact eb
      · rw [upd_ne hb]
        exact c.sm _ _ (by rw [upd_ne hb]; exact eb)
    · rw [upd_ne hDde] at hD
      exact hD
    · rw [upd_ne hDde]
      exact c.at_
def RA (L : Led) : Prop := ∀ q ∈ L.kvs, L.states[q.1 - 1]? = some .runs → ∃ d ∈ L.act, d.n = q.1
def sp_Ledger_running_beside (K : PySem.W.Frag) : Sp := s2 fun x y H Q => ∃ l L n, x = .ref l ∧ y = .int ((n : Nat) : Int) ∧ LedAt K H l L ∧ KL L ∧ RA L ∧
  ∀ v rs H', Same H H' → Td K H' v (ID rs) → (∀ m ∈ rs, ∃ d ∈ L.act, d.n ≠ n ∧ m ∈ d.parts) → Q v H'
theorem ok_Ledger_running_beside {P : Program} {w : World} {K : PySem.W.Frag} {mg : Str → Option Value} {base : Heap} (T : Tx K mg) : Df P w K mg base (fAd K ("Ledger", some "running_beside")) 2 [] (sp_Ledger_running_beside K) := by
  obtain ⟨fd, F⟩ := fn_Ledger_running_beside T
  refine df2 F sc_Ledger_running_beside (fun _ _ _ _ _ _ us hl => match us, hl with | [_, _], _ => rfl) fun self number H Q h => ?_
  intro cdv A outer s E hr
  have hu := hu_of hr
  refine ⟨_, (pss_cons (ps_set (i := 2) (sc_Ledger_running_beside).nd rfl (.inl rfl) (pe_lst pa_nil))
    (pss_cons (ps_for PassesOwn.never rfl (pi_listK K (pe_mt0 (ok_Ledger_running T) (T.m_Ledger_running) (hr.mono (by decide)) (pv 0))) (pg_name (i := 3) (sc_Ledger_running_beside).nd rfl (.inl rfl))
    (pss_one (ps_if (pt_cmpR op_ne (pv 3) (pv 1) (nomark _)) (pss_one (ps_expr (pe_bm PySem.F.plainAttrs_list PySem.F.slot_list_extend PySem.F.type_list_extend mt_extend (pv 2) (pa_cons (pe_at (T.f_Deal_own_parts) (pe_dget hu (pe_at (T.f_Ledger_own_deals) (pv 0)) (pv 3) (fun _ _ => rfl))) pa_nil)))) pss_nil)))
    (pss_one (ps_ret (pe_callTy (call_tuple_ofK K) (by rfl) (T.b_tuple) (by decide +kernel) (pa_cons (pe_callB (cr_sortedIK K) (by rfl) (T.b_sorted) (by decide +kernel) (pa_cons (pv 2) pa_nil)) pa_nil)))))), ?_⟩
  obtain ⟨l, L, n, ex, ey, hL, kl, ra, q⟩ := h
  subst ex ey
  obtain ⟨dx, e⟩ := hL.ob
  have kb := kvs_len hL kl
  refine ⟨Nat.zero_le _, fun F nF => ?_⟩
  have s0 : Same H (upd H F (.lst [])) := same_new nF
  refine ⟨_, rfl, l, dx, _, rfl, s0 _ _ e, _, rfl, l, L, rfl, hL.same s0, kl, fun r rs H1 sm1 nr hr1 hrs hlr => ⟨r, rfl, ⟨_, SqL.of hr1⟩, ?_⟩⟩
  have Fr : F ≠ r := fun z => by
    rw [← z, upd_same] at nr
    cases nr
  refine for_list (K := K) (a := r) (xs := IL rs) (fun i σ' H' => ∃ u fs, σ' = [some (.ref l), some (.int (n : Int)), some (.ref F), u] ∧ Same H H' ∧ H' F = some (.lst (IL fs)) ∧ H' r = some (.lst (IL rs)) ∧ fs.length ≤ 8 * i ∧ ∀ m ∈ fs, ∃ d ∈ L.act, d.n ≠ n ∧ m ∈ d.parts)
    ⟨_, [], rfl, s0.trans sm1, sm1 _ _ upd_same, hr1, Nat.zero_le _, nofun⟩ (fun i σ' H' _ ⟨_, _, _, _, _, h3, _⟩ => SqL.of h3) ?_ ?_
  · rintro i x σ' H' hi ⟨u, fs, rfl, sm, hF, hr', lf, hfs⟩
    have il : i < (IL rs).length := (List.getElem?_eq_some_iff.mp hi).1
    rw [IL_len] at il
    obtain ⟨m, hm, em⟩ := IL_get hi
    subst em
    obtain ⟨⟨a, ha⟩, hs⟩ := hrs m (List.mem_of_getElem? hm)
    refine ⟨_, rfl, _, rfl, rfl, _, rfl, ite2 (fun hc => ?_) fun _ => ⟨_, fs, rfl, sm, hF, hr', by omega, hfs⟩⟩
    have hmn : m ≠ n := fun z => by
      subst z
      simp at hc
    obtain ⟨d, hd, ed⟩ := ra (m, a) ha hs
    have ed : d.n = m := ed
    obtain ⟨l1, l2, ea⟩ := List.append_of_mem hd
    have hL' := hL.same sm
    obtain ⟨dx', e'⟩ := hL'.ob
    obtain ⟨dg, ⟨dx2, e2⟩, e3⟩ := deal_of hL' ea
    rw [ed] at dg
    obtain ⟨pl, _, pb⟩ := hL.pp d hd
    refine ⟨_, rfl, .inl ⟨rfl, _, SqL.of hF⟩, _, rfl, l, dx', _, _, rfl, e', rfl, _, rfl, L.de, _, rfl, dg, d.a, dx2, _, _, rfl, e2, rfl, F, d.p, _, _, rfl, rfl, hF, e3, Nat.le_of_lt (small1000 (by rw [IL_len, IL_len]; omega)), ?_⟩
    refine ⟨_, fs ++ d.parts, rfl, fun b o eb => ?_, by rw [upd_same, IL_app], ?_, by rw [List.length_append]; omega, fun k hk => ?_⟩
    · rw [upd_ne (ne_of_none eb nF)]
      exact sm _ _ eb
    · rw [upd_ne (Ne.symm Fr)]
      exact hr'
    · rcases List.mem_append.mp hk with z | z
      · exact hfs k z
      · exact ⟨d, hd, by rw [ed]; exact hmn, z⟩
  · rintro σ' H' ⟨u, fs, rfl, sm, hF, hr', lf, hfs⟩
    refine ⟨_, rfl, F, fs.map (fun n : Nat => (n : Int)), rfl, SqL.of (by rw [List.map_map]; exact hF), fun ns' f' hp _ nf => ?_⟩
    refine ⟨f', _, rfl, .inl ⟨SqL.of upd_same, fun t nt => ?_⟩⟩
    have h0 : ∀ k ∈ ns', 0 ≤ k := fun k hk => by
      obtain ⟨m, _, e⟩ := List.mem_map.mp (hp.mem_iff.mp hk)
      rw [← e]
      omega
    rw [nat_list h0] at nt ⊢
    have s5 := same_new (o := .lst (IL (ns'.map Int.toNat))) nf
    refine q _ (ns'.map Int.toNat) _ ((sm.trans s5).trans (same_new nt)) (.tup (.inl upd_same) (ints_tds _)) fun m hm => ?_
    obtain ⟨k, hk, e⟩ := List.mem_map.mp hm
    obtain ⟨m', hm', e'⟩ := List.mem_map.mp (hp.mem_iff.mp hk)
    have : m = m' := by rw [← e, ← e']; rfl
    rw [this]
    exact hfs m' hm'
def sp_Ledger_snapshot_now (K : PySem.W.Frag) : Sp := s2 fun x y H Q => ∃ l L l1 d l2, x = .ref l ∧ y = .int ((d.n : Nat) : Int) ∧ LedAt K H l L ∧ KL L ∧ RA L ∧ L.act = l1 ++ d :: l2 ∧
  ∀ v rs H', Same H H' → Td K H' v (Sn.d ⟨L.owners.length + 1, rs, d.parts, d.cmd⟩) → (∀ m ∈ rs, ∃ d2 ∈ L.act, d2.n ≠ d.n ∧ m ∈ d2.parts) → Q v H'
theorem okf_Ledger_snapshot_now {P : Program} {w : World} {K : PySem.W.Frag} {mg : Str → Option Value} {base : Heap} (T : Tx K mg) : ∃ fd, FnOk P w K mg base CX0 3 (fAd K ("Ledger", some "snapshot_now")) fd ["self", "number"] (sp_Ledger_snapshot_now K) ∧ FunD K "snapshot_now" "Ledger.snapshot_now" (defArgs t_Ledger_snapshot_now) (defBody t_Ledger_snapshot_now) (defScope t_Ledger_snapshot_now) [.non] [] (fAd K ("Ledger", some "snapshot_now")) fd := by
  obtain ⟨fd, F⟩ := fn_Ledger_snapshot_now T
  refine ⟨fd, okn2 F sc_Ledger_snapshot_now fun self number H Q h => ?_, F⟩
  intro cdv A outer s E hr
  have hu := hu_of hr
  refine ⟨_, (pss_cons (ps_set (i := 2) (sc_Ledger_snapshot_now).nd rfl (.inl rfl) (pe_tupdK K (pa_cons (pe_mt0 (ok_Ledger_following T) (T.m_Ledger_following) (hr.mono (by decide)) (pv 0)) (pa_cons (pe_mt (ok_Ledger_running_beside T) (T.m_Ledger_running_beside) (hr.mono (by decide)) (pv 0) (pa_cons (pv 1) pa_nil)) pa_nil))))
    (pss_one (ps_ret (pe_ifExp (pt_cmp (pc_isN (pv 1)) rfl) (pe_tupdK K (pa_starK K (pv 2) (pa_cons (pe_tupdK K pa_nil) (pa_cons pe_int pa_nil)))) (pe_tupdK K (pa_starK K (pv 2) (pa_cons (pe_mt (ok_Ledger_parts T) (T.m_Ledger_parts) (hr.mono (by decide)) (pv 0) (pa_cons (pv 1) pa_nil)) (pa_cons (pe_mt (ok_Ledger_command T) (T.m_Ledger_command) (hr.mono (by decide)) (pv 0) (pa_cons (pv 1) pa_nil)) pa_nil)))))))), ?_⟩
  obtain ⟨l, L, l1, d, l2, ex, ey, hL, kl, ra, ea, q⟩ := h
  subst ex ey
  obtain ⟨dx, e⟩ := hL.ob
  refine ⟨_, rfl, l, dx, _, rfl, e, _, rfl, l, L, rfl, hL, ?_⟩
  refine ⟨_, rfl, l, dx, _, rfl, e, _, rfl, _, _, rfl, l, L, d.n, rfl, rfl, hL, kl, ra, fun v1 rs H1 sm1 hv1 hrs => ?_⟩
  refine ⟨_, Tds.cons (.int _) (.cons hv1 .nil), Nat.le_of_ble_eq_true rfl, fun v2 H2 sm2 hv2 => ?_⟩
  have sm12 := sm1.trans sm2
  have hL2 := hL.same sm12
  obtain ⟨dx2, e2⟩ := hL2.ob
  obtain ⟨ha, hxs, eh, hq, hr3⟩ := hv2.tup_eq
  subst eh
  refine ⟨_, rfl, _, rfl, ite2 (fun h => absurd (of_decide_eq_true h) (fun z => nomatch z)) fun _ => ?_⟩
  refine ⟨_, rfl, ha, hxs, rfl, .inl hq.t, ?_⟩
  refine ⟨_, rfl, l, dx2, _, rfl, e2, _, rfl, _, _, rfl, l, L, l1, d, l2, rfl, rfl, hL2, ea, fun v3 H3 sm3 hv3 => ?_⟩
  have hL3 := hL2.same sm3
  obtain ⟨dx3, e3⟩ := hL3.ob
  refine ⟨_, rfl, l, dx3, _, rfl, e3, _, rfl, _, _, rfl, l, L, l1, d, l2, rfl, rfl, hL3, ea, ?_⟩
  refine ⟨_, (hr3.same sm3).app (.cons hv3 (.cons (.int _) .nil)), ?_, fun v4 H4 sm4 hv4 => q v4 rs H4 ((sm12.trans sm3).trans sm4) hv4 hrs⟩
  have := hr3.length
  rw [List.length_append, this]
  exact Nat.le_of_ble_eq_true rfl
theorem ok_Ledger_snapshot_now {P : Program} {w : World} {K : PySem.W.Frag} {mg : Str → Option Value} {base : Heap} (T : Tx K mg) : Df P w K mg base (fAd K ("Ledger", some "snapshot_now")) 3 [] (sp_Ledger_snapshot_now K) :=
  df_dfl (okf_Ledger_snapshot_now T) 2 1 (List.cons_ne_nil _ _) rfl fun T kV doc pm an cdv ct us its hu hi => match us, hu, its, hi with | [_, _], _, [_], _ => ⟨_, rfl, rfl⟩
end Rc


set_option Elab.async false
set_option linter.all false
set_option maxRecDepth 100000
set_option maxHeartbeats 4000000
namespace Rc
open PySem PySem.Spec PyProof.Rows L2 He
def mkv (p : Nat × Unit) : V := .bl true
theorem ktup_of {K : PySem.W.Frag} {x : Str} {vs : List He.Dv} (h : He.tupB K x vs = true) : KTup K (ga K x) (vs.map (He.Dv.v K)) := by
  rcases He.tupB_ok h (fun _ => none) with z | z
  · rcases z with z | ⟨o, z⟩ <;> cases z
  · exact z
theorem unu_td {K : PySem.W.Frag} {mg : Str → Option Value} (T : Tx K mg) (H : Hp) : Td K H (.ref (ga K "UNUSED_table")) Slot.un.d := .tup (.inr (ktup_of T.unu)) (.cons (.str _) .nil)
theorem dead_td {K : PySem.W.Frag} {mg : Str → Option Value} (T : Tx K mg) (H : Hp) : Td K H (.ref (ga K "DEAD_table")) Slot.dead.d := .tup (.inr (ktup_of T.dea)) (.cons (.str _) .nil)
structure TabNe (t : Addr) (T : Tab) : Prop where
  tp : t ≠ T.P
  tm : t ≠ T.M
  pm : T.P ≠ T.M
theorem tab_ne {t : Addr} {T : Tab} (nd : (T.fp t).Nodup) : TabNe t T := by
  unfold Tab.fp at nd
  simp only [List.nodup_cons, List.mem_cons, List.not_mem_nil, or_false, not_or] at nd
  exact ⟨nd.1.1, nd.1.2, nd.2.1⟩
theorem TbAt.nt {K : PySem.W.Frag} {H : Hp} {t : Addr} {T : Tab} (h : TbAt K H t T) : ∀ a ∈ T.fp t, NT (H a) := fun a ha => by
  unfold Tab.fp at ha
  simp only [List.mem_cons, List.not_mem_nil, or_false] at ha
  obtain ⟨dx, e⟩ := h.ob
  obtain ⟨vs, e1, _⟩ := h.pg
  obtain ⟨ks, e2, _⟩ := h.mrk
  rcases ha with z | z | z
  · rw [z]; exact NT.of e rfl
  · rw [z]; exact NT.of e1 rfl
  · rw [z]; exact NT.of e2 rfl
theorem TbAt.chg {K : PySem.W.Frag} {H H' : Hp} {t : Addr} {T : Tab} {fp : List Addr} (h : TbAt K H t T) (c : Chg fp H H') (n : ∀ a ∈ fp, a ∉ T.fp t) : TbAt K H' t T :=
  h.keep (fun a ha o e => c.keep a o e fun z => n a z ha) c.tk
theorem TbAt.cht {K : PySem.W.Frag} {H H' : Hp} {t : Addr} {T : Tab} {fp : List Addr} (h : TbAt K H t T) (c : ChT fp H H') (n : ∀ a ∈ fp, a ∉ T.fp t) : TbAt K H' t T :=
  h.keep (fun a ha o e => c.keep a o e (fun z => n a z ha) fun ps z => by
    obtain ⟨o', e', hn⟩ := h.nt a ha
    rw [e] at e'
    cases e'
    exact hn ps z) c.tk
theorem TbAt.setP {K : PySem.W.Frag} {H : Hp} {t : Addr} {T : Tab} (h : TbAt K H t T) {vs : List V} {ps : List Page} (ht : Tds K H vs (ps.map pgD)) (ok : ∀ p ∈ ps, PgOk p) (pl : ps.length ≤ 60) (ge : T.pages.length ≤ ps.length) :
    TbAt K (upd H T.P (.lst vs)) t { T with pages := ps } := by
  have ne := tab_ne h.nd
  obtain ⟨dx, e⟩ := h.ob
  obtain ⟨vs0, e1, _⟩ := h.pg
  obtain ⟨ks, e2, h2, h3⟩ := h.mrk
  refine ⟨⟨dx, ?_⟩, ⟨vs, upd_same, ht.keep (tk_lst e1)⟩, ⟨ks, ?_, h2, fun k hk => Nat.lt_of_lt_of_le (h3 k hk) ge⟩, h.nd, ok, pl⟩
  · rw [upd_ne ne.tp]
    exact e
  · show upd H T.P _ T.M = _
    rw [upd_ne (Ne.symm ne.pm)]
    exact e2
theorem tk_dk {H : Hp} {a : Addr} {ys : List (Key × V)} {o : HO} (e : H a = some (.dK ys)) : TKeep H (upd H a o) := fun b xs h => by
  rw [upd_ne (fun z : b = a => by rw [z, e] at h; cases h)]
  exact h
theorem TbAt.setM {K : PySem.W.Frag} {H : Hp} {t : Addr} {T : Tab} (h : TbAt K H t T) (ks : List Nat) (nd : ks.Nodup) (hb : ∀ k ∈ ks, k < T.pages.length) : TbAt K (upd H T.M (.dK (markK ks))) t T := by
  have ne := tab_ne h.nd
  obtain ⟨dx, e⟩ := h.ob
  obtain ⟨vs0, e1, e3⟩ := h.pg
  obtain ⟨ks0, e2, _⟩ := h.mrk
  refine ⟨⟨dx, ?_⟩, ⟨vs0, ?_, e3.keep (tk_dk e2)⟩, ⟨ks, upd_same, nd, hb⟩, h.nd, h.ok, h.pl⟩
  · rw [upd_ne ne.tm]
    exact e
  · rw [upd_ne ne.pm]
    exact e1
theorem drop_mark (ks : List Nat) (n : Nat) : dropK (markK ks) (.inl ((n : Nat) : Int)) = markK (ks.filter fun k => decide (k ≠ n)) := by
  unfold dropK markK
  rw [List.filter_map]
  congr 1
  refine List.filter_congr fun k _ => ?_
  show decide ((Sum.inl ((k : Nat) : Int) : Key) ≠ .inl ((n : Nat) : Int)) = decide (k ≠ n)
  refine decide_eq_decide.mpr ⟨fun h z => h (by rw [z]), fun h z => h (by injection z with z; omega)⟩
theorem put_mark (ks : List Nat) (n : Nat) : putK (markK ks) (.inl ((n : Nat) : Int)) (.bl true) = markK (if n ∈ ks then ks else ks ++ [n]) := by
  unfold putK
  have ea : ((markK ks).any fun kv => decide (kv.1 = (.inl ((n : Nat) : Int) : Key))) = decide (n ∈ ks) := by
    unfold markK
    rw [List.any_map]
    induction ks with
    | nil => rfl
    | cons k ks ih =>
      rw [List.any_cons, ih]
      by_cases h1 : k = n
      · subst h1
        simp
      · have h2 : ¬ ((Sum.inl ((k : Nat) : Int) : Key) = .inl ((n : Nat) : Int)) := fun z => h1 (by injection z with z; omega)
        have h3 : ¬ n = k := fun z => h1 z.symm
        simp [Function.comp, h2, h3]
  rw [ea]
  by_cases h : n ∈ ks
  · rw [decide_eq_true h, if_pos rfl, if_pos h]
    unfold markK
    rw [List.map_map]
    refine List.map_congr_left fun k _ => ?_
    show (if (Sum.inl ((k : Nat) : Int) : Key) = .inl ((n : Nat) : Int) then ((Sum.inl ((k : Nat) : Int) : Key), V.bl true) else ((Sum.inl ((k : Nat) : Int) : Key), V.bl true)) = _
    split <;> rfl
  · rw [decide_eq_false h, if_neg (by simp), if_neg h]
    unfold markK
    rw [List.map_append]
    rfl
def sp_Table_init (K : PySem.W.Frag) : Sp := s1 fun x H Q => ∃ (a dx : Addr), x = .ref a ∧ H a = some (Ob (ga K "Table") dx nsTable []) ∧
  ∀ P M H', Chg [a] H H' → H P = none → H M = none → TbAt K H' a ⟨P, M, []⟩ → Q .non H'
theorem ok_Table_init {P : Program} {w : World} {K : PySem.W.Frag} {mg : Str → Option Value} {base : Heap} (T : Tx K mg) : Df P w K mg base (fAd K ("Table", some "__init__")) 1 [] (sp_Table_init K) := by
  obtain ⟨fd, F⟩ := fn_Table_init T
  refine df1 F sc_Table_init (fun _ _ _ _ _ _ us hl => match us, hl with | [_], _ => rfl) fun self H Q h => ?_
  intro cdv A outer s E hr
  have hu := hu_of hr
  refine ⟨_, (pss_cons (ps_new (T.f_Table_own_pages) (pv 0) (pe_lst pa_nil))
    (pss_one (ps_new (T.f_Table_own_marks) (pv 0) pe_dnewK))), ?_⟩
  obtain ⟨a, dx, ex, e, q⟩ := h
  subst ex
  refine ⟨Nat.zero_le _, fun p np => ?_⟩
  have s1 : Same H (upd H p (.lst [])) := same_new np
  have n1 : p ≠ a := fun z => by rw [z, e] at np; cases np
  have e1 := s1 _ _ e
  refine ⟨_, rfl, a, dx, _, rfl, e1, rfl, fun m nm => ?_⟩
  have s2 := same_new (o := .dK []) nm
  have n2 : m ≠ a := fun z => by rw [z, upd_same] at nm; cases nm
  have n3 : m ≠ p := fun z => by rw [z, upd_ne n1, upd_same] at nm; cases nm
  have nm0 : H m = none := by rw [upd_ne n2, upd_ne n3] at nm; exact nm
  refine ⟨_, rfl, a, dx, _, rfl, s2 _ _ upd_same, rfl, ?_⟩
  refine q p m _ ?_ np nm0 ?_
  · exact (((Chg.of s1).trans (Chg.upd e1 (by simp))).trans (Chg.of s2)).trans (Chg.upd (s2 _ _ upd_same) (by simp))
  · refine ⟨⟨dx, upd_same⟩, ⟨[], ?_, .nil⟩, ⟨[], ?_, List.nodup_nil, nofun⟩, ?_, nofun, Nat.zero_le _⟩
    · show upd _ a _ p = _
      rw [upd_ne n1, upd_ne (Ne.symm n3), upd_ne n1]
      exact upd_same
    · show upd _ a _ m = _
      rw [upd_ne n2]
      exact upd_same
    · simp [Tab.fp, Ne.symm n1, Ne.symm n2, Ne.symm n3]
def sp_Table_many (K : PySem.W.Frag) : Sp := s1 fun x H Q => ∃ t T, x = .ref t ∧ TbAt K H t T ∧ Q (.int ((T.pages.length : Nat) : Int)) H
theorem ok_Table_many {P : Program} {w : World} {K : PySem.W.Frag} {mg : Str → Option Value} {base : Heap} (T : Tx K mg) : Df P w K mg base (fAd K ("Table", some "many")) 1 [] (sp_Table_many K) := by
  obtain ⟨fd, F⟩ := fn_Table_many T
  refine df1 F sc_Table_many (fun _ _ _ _ _ _ us hl => match us, hl with | [_], _ => rfl) fun self H Q h => ?_
  intro cdv A outer s E hr
  have hu := hu_of hr
  refine ⟨_, (pss_one (ps_ret (pe_callB (call_len_seqK K) (by rfl) (T.b_len) (by decide +kernel) (pa_cons (pe_at (T.f_Table_own_pages) (pv 0)) pa_nil)))), ?_⟩
  obtain ⟨t, Tb, ex, hT, q⟩ := h
  subst ex
  obtain ⟨dx, e⟩ := hT.ob
  obtain ⟨vs, e1, e2⟩ := hT.pg
  have hl := e2.length
  rw [List.length_map] at hl
  refine ⟨_, rfl, t, dx, _, _, rfl, e, rfl, Tb.P, vs, rfl, .inl (SqL.of e1), ?_⟩
  rw [hl]
  exact q
def sp_Table_pages (K : PySem.W.Frag) : Sp := s1 fun x H Q => ∃ t T, x = .ref t ∧ TbAt K H t T ∧ ∀ v H', Same H H' → Td K H' v (.tuple (T.pages.map pgD)) → Q v H'
theorem ok_Table_pages {P : Program} {w : World} {K : PySem.W.Frag} {mg : Str → Option Value} {base : Heap} (T : Tx K mg) : Df P w K mg base (fAd K ("Table", some "pages")) 1 [] (sp_Table_pages K) := by
  obtain ⟨fd, F⟩ := fn_Table_pages T
  refine df1 F sc_Table_pages (fun _ _ _ _ _ _ us hl => match us, hl with | [_], _ => rfl) fun self H Q h => ?_
  intro cdv A outer s E hr
  have hu := hu_of hr
  refine ⟨_, (pss_one (ps_ret (pe_callTy (call_tuple_ofK K) (by rfl) (T.b_tuple) (by decide +kernel) (pa_cons (pe_at (T.f_Table_own_pages) (pv 0)) pa_nil)))), ?_⟩
  obtain ⟨t, Tb, ex, hT, q⟩ := h
  subst ex
  obtain ⟨dx, e⟩ := hT.ob
  obtain ⟨vs, e1, e2⟩ := hT.pg
  refine ⟨_, rfl, t, dx, _, _, rfl, e, rfl, Tb.P, vs, rfl, .inl ⟨SqL.of e1, fun r nr => ?_⟩⟩
  have s1 := same_new (o := .tup vs) nr
  exact q _ _ s1 (.tup (.inl upd_same) (e2.same s1))
def sp_Table_page (K : PySem.W.Frag) : Sp := s2 fun x y H Q => ∃ t T n p, x = .ref t ∧ y = .int ((n : Nat) : Int) ∧ TbAt K H t T ∧ T.pages[n]? = some p ∧ ∀ v, Td K H v (pgD p) → Q v H
theorem pages_get {K : PySem.W.Frag} {H : Hp} {T : Tab} {n : Nat} {p : Page} {vs : List V} (h : Tds K H vs (T.pages.map pgD)) (hp : T.pages[n]? = some p) : ∃ v, vs[n]? = some v ∧ Td K H v (pgD p) :=
  h.get (by rw [List.getElem?_map, hp]; rfl)
theorem ok_Table_page {P : Program} {w : World} {K : PySem.W.Frag} {mg : Str → Option Value} {base : Heap} (T : Tx K mg) : Df P w K mg base (fAd K ("Table", some "page")) 1 [] (sp_Table_page K) := by
  obtain ⟨fd, F⟩ := fn_Table_page T
  refine df2 F sc_Table_page (fun _ _ _ _ _ _ us hl => match us, hl with | [_, _], _ => rfl) fun self number H Q h => ?_
  intro cdv A outer s E hr
  have hu := hu_of hr
  refine ⟨_, (pss_one (ps_ret (pe_ix (ix_listK K) (pe_at (T.f_Table_own_pages) (pv 0)) (pv 1) (fun _ _ => rfl)))), ?_⟩
  obtain ⟨t, Tb, n, p, ex, ey, hT, hp, q⟩ := h
  subst ex ey
  obtain ⟨dx, e⟩ := hT.ob
  obtain ⟨vs, e1, e2⟩ := hT.pg
  obtain ⟨v, hv, hd⟩ := pages_get e2 hp
  exact ⟨_, rfl, t, dx, _, _, rfl, e, rfl, _, rfl, Tb.P, vs, (n : Int), v, rfl, rfl, SqL.of e1, atI_nat hv, q v hd⟩
def plD (a b : Nat) : PyData := .tuple [.int (a : Int), .int (b : Int)]
def sp_Table_slot (K : PySem.W.Frag) : Sp := s2 fun x y H Q => ∃ t T a b p s, x = .ref t ∧ Td K H y (plD a b) ∧ TbAt K H t T ∧ T.pages[a]? = some p ∧ p[b]? = some s ∧ ∀ v, Td K H v s.d → Q v H
theorem ok_Table_slot {P : Program} {w : World} {K : PySem.W.Frag} {mg : Str → Option Value} {base : Heap} (T : Tx K mg) : Df P w K mg base (fAd K ("Table", some "slot")) 1 [] (sp_Table_slot K) := by
  obtain ⟨fd, F⟩ := fn_Table_slot T
  refine df2 F sc_Table_slot (fun _ _ _ _ _ _ us hl => match us, hl with | [_, _], _ => rfl) fun self place H Q h => ?_
  intro cdv A outer s E hr
  have hu := hu_of hr
  refine ⟨_, (pss_one (ps_ret (pe_ixdK K (pe_ix (ix_listK K) (pe_at (T.f_Table_own_pages) (pv 0)) (pe_ixdK K (pv 1) pe_int) (fun _ _ => rfl)) (pe_ixdK K (pv 1) pe_int)))), ?_⟩
  obtain ⟨t, Tb, a, b, p, sl, ex, hy, hT, hp, hs, q⟩ := h
  subst ex
  obtain ⟨dx, e⟩ := hT.ob
  obtain ⟨vs, e1, e2⟩ := hT.pg
  obtain ⟨v, hv, hd⟩ := pages_get e2 hp
  refine ⟨_, rfl, t, dx, _, _, rfl, e, rfl, _, rfl, _, 0, _, hy, rfl, rfl, fun ya hya => ?_⟩
  rw [hya.int_eq]
  refine ⟨Tb.P, vs, (a : Int), v, rfl, rfl, SqL.of e1, atI_nat hv, _, rfl, _, 1, _, hy, rfl, rfl, fun yb hyb => ?_⟩
  rw [hyb.int_eq]
  exact ⟨_, b, _, hd, rfl, pg_at hs, q⟩
def sp_Table_marked (K : PySem.W.Frag) : Sp := s1 fun x H Q => ∃ t T, x = .ref t ∧ TbAt K H t T ∧ ∀ (r : Addr) (ns : List Int) (H' : Hp), Same H H' → H' r = some (.lst (ns.map V.int)) → Q (.ref r) H'
theorem ok_Table_marked {P : Program} {w : World} {K : PySem.W.Frag} {mg : Str → Option Value} {base : Heap} (T : Tx K mg) : Df P w K mg base (fAd K ("Table", some "marked")) 1 [] (sp_Table_marked K) := by
  obtain ⟨fd, F⟩ := fn_Table_marked T
  refine df1 F sc_Table_marked (fun _ _ _ _ _ _ us hl => match us, hl with | [_], _ => rfl) fun self H Q h => ?_
  intro cdv A outer s E hr
  have hu := hu_of hr
  refine ⟨_, (pss_one (ps_ret (pe_callB (cr_sortedDk rfl) (by rfl) (T.b_sorted) (by decide +kernel) (pa_cons (pe_at (T.f_Table_own_marks) (pv 0)) pa_nil)))), ?_⟩
  obtain ⟨t, Tb, ex, hT, q⟩ := h
  subst ex
  obtain ⟨dx, e⟩ := hT.ob
  obtain ⟨ks, e2, _⟩ := hT.mrk
  refine ⟨_, rfl, t, dx, _, _, rfl, e, rfl, Tb.M, markK ks, ks.map (fun k : Nat => (k : Int)), rfl, e2, ?_, fun ys p _ _ np => q p ys _ (same_new np) upd_same⟩
  unfold markK
  rw [List.map_map, List.map_map]
  rfl
theorem slot_shaped {s : Slot} (h : ∀ v, s = .row v → okKd v.kd) : SeqAt.shaped s.d = true := by
  cases s with
  | un => decide +kernel
  | dead => decide +kernel
  | red n =>
    have h1 : PyData.strOk "redirect" = true := by decide +kernel
    simp [Slot.d, SeqAt.shaped, PyData.canLay0, PyData.canLayAll0, PyData.depth, PyData.depthAll, h1]
  | row v =>
    have h1 : PyData.strOk "row" = true := by decide +kernel
    have n1 : ∀ o, PyData.canLay0 (numO o) = true ∧ PyData.depth (numO o) = 0 := fun o => by cases o <;> exact ⟨rfl, rfl⟩
    have n2 : PyData.canLay0 (placeO v.nx) = true ∧ PyData.depth (placeO v.nx) ≤ 1 := by
      cases v.nx with
      | none => exact ⟨rfl, Nat.zero_le _⟩
      | some ab => exact ⟨rfl, Nat.le_refl _⟩
    have n3 : PyData.canLay0 v.kd = true ∧ PyData.depth v.kd = 0 := by
      have hk := h v rfl
      cases e : v.kd with
      | none => exact ⟨rfl, rfl⟩
      | int i => exact ⟨rfl, rfl⟩
      | str x =>
        rw [e] at hk
        exact ⟨hk.2, rfl⟩
      | bool b => rw [e] at hk; exact hk.elim
      | list l => rw [e] at hk; exact hk.elim
      | tuple l => rw [e] at hk; exact hk.elim
      | dict l => rw [e] at hk; exact hk.elim
    have m1 := n1 (v.en.map (·.1))
    have m2 := n1 (v.en.map (·.2))
    have hc : PyData.canLay0 v.d = true := by
      unfold Ver.d rowD
      simp only [PyData.canLay0, PyData.canLayAll0, h1, m1.1, m2.1, n2.1, n3.1, Bool.and_self]
    have hd : PyData.depth v.d ≤ 64 := by
      unfold Ver.d rowD
      simp only [PyData.depth, PyData.depthAll, m1.2, m2.2, n3.2]
      omega
    unfold SeqAt.shaped
    rw [Bool.and_eq_true]
    exact ⟨hc, decide_eq_true hd⟩
theorem eqv_dead {s : Slot} (h : PyData.eqv s.d Slot.dead.d = true) : s = .dead := by
  cases s with
  | un => exact absurd h (by decide +kernel)
  | dead => rfl
  | red n =>
    exact absurd h (by simp [Slot.d, PyData.eqv, PyData.eqvAll])
  | row v => exact absurd h (by simp [Slot.d, Ver.d, PyData.eqv, PyData.eqvAll])
def sp_Table_dead_slots (K : PySem.W.Frag) : Sp := s2 fun x y H Q => ∃ t T n p, x = .ref t ∧ y = .int ((n : Nat) : Int) ∧ TbAt K H t T ∧ T.pages[n]? = some p ∧
  ∀ r us H', Same H H' → H r = none → H' r = some (.lst (IL us)) → us.length ≤ 8 → (∀ m ∈ us, p[m]? = some .dead) → Q (.ref r) H'
theorem ok_Table_dead_slots {P : Program} {w : World} {K : PySem.W.Frag} {mg : Str → Option Value} {base : Heap} (T : Tx K mg) : Df P w K mg base (fAd K ("Table", some "dead_slots")) 1 [] (sp_Table_dead_slots K) := by
  obtain ⟨fd, F⟩ := fn_Table_dead_slots T
  refine df2 F sc_Table_dead_slots (fun _ _ _ _ _ _ us hl => match us, hl with | [_, _], _ => rfl) fun self number H Q h => ?_
  intro cdv A outer s E hr
  have hu := hu_of hr
  refine ⟨_, (pss_one (ps_ret (pe_lc (own := [("slot", 2), ("what", 3)])  rfl (sc_Table_dead_slots).nd (pi_enumTK K (by rfl) (T.b_enumerate) (pa_cons (pe_ix (ix_listK K) (pe_at (T.f_Table_own_pages) (pv 0)) (pv 1) (fun _ _ => rfl)) pa_nil)) (blkOk_by (N := ["self", "number", "slot", "what"]) (sc := defScope t_Table_dead_slots) (by decide +kernel)) (fun _ _ _ _ _ => (pg_tupK K (n := 2) (by rfl) (pgs_cons (pg_name (i := 2) (sc_Table_dead_slots).nd rfl (.inl rfl)) (pgs_cons (pg_name (i := 3) (sc_Table_dead_slots).nd rfl (.inl rfl)) pgs_nil)))) (fun _ _ _ _ _ => (pts_one (pt_cmpR (op_eqDK K hr.units) (pv 3) (pe_gr rfl (T.g_DEAD_table)) (nomark _)))) (fun _ _ _ _ _ => (pv 2))))), ?_⟩
  obtain ⟨t, Tb, n, p, ex, ey, hT, hp, q⟩ := h
  subst ex ey
  obtain ⟨dx, e⟩ := hT.ob
  obtain ⟨vs, e1, e2⟩ := hT.pg
  obtain ⟨v, hv, hd⟩ := pages_get e2 hp
  obtain ⟨pa, xs, ex, hq, hl, hr2⟩ := pg_open hd
  subst ex
  have ok := hT.ok p (List.mem_of_getElem? hp)
  have pl := ok.ln
  refine ⟨_, rfl, t, dx, _, _, rfl, e, rfl, _, rfl, Tb.P, vs, (n : Int), .ref pa, rfl, rfl, SqL.of e1, atI_nat hv, pa, _, rfl, hq.t, fun D hD => ?_⟩
  refine lc_et (K := K) (a := pa) (xs := xs) (fun i H' => ∃ acc : List Nat, CmW H D (IL acc) H' ∧ (∀ m ∈ acc, p[m]? = some Slot.dead) ∧ acc.length ≤ i) ⟨[], .start hD, nofun, Nat.le_refl _⟩ (fun i H' _ ⟨acc, c, _⟩ => (hq.keep (Same.tk c.sm)).t) ?_ ?_
  · rintro i x H' U hi ⟨acc, c, ha, hl2⟩ nU
    have il : i < xs.length := (List.getElem?_eq_some_iff.mp hi).1
    obtain ⟨d, hd1, hxd⟩ := hr2.get2 hi
    rw [List.getElem?_map] at hd1
    obtain ⟨s, hs, es⟩ := Option.map_eq_some_iff.mp hd1
    subst es
    have sU : Same H' (upd H' U (.tup [.int (i : Nat), x])) := same_new nU
    have c2 := c.same sU
    refine ⟨U, _, rfl, .inl (.inl upd_same), rfl, _, _, rfl, _, _, rfl, rfl, rfl, ?_⟩
    refine ⟨_, rfl, s.d, Slot.dead.d, (hxd.same c2.sm).dp, (dead_td T _).dp, slot_shaped (fun v hv => ok.kd v (hv ▸ List.mem_of_getElem? hs)), by decide +kernel, _, rfl, ?_⟩
    refine ite2 (fun hc => ?_) fun hc => ⟨acc, c2, ha, by omega⟩
    refine ⟨_, rfl, IL acc, c2.at_, small1000 (by rw [IL_len]; omega), acc ++ [i], ?_, fun m hm => ?_, by rw [List.length_append, List.length_singleton]; omega⟩
    · rw [IL_app]
      exact c2.push hD _
    · rcases List.mem_append.mp hm with z | z
      · exact ha m z
      · rw [List.mem_singleton.mp z, hs, eqv_dead hc]
  · rintro H' ⟨acc, c, ha, hl2⟩
    exact q D acc H' c.sm hD c.at_ (by omega) ha
end Rc


set_option Elab.async false
set_option linter.all false
set_option maxRecDepth 100000
set_option maxHeartbeats 4000000
namespace Rc
open PySem PySem.Spec PyProof.Rows L2 He
theorem setAt_ok {p : Page} {b : Nat} {s : Slot} (h : PgOk p) (hb : b < 8) (hs : ∀ v, s = .row v → okKd v.kd) : PgOk (setAt p b s) := by
  unfold setAt
  refine ⟨?_, fun v hv => ?_⟩
  · rw [List.length_append, List.length_take, List.length_cons, List.length_drop]
    have := h.ln
    omega
  · rcases List.mem_append.mp hv with z | z
    · exact h.kd v (List.mem_of_mem_take z)
    · rcases List.mem_cons.mp z with z | z
      · exact hs v z.symm
      · exact h.kd v (List.mem_of_mem_drop z)
theorem PrS.ok {us ss : List Nat} {p q : Page} (h : PrS us ss p q) (ok : PgOk p) : PgOk q := by
  refine ⟨by rw [h.ln]; exact ok.ln, fun v hv => ?_⟩
  obtain ⟨i, hi, e⟩ := List.mem_iff_getElem.mp hv
  have hp : p[i]? = some (p[i]'(by rw [← h.ln]; exact hi)) := List.getElem?_eq_getElem _
  obtain ⟨s', h1, h2⟩ := h.at_ i _ hp
  rw [List.getElem?_eq_getElem hi, e] at h1
  cases h1
  rcases h2 with h2 | h2
  · exact ok.kd v (h2 ▸ List.getElem_mem _)
  · cases h2.2
theorem set_ok {ps : List Page} {n : Nat} {p : Page} (h : ∀ q ∈ ps, PgOk q) (hp : PgOk p) : ∀ q ∈ ps.set n p, PgOk q := fun q hq => by
  rcases List.mem_or_eq_of_mem_set hq with z | z
  · exact h q z
  · rw [z]
    exact hp
def putPg (ps : List Page) (a b : Nat) (s : Slot) : List Page := if a = ps.length then ps ++ [setAt [] b s] else ps.set a (setAt (ps.getD a []) b s)
def sp_Table_keep (K : PySem.W.Frag) : Sp := s3 fun x y z H Q => ∃ t T a b s, x = .ref t ∧ TbAt K H t T ∧ Td K H y (plD a b) ∧ Td K H z (Slot.d s) ∧ a ≤ T.pages.length ∧ T.pages.length < 60 ∧ b < 8 ∧ (∀ v, s = .row v → okKd v.kd) ∧
  ∀ H', Chg [T.P, T.M] H H' → TbAt K H' t { T with pages := putPg T.pages a b s } → Q .non H'
theorem pl_open {K : PySem.W.Frag} {H : Hp} {x : V} {a b : Nat} (h : Td K H x (plD a b)) : ∃ p, x = .ref p ∧ TqAt K H p [.int (a : Int), .int (b : Int)] := by
  obtain ⟨p, xs, e, q, r⟩ := h.tup_eq
  cases r with | cons h1 r =>
  cases r with | cons h2 r =>
  cases r
  rw [h1.int_eq, h2.int_eq] at q
  exact ⟨p, e, q⟩
theorem ok_Table_keep {P : Program} {w : World} {K : PySem.W.Frag} {mg : Str → Option Value} {base : Heap} (T : Tx K mg) : Df P w K mg base (fAd K ("Table", some "keep")) 2 [] (sp_Table_keep K) := by
  obtain ⟨fd, F⟩ := fn_Table_keep T
  refine df3 F sc_Table_keep (fun _ _ _ _ _ _ us hl => match us, hl with | [_, _, _], _ => rfl) fun self place what H Q h => ?_
  intro cdv A outer s E hr
  have hu := hu_of hr
  refine ⟨_, (pss_cons (ps_asg (pv 1) (pg_tupK K (n := 2) (by rfl) (pgs_cons (pg_name (i := 3) (sc_Table_keep).nd rfl (.inl rfl)) (pgs_cons (pg_name (i := 4) (sc_Table_keep).nd rfl (.inl rfl)) pgs_nil))))
    (pss_cons (ps_if (pt_cmpR op_eq (pv 3) (pe_mt0 (ok_Table_many T) (T.m_Table_many) (hr.mono (by decide)) (pv 0)) (nomark _)) (pss_one (ps_expr (pe_bm PySem.F.plainAttrs_list PySem.F.slot_list_append PySem.F.type_list_append mt_append (pe_at (T.f_Table_own_pages) (pv 0)) (pa_cons (pe_tupdK K pa_nil) pa_nil)))) pss_nil)
    (pss_cons (ps_asg (pe_cf (ok_with_slot T) (hr.mono (by decide)) rfl (T.g_with_slot) (pa_cons (pe_ix (ix_listK K) (pe_at (T.f_Table_own_pages) (pv 0)) (pv 3) (fun _ _ => rfl)) (pa_cons (pv 4) (pa_cons (pv 2) pa_nil)))) (pg_sub (pe_at (T.f_Table_own_pages) (pv 0)) (pv 3) set_list))
    (pss_one (ps_expr (pe_dpop2 (pe_at (T.f_Table_own_marks) (pv 0)) (pv 3) pe_non ⟨rfl, rfl, rfl, rfl⟩)))))), ?_⟩
  obtain ⟨t, Tb, a, b, sl, ex, hT, hy, hz, ha, hl, hb, hok, q⟩ := h
  subst ex
  obtain ⟨pa, ey, hyq⟩ := pl_open hy
  subst ey
  obtain ⟨dx, e⟩ := hT.ob
  obtain ⟨vs, e1, e2⟩ := hT.pg
  have ne := tab_ne hT.nd
  have hvl := e2.length
  rw [List.length_map] at hvl
  refine ⟨_, rfl, pa, _, rfl, hyq.t, rfl, _, _, rfl, _, _, rfl, rfl, ?_⟩
  refine ⟨_, rfl, _, rfl, t, dx, _, rfl, e, _, rfl, t, Tb, rfl, hT, rfl, _, rfl, ?_⟩
  have key : ∃ H1 T1, T1 = { Tb with pages := if a = Tb.pages.length then Tb.pages ++ [[]] else Tb.pages } ∧ H1 = H := ⟨_, _, rfl, rfl⟩
  refine ite2 (fun hc => ?g1) (fun hc => ?g2)
  case' g1 =>
    have hal : a = Tb.pages.length := by
      have := of_decide_eq_true hc
      injection this with this
      omega
    refine ⟨_, rfl, t, dx, _, _, rfl, e, rfl, .inl ⟨rfl, _, SqL.of e1⟩, [], Tds.nil, Nat.zero_le _, fun v0 H0 sm0 hv0 => ?_⟩
    refine ⟨Tb.P, vs, v0, rfl, rfl, sm0 _ _ e1, small1000 (by omega), ?_⟩
    have hT1 : TbAt K (upd H0 Tb.P (.lst (vs ++ [v0]))) t { Tb with pages := Tb.pages ++ [[]] } := (hT.same sm0).setP (by rw [List.map_append]; exact (e2.same sm0).app (.cons hv0 .nil)) (fun p hp => by
      rcases List.mem_append.mp hp with z | z
      · exact hT.ok p z
      · rw [List.mem_singleton.mp z]
        exact ⟨Nat.zero_le _, nofun⟩) (by simp; omega) (by simp)
    have c1 : Chg [Tb.P, Tb.M] H (upd H0 Tb.P (.lst (vs ++ [v0]))) := (Chg.of sm0).trans (Chg.upd (sm0 _ _ e1) (by simp))
    have hput : ∀ s, putPg Tb.pages a b s = (Tb.pages ++ [[]]).set a (setAt [] b s) := fun s => by
      unfold putPg
      rw [if_pos hal, hal, List.set_append_right _ _ (Nat.le_refl _), Nat.sub_self]
      rfl
    have hget : (Tb.pages ++ [[]])[a]? = some ([] : Page) := by
      rw [hal, List.getElem?_append_right (Nat.le_refl _), Nat.sub_self]
      rfl
    have okp : PgOk ([] : Page) := ⟨Nat.zero_le _, nofun⟩
    generalize hps : Tb.pages ++ [[]] = ps at hT1 hput hget
    generalize hpp : ([] : Page) = p0 at hput hget okp
    generalize hH1 : upd H0 Tb.P (.lst (vs ++ [v0])) = H1 at hT1 c1
    clear e e1 e2 sm0 hv0 hps hpp hvl
  case' g2 =>
    have hal : a < Tb.pages.length := by
      have : ¬ a = Tb.pages.length := fun z => hc (by rw [z]; exact decide_eq_true rfl)
      omega
    obtain ⟨ps, hps⟩ : ∃ ps, ps = Tb.pages := ⟨_, rfl⟩
    have hT1 : TbAt K H t { Tb with pages := ps } := by rw [hps]; exact hT
    have c1 : Chg [Tb.P, Tb.M] H H := .refl H
    have hget : ps[a]? = some (Tb.pages.getD a []) := by
      rw [List.getD_eq_getElem?_getD, hps, List.getElem?_eq_getElem hal]
      rfl
    have hput : ∀ s, putPg Tb.pages a b s = ps.set a (setAt (Tb.pages.getD a []) b s) := fun s => by
      unfold putPg
      rw [if_neg (by omega), hps]
    have okp : PgOk (Tb.pages.getD a []) := hT1.ok _ (List.mem_of_getElem? hget)
    generalize hpp : Tb.pages.getD a [] = p0 at hput hget okp
    clear e e1 e2 hps hpp hvl
  all_goals
    obtain ⟨dx, e⟩ := hT1.ob
    obtain ⟨vs, e1, e2⟩ := hT1.pg
    have hvl := e2.length
    rw [List.length_map] at hvl
    obtain ⟨v, hv, hd⟩ := pages_get e2 hget
    have al : a < vs.length := (List.getElem?_eq_some_iff.mp hv).1
    refine ⟨_, rfl, t, dx, _, _, rfl, e, rfl, _, rfl, Tb.P, vs, (a : Int), v, rfl, rfl, SqL.of e1, atI_nat hv, _, rfl, _, rfl, _, _, _, rfl, p0, b, sl, hd, by have := okp.ln; omega, rfl, hz.keep c1.tk, fun v2 H2 sm2 hv2 => ?_⟩
    have hT2 := hT1.same sm2
    refine ⟨_, rfl, t, dx, _, _, rfl, sm2 _ _ e, rfl, _, rfl, Tb.P, vs, (a : Int), a, rfl, rfl, sm2 _ _ e1, ixN_nat al, ?_⟩
    have hT3 : TbAt K (upd H2 Tb.P (.lst (vs.set a v2))) t { Tb with pages := ps.set a (setAt p0 b sl) } := hT2.setP (by rw [List.map_set]; exact Tds.set hv2 a (e2.same sm2)) (set_ok hT1.ok (setAt_ok okp hb hok)) (by rw [List.length_set]; exact hT1.pl) (by rw [List.length_set]; exact Nat.le_refl _)
    have c3 := (c1.trans (Chg.of sm2)).trans (Chg.upd (o := .lst (vs.set a v2)) (sm2 _ _ e1) (by simp))
    obtain ⟨dx3, e3⟩ := hT3.ob
    obtain ⟨ks, e4, kn, kb⟩ := hT3.mrk
    rw [hput] at q
    refine ⟨_, rfl, t, dx3, _, _, rfl, e3, rfl, Tb.M, rfl, .inl ⟨_, .inl e4⟩, _, rfl, markK ks, .inl ((a : Nat) : Int), e4, rfl, fun _ _ => ?_, fun _ => q _ c3 hT3⟩
    rw [drop_mark]
    exact q _ (c3.trans (Chg.upd e4 (by simp))) (hT3.setM _ (kn.filter _) fun k hk => kb k (List.mem_filter.mp hk).1)
end Rc


set_option Elab.async false
set_option linter.all false
set_option maxRecDepth 100000
set_option maxHeartbeats 4000000
namespace Rc
open PySem PySem.Spec PyProof.Rows L2 He
def endV (v : Ver) (pt cm : Nat) (nx : Option (Nat × Nat)) : Ver := { v with en := some (pt, cm), nx := nx }
theorem setAt_in {p : Page} {b : Nat} {s t : Slot} (h : p[b]? = some t) : setAt p b s = p.set b s := setAt_lt s (List.getElem?_eq_some_iff.mp h).1
def sp_Table_end (K : PySem.W.Frag) : Sp := s5 fun x y z u w H Q => ∃ t T a b p v pt cm nx, x = .ref t ∧ TbAt K H t T ∧ Td K H y (plD a b) ∧ T.pages[a]? = some p ∧ p[b]? = some (Slot.row v) ∧ b < 8 ∧ T.pages.length < 60 ∧ z = .int ((pt : Nat) : Int) ∧ u = .int ((cm : Nat) : Int) ∧ Td K H w (placeO nx) ∧
  ∀ H', Chg [T.P, T.M] H H' → TbAt K H' t { T with pages := putPg T.pages a b (.row (endV v pt cm nx)) } → Q .non H'
theorem ok_Table_end {P : Program} {w : World} {K : PySem.W.Frag} {mg : Str → Option Value} {base : Heap} (T : Tx K mg) : Df P w K mg base (fAd K ("Table", some "end")) 3 [] (sp_Table_end K) := by
  obtain ⟨fd, F⟩ := fn_Table_end T
  refine df5 F sc_Table_end (fun _ _ _ _ _ _ us hl => match us, hl with | [_, _, _, _, _], _ => rfl) fun self place part command following H Q h => ?_
  intro cdv A outer s E hr
  have hu := hu_of hr
  refine ⟨_, (pss_cons (ps_set (i := 5) (sc_Table_end).nd rfl (.inl rfl) (pe_mt (ok_Table_slot T) (T.m_Table_slot) (hr.mono (by decide)) (pv 0) (pa_cons (pv 1) pa_nil)))
    (pss_one (ps_expr (pe_mt (ok_Table_keep T) (T.m_Table_keep) (hr.mono (by decide)) (pv 0) (pa_cons (pv 1) (pa_cons (pe_tupdK K (pa_starK K (pe_slice (sl_dK K) (pv 5) po_none (po_some (pe_gi rfl (T.g_ENDER_table)))) (pa_cons (pv 2) (pa_cons (pv 3) (pa_cons (pv 4) (pa_starK K (pe_slice (sl_dK K) (pv 5) (po_some (pe_op op_add (pe_gi rfl (T.g_NEXT_table)) pe_int)) po_none) pa_nil)))))) pa_nil)))))), ?_⟩
  obtain ⟨t, Tb, a, b, p, v, pt, cm, nx, ex, hT, hy, hp, hv, hb, hl, ez, eu, hw, q⟩ := h
  subst ex ez eu
  obtain ⟨dx, e⟩ := hT.ob
  refine ⟨_, rfl, t, dx, _, rfl, e, _, rfl, _, _, rfl, t, Tb, a, b, p, .row v, rfl, hy, hT, hp, hv, fun old hold => ?_⟩
  refine ⟨_, rfl, t, dx, _, rfl, e, _, rfl, _, rfl, 3, rfl, _, hold, fun v1 H1 sm1 h1 => ?_⟩
  have e1 : cutD [PyData.str "row", .int (v.mkr : Int), .int (v.mde : Int), numO (v.en.map (·.1)), numO (v.en.map (·.2)), placeO v.nx, .bool v.hot, rowD v.id v.kd] none (some ((3 : Nat) : Int)) = [PyData.str "row", .int (v.mkr : Int), .int (v.mde : Int)] := cutD_to
  have h1 : Td K H1 v1 (.tuple [PyData.str "row", .int (v.mkr : Int), .int (v.mde : Int)]) := e1 ▸ h1
  obtain ⟨a1, xs1, ex1, hq1, hr1⟩ := h1.tup_eq
  subst ex1
  refine ⟨a1, xs1, rfl, .inl hq1.t, _, rfl, _, rfl, _, rfl, _, rfl, _, _, rfl, rfl, _, rfl, _, hold.same sm1, fun v2 H2 sm2 h2 => ?_⟩
  have e2 : cutD [PyData.str "row", .int (v.mkr : Int), .int (v.mde : Int), numO (v.en.map (·.1)), numO (v.en.map (·.2)), placeO v.nx, .bool v.hot, rowD v.id v.kd] (some ((6 : Nat) : Int)) none = [PyData.bool v.hot, rowD v.id v.kd] := cutD_from
  have h2 : Td K H2 v2 (.tuple [PyData.bool v.hot, rowD v.id v.kd]) := e2 ▸ h2
  obtain ⟨a2, xs2, ex2, hq2, hr3⟩ := h2.tup_eq
  subst ex2
  have sm12 := sm1.trans sm2
  have l1 := hr1.length
  have l2 := hr3.length
  refine ⟨a2, xs2, rfl, .inl hq2.t, _, (hr1.same sm2).app (.cons (.int _) (.cons (.int _) (.cons (hw.same sm12) (hr3.app .nil)))), ?_, fun v3 H3 sm3 h3 => ?_⟩
  · simp only [List.length_append, List.length_cons, List.length_nil, l1, l2]
    exact Nat.le_of_ble_eq_true rfl
  have sm := sm12.trans sm3
  refine ⟨_, _, _, rfl, t, Tb, a, b, .row (endV v pt cm nx), rfl, hT.same sm, hy.same sm, h3, ?_, hl, hb, fun u hu => ?_, fun H4 c4 h4 => q H4 ((Chg.of sm).trans c4) h4⟩
  · exact Nat.le_of_lt (List.getElem?_eq_some_iff.mp hp).1
  · injection hu with hu
    rw [← hu]
    exact (hT.ok p (List.mem_of_getElem? hp)).kd v (List.mem_of_getElem? hv)
def sp_Table_look (K : PySem.W.Frag) : Sp := s4 fun x y z u H Q => ∃ t T n us ss a b, x = .ref t ∧ TbAt K H t T ∧ y = .int ((n : Nat) : Int) ∧ n < T.pages.length ∧ z = .ref a ∧ H a = some (.lst (IL us)) ∧ u = .ref b ∧ H b = some (.lst (IL ss)) ∧
  ∀ H', Chg [T.M] H H' → TbAt K H' t T → Q .non H'
theorem ok_Table_look {P : Program} {w : World} {K : PySem.W.Frag} {mg : Str → Option Value} {base : Heap} (T : Tx K mg) : Df P w K mg base (fAd K ("Table", some "look")) 3 [] (sp_Table_look K) := by
  obtain ⟨fd, F⟩ := fn_Table_look T
  refine df4 F sc_Table_look (fun _ _ _ _ _ _ us hl => match us, hl with | [_, _, _, _], _ => rfl) fun self number undone settled H Q h => ?_
  intro cdv A outer s E hr
  have hu := hu_of hr
  refine ⟨_, (pss_one (ps_if (pt_val (pe_cf (ok_is_clear T) (hr.mono (by decide)) rfl (T.g_is_clear) (pa_cons (pe_ix (ix_listK K) (pe_at (T.f_Table_own_pages) (pv 0)) (pv 1) (fun _ _ => rfl)) (pa_cons (pv 2) (pa_cons (pv 3) pa_nil))))) (pss_one (ps_dput hu (pe_at (T.f_Table_own_marks) (pv 0)) (pv 1) pe_bl rfl)) pss_nil)), ?_⟩
  obtain ⟨t, Tb, n, us, ss, a, b, ex, hT, ey, hn, ez, ha, eu, hb, q⟩ := h
  subst ex ey ez eu
  obtain ⟨dx, e⟩ := hT.ob
  obtain ⟨vs, e1, e2⟩ := hT.pg
  have hp : Tb.pages[n]? = some Tb.pages[n] := List.getElem?_eq_getElem hn
  obtain ⟨v, hv, hd⟩ := pages_get e2 hp
  have ok := hT.ok _ (List.mem_of_getElem? hp)
  refine ⟨_, rfl, t, dx, _, _, rfl, e, rfl, _, rfl, Tb.P, vs, (n : Int), v, rfl, rfl, SqL.of e1, atI_nat hv, _, rfl, _, rfl, _, _, _, rfl, _, a, b, us, ss, hd, by have := ok.ln; omega, rfl, ha, rfl, hb, fun c H1 sm1 => ⟨_, rfl, ?_⟩⟩
  have hT1 := hT.same sm1
  refine ite2 (fun _ => ?_) fun _ => q H1 (.of sm1) hT1
  obtain ⟨ks, e3, kn, kb⟩ := hT1.mrk
  have kl : ks.length ≤ Tb.pages.length := nodup_le kn kb
  have pl := hT.pl
  refine ⟨_, rfl, t, dx, _, _, rfl, sm1 _ _ e, rfl, _, rfl, Tb.M, _, rfl, DPut.k (k := .inl ((n : Nat) : Int)) e3 (small1000 (by unfold markK; rw [List.length_map]; omega)), ?_⟩
  rw [put_mark]
  refine q _ ((Chg.of sm1).trans (Chg.upd e3 (by simp))) (hT1.setM _ ?_ ?_)
  · split
    · exact kn
    · rename_i h
      rw [List.nodup_append]
      exact ⟨kn, List.nodup_cons.mpr ⟨nofun, List.nodup_nil⟩, fun a ha b hb => by
        rw [List.mem_singleton.mp hb]
        exact fun z => h (z ▸ ha)⟩
  · intro k hk
    split at hk
    · exact kb k hk
    · rcases List.mem_append.mp hk with z | z
      · exact kb k z
      · rw [List.mem_singleton.mp z]
        exact hn
def sp_Table_prune (K : PySem.W.Frag) : Sp := s4 fun x y z u H Q => ∃ t T n p us ss a b, x = .ref t ∧ TbAt K H t T ∧ y = .int ((n : Nat) : Int) ∧ T.pages[n]? = some p ∧ z = .ref a ∧ H a = some (.lst (IL us)) ∧ u = .ref b ∧ H b = some (.lst (IL ss)) ∧ a ∉ T.fp t ∧ b ∉ T.fp t ∧
  ∀ r q H', Chg [T.P, T.M] H H' → TbAt K H' t { T with pages := T.pages.set n q } → PrS us ss p q → Q (.ref r) H'
theorem ok_Table_prune {P : Program} {w : World} {K : PySem.W.Frag} {mg : Str → Option Value} {base : Heap} (T : Tx K mg) : Df P w K mg base (fAd K ("Table", some "prune")) 7 [] (sp_Table_prune K) := by
  obtain ⟨fd, F⟩ := fn_Table_prune T
  refine df4 F sc_Table_prune (fun _ _ _ _ _ _ us hl => match us, hl with | [_, _, _, _], _ => rfl) fun self number undone settled H Q h => ?_
  intro cdv A outer s E hr
  have hu := hu_of hr
  refine ⟨_, (pss_cons (ps_asg (pe_cf (ok_pruned T) (hr.mono (by decide)) rfl (T.g_pruned) (pa_cons (pe_ix (ix_listK K) (pe_at (T.f_Table_own_pages) (pv 0)) (pv 1) (fun _ _ => rfl)) (pa_cons (pv 1) (pa_cons (pv 2) (pa_cons (pv 3) pa_nil))))) (pg_tupK K (n := 3) (by rfl) (pgs_cons (pg_sub (pe_at (T.f_Table_own_pages) (pv 0)) (pv 1) set_list) (pgs_cons (pg_name (i := 4) (sc_Table_prune).nd rfl (.inl rfl)) (pgs_cons (pg_name (i := 5) (sc_Table_prune).nd rfl (.inl rfl)) pgs_nil)))))
    (pss_cons (ps_expr (pe_mt (ok_Table_look T) (T.m_Table_look) (hr.mono (by decide)) (pv 0) (pa_cons (pv 1) (pa_cons (pv 2) (pa_cons (pv 3) pa_nil)))))
    (pss_one (ps_ret (pe_tup (pa_cons (pv 4) (pa_cons (pv 5) pa_nil))))))), ?_⟩
  obtain ⟨t, Tb, n, p, us, ss, a, b, ex, hT, ey, hp, ez, ha, eu, hb, na, nb, q⟩ := h
  subst ex ey ez eu
  obtain ⟨dx, e⟩ := hT.ob
  obtain ⟨vs, e1, e2⟩ := hT.pg
  obtain ⟨v, hv, hd⟩ := pages_get e2 hp
  have ok := hT.ok _ (List.mem_of_getElem? hp)
  have hn := (List.getElem?_eq_some_iff.mp hp).1
  have vn := (List.getElem?_eq_some_iff.mp hv).1
  refine ⟨_, rfl, t, dx, _, _, rfl, e, rfl, _, rfl, Tb.P, vs, (n : Int), v, rfl, rfl, SqL.of e1, atI_nat hv, _, rfl, _, rfl, _, rfl, _, _, _, _, rfl, p, n, a, b, us, ss, hd, ok, rfl, rfl, ha, rfl, hb, fun tt w q1 f d H1 sm1 htt hw hpr => ?_⟩
  refine ⟨tt, _, rfl, .inl (.inl htt), rfl, _, _, rfl, _, rfl, t, dx, _, _, rfl, sm1 _ _ e, rfl, _, rfl, Tb.P, vs, (n : Int), n, rfl, rfl, sm1 _ _ e1, ixN_nat vn, ?_⟩
  have hT2 : TbAt K (upd H1 Tb.P (.lst (vs.set n w))) t { Tb with pages := Tb.pages.set n q1 } := (hT.same sm1).setP (by rw [List.map_set]; exact Tds.set hw n (e2.same sm1)) (set_ok hT.ok (hpr.ok ok)) (by rw [List.length_set]; exact hT.pl) (by rw [List.length_set]; exact Nat.le_refl _)
  have c2 : Chg [Tb.P, Tb.M] H (upd H1 Tb.P (.lst (vs.set n w))) := (Chg.of sm1).trans (Chg.upd (sm1 _ _ e1) (by simp))
  have aP : a ∉ [Tb.P, Tb.M] := fun z => na (by simp only [Tab.fp, List.mem_cons, List.not_mem_nil, or_false] at z ⊢; exact .inr z)
  have bP : b ∉ [Tb.P, Tb.M] := fun z => nb (by simp only [Tab.fp, List.mem_cons, List.not_mem_nil, or_false] at z ⊢; exact .inr z)
  obtain ⟨dx2, e3⟩ := hT2.ob
  refine ⟨_, _, rfl, _, _, rfl, rfl, ?_⟩
  refine ⟨_, rfl, t, dx2, _, rfl, e3, _, rfl, _, rfl, _, rfl, _, _, _, _, rfl, t, _, n, us, ss, a, b, rfl, hT2, rfl, by show n < (Tb.pages.set n q1).length; rw [List.length_set]; exact hn, rfl, c2.keep _ _ ha aP, rfl, c2.keep _ _ hb bP, fun H4 c4 h4 => ?_⟩
  refine ⟨_, rfl, _, rfl, Nat.le_of_ble_eq_true rfl, fun r nr => ?_⟩
  have s5 := same_new (o := .tup [.ref f, .ref d]) nr
  exact q r q1 _ ((c2.trans (c4.mono (by simp))).trans (Chg.of s5)) (h4.same s5) hpr
/-- what is freed was dead -/
structure PrF (p q : Page) : Prop where
  ln : q.length = p.length
  at_ : ∀ (i : Nat) (s : Slot), p[i]? = some s → ∃ s' : Slot, q[i]? = some s' ∧ (s' = s ∨ (s = .dead ∧ s' = .un))
theorem PrF.refl (p : Page) : PrF p p := ⟨rfl, fun i s h => ⟨s, h, .inl rfl⟩⟩
theorem PrF.set {p q : Page} (h : PrF p q) {n : Nat} (hp : p[n]? = some .dead) : PrF p (q.set n .un) := by
  refine ⟨by rw [List.length_set]; exact h.ln, fun i t hi => ?_⟩
  by_cases e : n = i
  · subst e
    rw [hp] at hi
    cases hi
    have hl : n < q.length := by
      rw [h.ln]
      exact (List.getElem?_eq_some_iff.mp hp).1
    exact ⟨.un, by rw [List.getElem?_set_self hl], .inr ⟨rfl, rfl⟩⟩
  · rw [List.getElem?_set_ne e]
    exact h.at_ i t hi
theorem PrF.ok {p q : Page} (h : PrF p q) (ok : PgOk p) : PgOk q := by
  refine ⟨by rw [h.ln]; exact ok.ln, fun v hv => ?_⟩
  obtain ⟨i, hi, e⟩ := List.mem_iff_getElem.mp hv
  have hp : p[i]? = some (p[i]'(by rw [← h.ln]; exact hi)) := List.getElem?_eq_getElem _
  obtain ⟨s', h1, h2⟩ := h.at_ i _ hp
  rw [List.getElem?_eq_getElem hi, e] at h1
  cases h1
  rcases h2 with h2 | h2
  · exact ok.kd v (h2 ▸ List.getElem_mem _)
  · cases h2.2
def sp_Table_free (K : PySem.W.Frag) : Sp := s5 fun x y z u w H Q => ∃ t T n p ms us ss c a b, x = .ref t ∧ TbAt K H t T ∧ y = .int ((n : Nat) : Int) ∧ T.pages[n]? = some p ∧ z = .ref c ∧ H c = some (.lst (IL ms)) ∧ c ∉ T.fp t ∧ (∀ m ∈ ms, p[m]? = some .dead) ∧ u = .ref a ∧ H a = some (.lst (IL us)) ∧ w = .ref b ∧ H b = some (.lst (IL ss)) ∧ a ∉ T.fp t ∧ b ∉ T.fp t ∧
  ∀ q H', Chg [T.P, T.M] H H' → TbAt K H' t { T with pages := T.pages.set n q } → PrF p q → Q .non H'
theorem ok_Table_free {P : Program} {w : World} {K : PySem.W.Frag} {mg : Str → Option Value} {base : Heap} (T : Tx K mg) : Df P w K mg base (fAd K ("Table", some "free")) 4 [] (sp_Table_free K) := by
  obtain ⟨fd, F⟩ := fn_Table_free T
  refine df5 F sc_Table_free (fun _ _ _ _ _ _ us hl => match us, hl with | [_, _, _, _, _], _ => rfl) fun self number slots undone settled H Q h => ?_
  intro cdv A outer s E hr
  have hu := hu_of hr
  refine ⟨_, (pss_cons (ps_for PassesOwn.never rfl (pi_listK K (pv 2)) (pg_name (i := 5) (sc_Table_free).nd rfl (.inl rfl))
    (pss_one (ps_asg (pe_cf (ok_with_slot T) (hr.mono (by decide)) rfl (T.g_with_slot) (pa_cons (pe_ix (ix_listK K) (pe_at (T.f_Table_own_pages) (pv 0)) (pv 1) (fun _ _ => rfl)) (pa_cons (pv 5) (pa_cons (pe_gr rfl (T.g_UNUSED_table)) pa_nil)))) (pg_sub (pe_at (T.f_Table_own_pages) (pv 0)) (pv 1) set_list))))
    (pss_one (ps_expr (pe_mt (ok_Table_look T) (T.m_Table_look) (hr.mono (by decide)) (pv 0) (pa_cons (pv 1) (pa_cons (pv 3) (pa_cons (pv 4) pa_nil))))))), ?_⟩
  obtain ⟨t, Tb, n, p, ms, us, ss, c, a, b, ex, hT, ey, hp, ez, hc, nc, hms, eu, ha, ew, hb, na, nb, q⟩ := h
  subst ex ey ez eu ew
  have hn := (List.getElem?_eq_some_iff.mp hp).1
  have fpP : ∀ {d : Addr}, d ∉ Tb.fp t → d ∉ [Tb.P, Tb.M] := fun {d} h z => h (by simp only [Tab.fp, List.mem_cons, List.not_mem_nil, or_false] at z ⊢; exact .inr z)
  have ok := hT.ok _ (List.mem_of_getElem? hp)
  refine ⟨_, rfl, c, rfl, ⟨_, SqL.of hc⟩, ?_⟩
  refine for_list (K := K) (a := c) (xs := IL ms) (fun i σ' H' => ∃ u q1, σ' = [some (.ref t), some (.int (n : Int)), some (.ref c), some (.ref a), some (.ref b), u] ∧ Chg [Tb.P, Tb.M] H H' ∧ TbAt K H' t { Tb with pages := Tb.pages.set n q1 } ∧ PrF p q1)
    ⟨_, p, rfl, .refl H, by
      have e : Tb.pages.set n p = Tb.pages := by
        rw [List.getElem?_eq_getElem hn] at hp
        cases hp
        exact List.set_getElem_self hn
      rw [e]
      exact hT, .refl p⟩ (fun i σ' H' _ ⟨_, _, _, c1, _⟩ => SqL.of (c1.keep _ _ hc (fpP nc))) ?_ ?_
  · rintro i x σ' H1 hi ⟨u, q1, rfl, c1, h1, hpr⟩
    obtain ⟨m, hm, em⟩ := IL_get hi
    subst em
    have hd := hms m (List.mem_of_getElem? hm)
    obtain ⟨dx, e⟩ := h1.ob
    obtain ⟨vs, e1, e2⟩ := h1.pg
    have hq1 : (Tb.pages.set n q1)[n]? = some q1 := List.getElem?_set_self hn
    obtain ⟨v, hv, hd2⟩ := pages_get e2 hq1
    have vn := (List.getElem?_eq_some_iff.mp hv).1
    have okq := hpr.ok ok
    refine ⟨_, rfl, t, dx, _, _, rfl, e, rfl, _, rfl, Tb.P, vs, (n : Int), v, rfl, rfl, SqL.of e1, atI_nat hv, _, rfl, _, _, _, rfl, q1, m, .un, hd2, by have := okq.ln; omega, rfl, unu_td T H1, fun v2 H2 sm2 hv2 => ?_⟩
    refine ⟨_, rfl, t, dx, _, _, rfl, sm2 _ _ e, rfl, _, rfl, Tb.P, vs, (n : Int), n, rfl, rfl, sm2 _ _ e1, ixN_nat vn, ?_⟩
    have ml : m < q1.length := by
      rw [hpr.ln]
      exact (List.getElem?_eq_some_iff.mp hd).1
    rw [setAt_lt _ ml] at hv2
    have h3 := (h1.same sm2).setP (ps := Tb.pages.set n (q1.set m .un)) (vs := vs.set n v2) (by
      have : (Tb.pages.set n (q1.set m .un)).map pgD = ((Tb.pages.set n q1).map pgD).set n (pgD (q1.set m .un)) := by
        rw [← List.map_set, List.set_set]
      rw [this]
      exact Tds.set hv2 n (e2.same sm2)) (set_ok hT.ok ((hpr.set hd).ok ok)) (by rw [List.length_set]; exact hT.pl) (by show (Tb.pages.set n q1).length ≤ _; rw [List.length_set, List.length_set]; exact Nat.le_refl _)
    exact ⟨_, q1.set m .un, rfl, (c1.trans (Chg.of sm2)).trans (Chg.upd (sm2 _ _ e1) (by simp)), h3, hpr.set hd⟩
  · rintro σ' H1 ⟨u, q1, rfl, c1, h1, hpr⟩
    obtain ⟨dx, e⟩ := h1.ob
    refine ⟨_, rfl, t, dx, _, rfl, e, _, rfl, _, rfl, _, rfl, _, _, _, _, rfl, t, _, n, us, ss, a, b, rfl, h1, rfl, by show n < (Tb.pages.set n q1).length; rw [List.length_set]; exact hn, rfl, c1.keep _ _ ha (fpP na), rfl, c1.keep _ _ hb (fpP nb), fun H4 c4 h4 => ?_⟩
    exact q q1 H4 (c1.trans (c4.mono (by simp))) h4 hpr
end Rc


set_option Elab.async false
set_option linter.all false
set_option maxRecDepth 100000
set_option maxHeartbeats 4000000
namespace Rc
open PySem PySem.Spec PyProof.Rows L2 He
/-- where a version may be put: a free slot of a page, or a new page while each page has three that are used -/
def OkAt (ps : List Page) (n s : Nat) : Prop := (∃ p, ps[n]? = some p ∧ FreeAt p s ∧ s < 8) ∨ (n = ps.length ∧ s = 0 ∧ ∀ p ∈ ps, 3 ≤ usedN p)
def sp_Table_place_for (K : PySem.W.Frag) : Sp := s3 fun x y z H Q => ∃ t T id kd ps, x = .ref t ∧ TbAt K H t T ∧ Td K H y (rowD id kd) ∧ okKd kd ∧
  ((z = .non ∧ ps = T.pages) ∨ ∃ a q, Td K H z (.tuple [.int ((a : Nat) : Int), pgD q]) ∧ a < T.pages.length ∧ PgOk q ∧ ps = T.pages.set a q) ∧
  ∀ v n s H', Same H H' → Td K H' v (plD n s) → OkAt ps n s → Q v H'
theorem okf_Table_place_for {P : Program} {w : World} {K : PySem.W.Frag} {mg : Str → Option Value} {base : Heap} (T : Tx K mg) : ∃ fd, FnOk P w K mg base CX0 4 (fAd K ("Table", some "place_for")) fd ["self", "cells", "instead"] (sp_Table_place_for K) ∧ FunD K "place_for" "Table.place_for" (defArgs t_Table_place_for) (defBody t_Table_place_for) (defScope t_Table_place_for) [.non] [] (fAd K ("Table", some "place_for")) fd := by
  obtain ⟨fd, F⟩ := fn_Table_place_for T
  refine ⟨fd, okn3 F sc_Table_place_for fun self cells instead H Q h => ?_, F⟩
  intro cdv A outer s E hr
  have hu := hu_of hr
  refine ⟨_, (pss_cons (ps_set (i := 3) (sc_Table_place_for).nd rfl (.inl rfl) (pe_callTy (call_list_ofK K) (by rfl) (T.b_list) (by decide +kernel) (pa_cons (pe_at (T.f_Table_own_pages) (pv 0)) pa_nil)))
    (pss_cons (ps_if (pt_cmp (pc_notN (pv 2)) rfl) (pss_one (ps_asg (pe_ixdK K (pv 2) pe_int) (pg_sub (pv 3) (pe_ixdK K (pv 2) pe_int) set_list))) pss_nil)
    (pss_cons (ps_for PassesOwn.never rfl (pi_enumK K (by rfl) (T.b_enumerate) (pa_cons (pv 3) pa_nil)) (pg_tupK K (n := 2) (by rfl) (pgs_cons (pg_name (i := 4) (sc_Table_place_for).nd rfl (.inl rfl)) (pgs_cons (pg_name (i := 5) (sc_Table_place_for).nd rfl (.inl rfl)) pgs_nil)))
    (pss_one (ps_if (pt_val (pe_cf (ok_fits T) (hr.mono (by decide)) rfl (T.g_fits) (pa_cons (pv 5) (pa_cons (pv 1) pa_nil)))) (pss_one (ps_ret (pe_tupdK K (pa_cons (pv 4) (pa_cons (pe_cf (ok_free_slot T) (hr.mono (by decide)) rfl (T.g_free_slot) (pa_cons (pv 5) pa_nil)) pa_nil))))) pss_nil)))
    (pss_one (ps_ret (pe_tupdK K (pa_cons (pe_callB (call_len_seqK K) (by rfl) (T.b_len) (by decide +kernel) (pa_cons (pv 3) pa_nil)) (pa_cons pe_int pa_nil)))))))), ?_⟩
  obtain ⟨t, Tb, id, kd, ps, ex, hT, hy, hk, hz, q⟩ := h
  subst ex
  obtain ⟨dx, e⟩ := hT.ob
  obtain ⟨vs, e1, e2⟩ := hT.pg
  have hvl := e2.length
  rw [List.length_map] at hvl
  have plen := hT.pl
  refine ⟨_, rfl, t, dx, _, _, rfl, e, rfl, Tb.P, vs, rfl, .inl (SqL.of e1), fun L nL => ?_⟩
  have s0 : Same H (upd H L (.lst vs)) := same_new nL
  rcases hz with ⟨ez, eps⟩ | ⟨a, qq, hz, ha, okq, eps⟩
  case' inl =>
    refine ⟨_, rfl, _, rfl, ite2 (fun h => absurd h (by simp [ez])) (fun _ => ?_)⟩
    have hL : upd H L (.lst vs) L = some (.lst vs) := upd_same
    have td : Tds K (upd H L (.lst vs)) vs (ps.map pgD) := by rw [eps]; exact e2.same s0
    have okp : ∀ p ∈ ps, PgOk p := by rw [eps]; exact hT.ok
    have psl : ps.length ≤ 60 := by rw [eps]; exact plen
    have sm := s0
    generalize hH1 : upd H L (.lst vs) = H1 at hL td sm
  case' inr =>
    have ez : instead ≠ .non := by
      obtain ⟨_, _, e, _⟩ := hz.tup_eq
      rw [e]
      exact fun z => nomatch z
    refine ⟨_, rfl, _, rfl, ite2 (fun _ => ?_) (fun h => absurd (by simp [ez]) h)⟩
    refine ⟨_, rfl, _, 1, _, hz.same s0, rfl, rfl, fun v1 h1 => ⟨_, rfl, _, rfl, _, 0, _, hz.same s0, rfl, rfl, fun v0 h0 => ?_⟩⟩
    rw [h0.int_eq]
    refine ⟨L, vs, (a : Int), a, rfl, rfl, upd_same, ixN_nat (by rw [hvl]; exact ha), ?_⟩
    have tk := tk_lst (o := .lst (vs.set a v1)) (upd_same (H := H) (a := L) (o := .lst vs))
    have hL : upd (upd H L (.lst vs)) L (.lst (vs.set a v1)) L = some (.lst (vs.set a v1)) := upd_same
    have td : Tds K (upd (upd H L (.lst vs)) L (.lst (vs.set a v1))) (vs.set a v1) (ps.map pgD) := by
      rw [eps, List.map_set]
      exact Tds.set (h1.keep tk) a ((e2.same s0).keep tk)
    have okp : ∀ p ∈ ps, PgOk p := by rw [eps]; exact set_ok hT.ok okq
    have psl : ps.length ≤ 60 := by rw [eps, List.length_set]; exact plen
    have sm : Same H (upd (upd H L (.lst vs)) L (.lst (vs.set a v1))) := fun b o eb => by
      rw [upd_ne (ne_of_none eb nL)]
      exact s0 _ _ eb
    generalize hH1 : upd (upd H L (.lst vs)) L (.lst (vs.set a v1)) = H1 at hL td sm
    generalize hvs : vs.set a v1 = vs at hL td
  all_goals
    have hl2 := td.length
    rw [List.length_map] at hl2
    refine ⟨_, rfl, L, _, rfl, SqL.of hL, ?_⟩
    refine for_en (K := K) (a := L) (xs := vs) (fun i σ' H' => ∃ u4 u5, σ' = [some (.ref t), some cells, some instead, some (.ref L), u4, u5] ∧ Same H1 H' ∧ ∀ p ∈ ps.take i, 3 ≤ usedN p) ⟨_, _, rfl, .refl _, by simp⟩ (fun i σ' H' _ ⟨_, _, _, s2, _⟩ => SqL.of (s2 _ _ hL)) ?_ ?_
    · rintro i x σ' H2 U hi ⟨u4, u5, rfl, s2, hus⟩ nU
      have il : i < vs.length := (List.getElem?_eq_some_iff.mp hi).1
      obtain ⟨d, hd1, hxd⟩ := td.get2 hi
      rw [List.getElem?_map] at hd1
      obtain ⟨p, hp, es⟩ := Option.map_eq_some_iff.mp hd1
      subst es
      have sU : Same H2 (upd H2 U (.tup [.int (i : Nat), x])) := same_new nU
      have s3 := s2.trans sU
      refine ⟨U, _, rfl, .inl (.inl upd_same), rfl, _, _, rfl, _, _, rfl, rfl, ?_⟩
      refine ⟨_, rfl, _, rfl, _, _, rfl, p, id, kd, hxd.same s3, okp p (List.mem_of_getElem? hp), hy.same (sm.trans s3), hk, fun b H3 sm3 hb1 hb2 => ⟨_, rfl, ?_⟩⟩
      cases b with
      | true =>
        refine iteT ⟨_, rfl, _, rfl, _, rfl, p, hxd.same (s3.trans sm3), fun n H4 sm4 hf => ?_⟩
        refine ⟨_, Tds.cons (.int _) (.cons (.int _) .nil), Nat.le_of_ble_eq_true rfl, fun v5 H5 sm5 hv5 => ?_⟩
        exact q v5 i n H5 ((((sm.trans s3).trans sm3).trans sm4).trans sm5) hv5 (.inl ⟨p, hp, hf, hb1 rfl n hf⟩)
      | false =>
        refine iteF ⟨_, _, rfl, s3.trans sm3, fun p' hp' => ?_⟩
        rw [List.take_succ, hp] at hp'
        rcases List.mem_append.mp hp' with z | z
        · exact hus p' z
        · have : p' = p := by simpa using z
          rw [this]
          exact hb2 rfl
    · rintro σ' H2 ⟨u4, u5, rfl, s2, hus⟩
      rw [hl2, List.take_length] at hus
      refine ⟨_, rfl, L, _, rfl, .inl (SqL.of (s2 _ _ hL)), ?_⟩
      rw [hl2]
      refine ⟨_, Tds.cons (.int _) (.cons (.int ((0 : Nat) : Int)) .nil), Nat.le_of_ble_eq_true rfl, fun v5 H5 sm5 hv5 => ?_⟩
      exact q v5 ps.length 0 H5 ((sm.trans s2).trans sm5) hv5 (.inr ⟨rfl, rfl, hus⟩)
theorem ok_Table_place_for {P : Program} {w : World} {K : PySem.W.Frag} {mg : Str → Option Value} {base : Heap} (T : Tx K mg) : Df P w K mg base (fAd K ("Table", some "place_for")) 4 [] (sp_Table_place_for K) :=
  df_dfl (okf_Table_place_for T) 3 1 (List.cons_ne_nil _ _) rfl fun T kV doc pm an cdv ct us its hu hi => match us, hu, its, hi with | [_, _, _], _, [_], _ => ⟨_, rfl, rfl⟩
theorem ok_Table_place_for_1 {P : Program} {w : World} {K : PySem.W.Frag} {mg : Str → Option Value} {base : Heap} (T : Tx K mg) : Df P w K mg base (fAd K ("Table", some "place_for")) 4 [.non] (sp_Table_place_for K) :=
  df_dfl (okf_Table_place_for T) 2 0 (List.cons_ne_nil _ _) rfl fun T kV doc pm an cdv ct us its hu hi => match us, hu, its, hi with | [_, _], _, [_], _ => ⟨_, rfl, rfl⟩
def sp_Table_placing (K : PySem.W.Frag) : Sp := s6 fun x y z u w e H Q => ∃ t T a b p id kd k us ss c d, x = .ref t ∧ TbAt K H t T ∧ Td K H y (plD a b) ∧ T.pages[a]? = some p ∧ Td K H z (rowD id kd) ∧ okKd kd ∧ u = .bl k ∧ w = .ref c ∧ H c = some (.lst (IL us)) ∧ e = .ref d ∧ H d = some (.lst (IL ss)) ∧
  ∀ v n s only lacks q H', Same H H' → Td K H' v (.tuple [plD n s, .bool only, .bool lacks]) → PrS us ss p q → (lacks = false → q = p) → OkAt (T.pages.set a q) n s → Q v H'
theorem ok_Table_placing {P : Program} {w : World} {K : PySem.W.Frag} {mg : Str → Option Value} {base : Heap} (T : Tx K mg) : Df P w K mg base (fAd K ("Table", some "placing")) 7 [] (sp_Table_placing K) := by
  obtain ⟨fd, F⟩ := fn_Table_placing T
  refine df6 F sc_Table_placing (fun _ _ _ _ _ _ us hl => match us, hl with | [_, _, _, _, _, _], _ => rfl) fun self place cells keeps_keys undone settled H Q h => ?_
  intro cdv A outer s E hr
  have hu := hu_of hr
  refine ⟨_, (pss_cons (ps_par (i := 7) (j := 8) (by rfl) (sc_Table_placing).nd rfl rfl (by decide) rfl rfl (pa_cons (pe_ixdK K (pv 1) pe_int) (pa_cons (pe_not (pe_cf (ok_fits T) (hr.mono (by decide)) rfl (T.g_fits) (pa_cons (pe_mt (ok_Table_page T) (T.m_Table_page) (hr.mono (by decide)) (pv 0) (pa_cons (pe_ixdK K (pv 1) pe_int) pa_nil)) (pa_cons (pv 2) pa_nil)))) pa_nil)) (by rfl))
    (pss_cons (ps_set (i := 6) (sc_Table_placing).nd rfl (.inl rfl) (pe_ifExp (pt_val (pv 8)) (pe_ix (ix_tupK K) (pe_cf (ok_pruned T) (hr.mono (by decide)) rfl (T.g_pruned) (pa_cons (pe_mt (ok_Table_page T) (T.m_Table_page) (hr.mono (by decide)) (pv 0) (pa_cons (pv 7) pa_nil)) (pa_cons (pv 7) (pa_cons (pv 4) (pa_cons (pv 5) pa_nil))))) pe_int (fun _ _ => rfl)) (pe_mt (ok_Table_page T) (T.m_Table_page) (hr.mono (by decide)) (pv 0) (pa_cons (pv 7) pa_nil))))
    (pss_cons (ps_if (PW.pt (pw_and (pt_val (pv 3)) (pw_and1 (pt_val (pe_cf (ok_fits T) (hr.mono (by decide)) rfl (T.g_fits) (pa_cons (pv 6) (pa_cons (pv 2) pa_nil))))))) (pss_one (ps_ret (pe_tupdK K (pa_cons (pe_tupdK K (pa_cons (pv 7) (pa_cons (pe_cf (ok_free_slot T) (hr.mono (by decide)) rfl (T.g_free_slot) (pa_cons (pv 6) pa_nil)) pa_nil))) (pa_cons pe_bl (pa_cons (pv 8) pa_nil)))))) pss_nil)
    (pss_one (ps_ret (pe_tupdK K (pa_cons (pe_mt (ok_Table_place_for T) (T.m_Table_place_for) (hr.mono (by decide)) (pv 0) (pa_cons (pv 2) (pa_cons (pe_tupdK K (pa_cons (pv 7) (pa_cons (pv 6) pa_nil))) pa_nil))) (pa_cons pe_bl (pa_cons (pv 8) pa_nil))))))))), ?_⟩
  obtain ⟨t, Tb, a, b, p, id, kd, kk, us, ss, c, d, ex, hT, hy, hp, hz, hk, eu, ew, hc, ee, hd, q⟩ := h
  subst ex eu ew ee
  obtain ⟨dx, e⟩ := hT.ob
  have okp := hT.ok p (List.mem_of_getElem? hp)
  have al := (List.getElem?_eq_some_iff.mp hp).1
  refine ⟨_, rfl, _, 0, _, hy, rfl, rfl, fun v0 h0 => ?_⟩
  rw [h0.int_eq]
  refine ⟨_, rfl, t, dx, _, rfl, e, _, rfl, _, 0, _, hy, rfl, rfl, fun v0' h0' => ?_⟩
  rw [h0'.int_eq]
  refine ⟨_, _, rfl, t, Tb, a, p, rfl, rfl, hT, hp, fun vp hvp => ⟨_, rfl, _, _, rfl, p, id, kd, hvp, okp, hz, hk, fun bb H1 sm1 hb1 hb2 => ⟨_, rfl, _, _, rfl, ?_⟩⟩⟩
  have hT1 := hT.same sm1
  obtain ⟨dx1, e1⟩ := hT1.ob
  refine ⟨_, rfl, _, rfl, ?_⟩
  cases bb
  case' false =>
    refine iteT ?_
    refine ⟨_, rfl, t, dx1, _, rfl, e1, _, rfl, _, _, rfl, t, Tb, a, p, rfl, rfl, hT1, hp, fun vp1 hvp1 => ?_⟩
    refine ⟨_, rfl, _, rfl, _, rfl, _, _, _, _, rfl, p, a, c, d, us, ss, hvp1, okp, rfl, rfl, sm1 _ _ hc, rfl, sm1 _ _ hd, fun tt vq qq f dd H2 sm2 htt hvq hpr => ?_⟩
    refine ⟨tt, _, 0, vq, rfl, rfl, .inl (.inl htt), rfl, ?_⟩
    obtain ⟨lk, elk⟩ : ∃ lk, lk = !false := ⟨_, rfl⟩
    have hlk : lk = false → qq = p := fun z => by rw [elk] at z; cases z
    rw [← elk]
  case' true =>
    refine iteF ?_
    refine ⟨_, rfl, t, dx1, _, rfl, e1, _, rfl, _, _, rfl, t, Tb, a, p, rfl, rfl, hT1, hp, fun vq hvq => ?_⟩
    obtain ⟨qq, eqq⟩ : ∃ qq, qq = p := ⟨p, rfl⟩
    have hpr : PrS us ss p qq := by rw [eqq]; exact PrS.refl p
    obtain ⟨H2, eH2⟩ : ∃ H2, H2 = H1 := ⟨H1, rfl⟩
    have sm2 : Same H1 H2 := by rw [eH2]; exact .refl _
    have hvq : Td K H2 vq (pgD qq) := by rw [eH2, eqq]; exact hvq
    obtain ⟨lk, elk⟩ : ∃ lk, lk = !true := ⟨_, rfl⟩
    have hlk : lk = false → qq = p := fun _ => eqq
    rw [← elk, ← eH2]
  all_goals
    have okq := hpr.ok okp
    have sm12 := sm1.trans sm2
    have tail : ∀ H3, Same H2 H3 → ∀ v n s, Td K H3 v (plD n s) → OkAt (Tb.pages.set a qq) n s → ∀ (only : Bool) (R : VK), R = Q → tTupD K (tCons (fun _ H Q => Q v H) (tCons (fun _ H Q => Q (.bl only) H) (tCons (fun _ H Q => Q (.bl lk) H) tNil))) [] H3 R := fun H3 sm3 v n s hv ho only R eR => by
      subst eR
      refine ⟨_, Tds.cons hv (.cons (.bl _) (.cons (.bl _) .nil)), Nat.le_of_ble_eq_true rfl, fun v5 H5 sm5 hv5 => ?_⟩
      exact q v5 n s only lk qq H5 ((sm12.trans sm3).trans sm5) hv5 hpr hlk ho
    have other : ∀ H3, Same H2 H3 → True := fun _ _ => True.intro
    refine ⟨_, rfl, _, rfl, ?_⟩
    cases kk
    case' true =>
      refine iteT ?_
      refine ⟨_, rfl, _, rfl, _, _, rfl, qq, id, kd, hvq, okq, hz.same sm12, hk, fun bb H3 sm3 hb1 hb2 => ⟨_, rfl, ?_⟩⟩
      cases bb
      case' true =>
        refine iteT ?_
        refine ⟨_, rfl, _, rfl, _, rfl, qq, hvq.same sm3, fun n H4 sm4 hf => ?_⟩
        refine ⟨_, Tds.cons (.int _) (.cons (.int _) .nil), Nat.le_of_ble_eq_true rfl, fun v5 H5 sm5 hv5 => ⟨_, rfl, ?_⟩⟩
        exact tail H5 ((sm3.trans sm4).trans sm5) v5 a n hv5 (.inl ⟨qq, List.getElem?_set_self al, hf, hb1 rfl n hf⟩) true _ rfl
      case' false =>
        refine iteF ?_
        have s3 := sm3
    case' false =>
      refine iteF ?_
      obtain ⟨H3, eH3⟩ : ∃ H3, H3 = H2 := ⟨H2, rfl⟩
      have s3 : Same H2 H3 := by rw [eH3]; exact .refl _
      rw [← eH3]
    all_goals
      have hT3 := (hT.same sm12).same s3
      obtain ⟨dx3, e3⟩ := hT3.ob
      refine ⟨_, rfl, t, dx3, _, rfl, e3, _, rfl, _, rfl, _, rfl, _, Tds.cons (.int _) (.cons (hvq.same s3) .nil), Nat.le_of_ble_eq_true rfl, fun v4 H4 sm4 hv4 => ?_⟩
      refine ⟨_, _, _, rfl, t, Tb, id, kd, _, rfl, hT3.same sm4, hz.same ((sm12.trans s3).trans sm4), hk, .inr ⟨a, qq, hv4, al, okq, rfl⟩, fun v5 n s H5 sm5 hv5 ho => ⟨_, rfl, ?_⟩⟩
      exact tail H5 ((s3.trans sm4).trans sm5) v5 n s hv5 ho false _ rfl
/-- its end does not count: none, or by one that is undone -/
def EnOk (L : Led) (v : Ver) : Prop := v.en = none ∨ ∃ e c, v.en = some (e, c) ∧ 1 ≤ e ∧ L.states[e - 1]? = some .und
def sp_Table_newest (K : PySem.W.Frag) : Sp := s4 fun x y z u H Q => ∃ t T a b p v l L, x = .ref t ∧ TbAt K H t T ∧ Td K H y (plD a b) ∧ T.pages[a]? = some p ∧ p[b]? = some (Slot.row v) ∧ z = .ref l ∧ LedAt K H l L ∧ EnOk L v ∧
  ∀ r H', Same H H' → Td K H' r (.tuple [.str "here", plD a b, .none]) → Q r H'
theorem ok_Table_newest {P : Program} {w : World} {K : PySem.W.Frag} {mg : Str → Option Value} {base : Heap} (T : Tx K mg) : Df P w K mg base (fAd K ("Table", some "newest")) 3 [] (sp_Table_newest K) := by
  obtain ⟨fd, F⟩ := fn_Table_newest T
  refine df4 F sc_Table_newest (fun _ _ _ _ _ _ us hl => match us, hl with | [_, _, _, _], _ => rfl) fun self place ledger number H Q h => ?_
  intro cdv A outer s E hr
  have hu := hu_of hr
  refine ⟨_, (pss_cons (ps_par (i := 5) (j := 6) (by rfl) (sc_Table_newest).nd rfl rfl (by decide) rfl rfl (pa_cons pe_non (pa_cons (pv 1) pa_nil)) (by rfl))
    (pss_cons (ps_set (i := 4) (sc_Table_newest).nd rfl (.inl rfl) (pe_ixdK K (pe_mt (ok_Table_slot T) (T.m_Table_slot) (hr.mono (by decide)) (pv 0) (pa_cons (pv 6) pa_nil)) (pe_gi rfl (T.g_ENDER_table))))
    (pss_cons (ps_while PassesOwn.never (PW.pt (pw_and (pt_cmp (pc_notN (pv 4)) rfl) (pw_and1 (pt_cmpR op_ne (pe_mt (ok_Ledger_state T) (T.m_Ledger_state) (hr.mono (by decide)) (pv 2) (pa_cons (pv 4) pa_nil)) (pe_gs rfl (T.g_UNDONE)) (nomark _))))) (pss_cons ps_never (pss_cons ps_never (pss_cons ps_never (pss_cons ps_never (pss_cons ps_never (pss_one ps_never)))))))
    (pss_one (ps_ret (pe_tupdK K (pa_cons (pe_gs rfl (T.g_HERE)) (pa_cons (pv 6) (pa_cons (pv 5) pa_nil))))))))), ?_⟩
  obtain ⟨t, Tb, a, b, p, v, l, L, ex, hT, hy, hp, hv, ez, hL, hn, q⟩ := h
  subst ex ez
  obtain ⟨dx, e⟩ := hT.ob
  obtain ⟨dl, el⟩ := hL.ob
  refine ⟨_, rfl, _, _, rfl, _, rfl, t, dx, _, rfl, e, _, rfl, _, _, rfl, t, Tb, a, b, p, .row v, rfl, hy, hT, hp, hv, fun w hw => ⟨_, 3, _, hw, rfl, rfl, fun y hy3 => ?_⟩⟩
  have fin : ∀ D : VK, D = Q → tTupD K (tCons (tC (.str "here")) (tCons (tVar 6) (tCons (tVar 5) tNil))) [some (.ref t), some place, some (.ref l), some number, some y, some .non, some place, none] H D := fun D eD => by
    subst eD
    exact ⟨_, rfl, _, rfl, _, Tds.cons (.str _) (.cons hy (.cons .non .nil)), Nat.le_of_ble_eq_true rfl, fun v5 H5 sm5 hv5 => q v5 H5 sm5 hv5⟩
  refine ⟨fun m σ' H' => H' = H ∧ σ' = [some (.ref t), some place, some (.ref l), some number, some y, some .non, some place, none], ⟨0, rfl, rfl⟩, ?_⟩
  rintro m σ' H' ⟨rfl, rfl⟩
  rcases hn with hn | ⟨en, ec, hn, h1, hs⟩
  · rw [hn] at hy3
    have ey := hy3.non_eq
    refine ⟨_, rfl, _, rfl, ite2 (fun h => absurd h (by simp [ey])) fun _ => ?_⟩
    exact fin Q rfl
  · rw [hn] at hy3
    have ey : y = .int ((en : Nat) : Int) := hy3.int_eq
    refine ⟨_, rfl, _, rfl, ite2 (fun _ => ?_) fun h => absurd (by simp [ey]) h⟩
    refine ⟨_, rfl, l, dl, _, rfl, el, _, rfl, _, _, rfl, l, L, en, .und, rfl, ey, hL, h1, hs, rfl, _, rfl, ite2 (fun h => by cases h) fun _ => ?_⟩
    exact fin Q rfl
end Rc


set_option Elab.async false
set_option linter.all false
set_option maxRecDepth 100000
set_option maxHeartbeats 4000000
namespace Rc
open PySem PySem.Spec PyProof.Rows L2 He
/-! ### what a scan tells -/
abbrev Note := Nat × Nat × Int × PyData
def visAt (f : Ver → Bool) (a : Nat) (p : Page) (b : Nat) : Option Note := match p[b]? with
  | some (.row v) => if f v = true then some (a, b, v.id, v.kd) else none
  | _ => none
def pgVis (f : Ver → Bool) (a : Nat) (p : Page) : List Note := (List.range p.length).filterMap (visAt f a p)
def noteD : Note → PyData
  | (a, b, id, kd) => .tuple [plD a b, rowD id kd]
theorem range_fm {α : Type} (f : Nat → Option α) (i : Nat) : (List.range (i + 1)).filterMap f = (List.range i).filterMap f ++ (f i).toList := by
  rw [List.range_succ, List.filterMap_append]
  cases e : f i <;> simp [e]
theorem pgVis_len (f : Ver → Bool) (a : Nat) (p : Page) : (pgVis f a p).length ≤ p.length := by
  unfold pgVis
  exact Nat.le_trans (List.length_filterMap_le _ _) (by rw [List.length_range]; exact Nat.le_refl _)
structure Cur where
  t : Nat
  part : Nat
  sn : Sn
  told : Option (Nat × Nat)
  many : Nat
  page : Nat
  N : Addr
  noted : List Note
structure CurAt (K : PySem.W.Frag) (H : Hp) (c : Addr) (C : Cur) : Prop where
  ob : ∃ dx v1 v2, H c = some (Ob (ga K "HeapCursor") dx nsHeapCursor [.int (C.t : Int), .int (C.part : Int), v1, v2, .int (C.many : Int), .int (C.page : Int), .ref C.N]) ∧ Td K H v1 C.sn.d ∧ Td K H v2 (placeO C.told)
  nt : ∃ vs, H C.N = some (.lst vs) ∧ Tds K H vs (C.noted.map noteD)
  ne : c ≠ C.N
theorem CurAt.keep {K : PySem.W.Frag} {H H' : Hp} {c : Addr} {C : Cur} (h : CurAt K H c C) (k1 : ∀ o, H c = some o → H' c = some o) (k2 : ∀ o, H C.N = some o → H' C.N = some o) (tk : TKeep H H') : CurAt K H' c C := by
  obtain ⟨dx, v1, v2, e, e1, e2⟩ := h.ob
  obtain ⟨vs, e3, e4⟩ := h.nt
  exact ⟨⟨dx, v1, v2, k1 _ e, e1.keep tk, e2.keep tk⟩, ⟨vs, k2 _ e3, e4.keep tk⟩, h.ne⟩
theorem CurAt.same {K : PySem.W.Frag} {H H' : Hp} {c : Addr} {C : Cur} (h : CurAt K H c C) (s : Same H H') : CurAt K H' c C := h.keep (s _) (s _) (Same.tk s)
theorem CurAt.chg {K : PySem.W.Frag} {H H' : Hp} {c : Addr} {C : Cur} {fp : List Addr} (h : CurAt K H c C) (g : Chg fp H H') (n1 : c ∉ fp) (n2 : C.N ∉ fp) : CurAt K H' c C := h.keep (fun o e => g.keep _ o e n1) (fun o e => g.keep _ o e n2) g.tk
theorem CurAt.setO {K : PySem.W.Frag} {H H' : Hp} {c : Addr} {C C' : Cur} (h : CurAt K H c C) {dx : Addr} {v1 v2 : V} (eN : C'.N = C.N) (en : C'.noted = C.noted) (hc : H' c = some (Ob (ga K "HeapCursor") dx nsHeapCursor [.int (C'.t : Int), .int (C'.part : Int), v1, v2, .int (C'.many : Int), .int (C'.page : Int), .ref C'.N]))
    (h1 : Td K H v1 C'.sn.d) (h2 : Td K H v2 (placeO C'.told)) (k2 : ∀ o, H C.N = some o → H' C.N = some o) (tk : TKeep H H') : CurAt K H' c C' := by
  obtain ⟨vs, e3, e4⟩ := h.nt
  exact ⟨⟨dx, v1, v2, hc, h1.keep tk, h2.keep tk⟩, ⟨vs, by rw [eN]; exact k2 _ e3, by rw [en]; exact e4.keep tk⟩, by rw [eN]; exact h.ne⟩
theorem tk_ins {H : Hp} {a : Addr} {C dx : Addr} {ns : List Str} {vs : List V} {o : HO} (e : H a = some (Ob C dx ns vs)) : TKeep H (upd H a o) := fun b xs h => by
  rw [upd_ne (fun z : b = a => by rw [z, e] at h; cases h)]
  exact h
def sp_Cursor_init (K : PySem.W.Frag) : Sp := s4 fun x y z u H Q => ∃ (a dx : Addr), x = .ref a ∧ H a = some (Ob (ga K "HeapCursor") dx nsHeapCursor []) ∧
  ∀ H', Chg [a] H H' → H' a = some (Ob (ga K "HeapCursor") dx nsHeapCursor [y, z, u, .non]) → Q .non H'
theorem ok_Cursor_init {P : Program} {w : World} {K : PySem.W.Frag} {mg : Str → Option Value} {base : Heap} (T : Tx K mg) : Df P w K mg base (fAd K ("Cursor", some "__init__")) 1 [] (sp_Cursor_init K) := by
  obtain ⟨fd, F⟩ := fn_Cursor_init T
  refine df4 F sc_Cursor_init (fun _ _ _ _ _ _ us hl => match us, hl with | [_, _, _, _], _ => rfl) fun self owner part snapshot H Q h => ?_
  intro cdv A outer s E hr
  have hu := hu_of hr
  refine ⟨_, (pss_cons (ps_new (T.f_HeapCursor_own_owner) (pv 0) (pv 1))
    (pss_cons (ps_new (T.f_HeapCursor_own_part) (pv 0) (pv 2))
    (pss_cons (ps_new (T.f_HeapCursor_own_snapshot) (pv 0) (pv 3))
    (pss_one (ps_new (T.f_HeapCursor_own_told) (pv 0) pe_non))))), ?_⟩
  obtain ⟨a, dx, ex, e, q⟩ := h
  subst ex
  refine ⟨_, rfl, _, rfl, a, dx, _, rfl, e, rfl, ?_⟩
  refine ⟨_, rfl, _, rfl, a, dx, _, rfl, upd_same, rfl, ?_⟩
  refine ⟨_, rfl, _, rfl, a, dx, _, rfl, upd_same, rfl, ?_⟩
  refine ⟨_, rfl, a, dx, _, rfl, upd_same, rfl, ?_⟩
  exact q _ ((((Chg.upd e (by simp)).trans (Chg.upd upd_same (by simp))).trans (Chg.upd upd_same (by simp))).trans (Chg.upd upd_same (by simp))) upd_same
def sp_HeapCursor_init (K : PySem.W.Frag) : Sp := s5 fun x y z u w H Q => ∃ (a dx : Addr) (t pt m : Nat) (sn : Sn), x = .ref a ∧ H a = some (Ob (ga K "HeapCursor") dx nsHeapCursor []) ∧ y = .int (t : Int) ∧ z = .int (pt : Int) ∧ Td K H u sn.d ∧ w = .int (m : Int) ∧
  ∀ N H', Chg [a] H H' → H N = none → CurAt K H' a ⟨t, pt, sn, none, m, 0, N, []⟩ → Q .non H'
theorem ok_HeapCursor_init {P : Program} {w : World} {K : PySem.W.Frag} {mg : Str → Option Value} {base : Heap} (T : Tx K mg) : Df P w K mg base (fAd K ("HeapCursor", some "__init__")) 2 [] (sp_HeapCursor_init K) := by
  obtain ⟨fd, F⟩ := fn_HeapCursor_init T
  refine df5 F sc_HeapCursor_init (fun _ _ _ _ _ _ us hl => match us, hl with | [_, _, _, _, _], _ => rfl) fun self owner part snapshot many H Q h => ?_
  intro cdv A outer s E hr
  have hu := hu_of hr
  refine ⟨_, (pss_cons (ps_expr (pe_cls (ok_Cursor_init T) (hr.mono (by decide)) rfl (T.g_Cursor) T.rdC (pa_cons (pv 0) (pa_cons (pv 1) (pa_cons (pv 2) (pa_cons (pv 3) pa_nil))))))
    (pss_cons (ps_new (T.f_HeapCursor_own_many) (pv 0) (pv 4))
    (pss_cons (ps_new (T.f_HeapCursor_own_page) (pv 0) pe_int)
    (pss_one (ps_new (T.f_HeapCursor_own_noted) (pv 0) (pe_lst pa_nil)))))), ?_⟩
  obtain ⟨a, dx, t, pt, m, sn, ex, e, ey, ez, hu1, ew, q⟩ := h
  subst ex ey ez ew
  refine ⟨_, rfl, _, rfl, _, rfl, _, rfl, _, _, _, _, rfl, a, dx, rfl, e, fun H1 c1 e1 => ?_⟩
  refine ⟨_, rfl, _, rfl, a, dx, _, rfl, e1, rfl, ?_⟩
  refine ⟨_, rfl, a, dx, _, rfl, upd_same, rfl, ?_⟩
  refine ⟨Nat.zero_le _, fun N nN => ?_⟩
  have s1 := same_new (o := .lst []) nN
  have c2 := (c1.trans (Chg.upd (o := Ob (ga K "HeapCursor") dx nsHeapCursor [.int (t : Int), .int (pt : Int), snapshot, .non, .int (m : Int)]) e1 (by simp))).trans (Chg.upd (o := Ob (ga K "HeapCursor") dx nsHeapCursor [.int (t : Int), .int (pt : Int), snapshot, .non, .int (m : Int), .int ((0 : Nat) : Int)]) upd_same (by simp))
  have nNa : N ≠ a := fun z => by rw [z, upd_same] at nN; cases nN
  have nN1 : H1 N = none := by rw [upd_ne nNa, upd_ne nNa] at nN; exact nN
  have nN0 : H N = none := by
    cases eq : H N with
    | none => rfl
    | some o =>
      have := c1.keep _ _ eq (by simp [nNa])
      rw [nN1] at this
      cases this
  refine ⟨_, rfl, a, dx, _, rfl, s1 _ _ upd_same, rfl, ?_⟩
  have c3 := (c2.trans (Chg.of s1)).trans (Chg.upd (o := Ob (ga K "HeapCursor") dx nsHeapCursor [.int (t : Int), .int (pt : Int), snapshot, .non, .int (m : Int), .int ((0 : Nat) : Int), .ref N]) (s1 _ _ upd_same) (by simp))
  refine q N _ c3 nN0 ⟨⟨dx, snapshot, .non, upd_same, hu1.keep c3.tk, .non⟩, ⟨[], ?_, .nil⟩, Ne.symm nNa⟩
  show upd _ a _ N = _
  rw [upd_ne nNa]
  exact upd_same
def sp_HeapCursor_owner (K : PySem.W.Frag) : Sp := s1 fun x H Q => ∃ c C, x = .ref c ∧ CurAt K H c C ∧ Q (.int (C.t : Int)) H
theorem ok_HeapCursor_owner {P : Program} {w : World} {K : PySem.W.Frag} {mg : Str → Option Value} {base : Heap} (T : Tx K mg) : Df P w K mg base (fAd K ("HeapCursor", some "owner")) 1 [] (sp_HeapCursor_owner K) := by
  obtain ⟨fd, F⟩ := fn_HeapCursor_owner T
  refine df1 F sc_HeapCursor_owner (fun _ _ _ _ _ _ us hl => match us, hl with | [_], _ => rfl) fun self H Q h => ?_
  intro cdv A outer s E hr
  have hu := hu_of hr
  refine ⟨_, (pss_one (ps_ret (pe_at (T.f_HeapCursor_own_owner) (pv 0)))), ?_⟩
  obtain ⟨c, C, ex, hC, q⟩ := h
  subst ex
  obtain ⟨dx, v1, v2, e, _, _⟩ := hC.ob
  exact ⟨_, rfl, c, dx, _, _, rfl, e, rfl, q⟩
def sp_HeapCursor_snapshot (K : PySem.W.Frag) : Sp := s1 fun x H Q => ∃ c C, x = .ref c ∧ CurAt K H c C ∧ ∀ v, Td K H v C.sn.d → Q v H
theorem ok_HeapCursor_snapshot {P : Program} {w : World} {K : PySem.W.Frag} {mg : Str → Option Value} {base : Heap} (T : Tx K mg) : Df P w K mg base (fAd K ("HeapCursor", some "snapshot")) 1 [] (sp_HeapCursor_snapshot K) := by
  obtain ⟨fd, F⟩ := fn_HeapCursor_snapshot T
  refine df1 F sc_HeapCursor_snapshot (fun _ _ _ _ _ _ us hl => match us, hl with | [_], _ => rfl) fun self H Q h => ?_
  intro cdv A outer s E hr
  have hu := hu_of hr
  refine ⟨_, (pss_one (ps_ret (pe_at (T.f_HeapCursor_own_snapshot) (pv 0)))), ?_⟩
  obtain ⟨c, C, ex, hC, q⟩ := h
  subst ex
  obtain ⟨dx, v1, v2, e, e1, _⟩ := hC.ob
  exact ⟨_, rfl, c, dx, _, _, rfl, e, rfl, q v1 e1⟩
def sp_HeapCursor_told (K : PySem.W.Frag) : Sp := s1 fun x H Q => ∃ c C a b, x = .ref c ∧ CurAt K H c C ∧ C.told = some (a, b) ∧ ∀ v, Td K H v (plD a b) → Q v H
theorem ok_HeapCursor_told {P : Program} {w : World} {K : PySem.W.Frag} {mg : Str → Option Value} {base : Heap} (T : Tx K mg) : Df P w K mg base (fAd K ("HeapCursor", some "told")) 1 [] (sp_HeapCursor_told K) := by
  obtain ⟨fd, F⟩ := fn_HeapCursor_told T
  refine df1 F sc_HeapCursor_told (fun _ _ _ _ _ _ us hl => match us, hl with | [_], _ => rfl) fun self H Q h => ?_
  intro cdv A outer s E hr
  have hu := hu_of hr
  refine ⟨_, (pss_cons (ps_if (pt_cmp (pc_isN (pe_at (T.f_HeapCursor_own_told) (pv 0))) rfl) (pss_one ps_never) pss_nil)
    (pss_one (ps_ret (pe_at (T.f_HeapCursor_own_told) (pv 0))))), ?_⟩
  obtain ⟨c, C, a, b, ex, hC, et, q⟩ := h
  subst ex
  obtain ⟨dx, v1, v2, e, _, e2⟩ := hC.ob
  rw [et] at e2
  have ne : v2 ≠ .non := by
    obtain ⟨_, _, e, _⟩ := e2.tup_eq
    rw [e]
    exact fun z => nomatch z
  refine ⟨_, rfl, c, dx, _, _, rfl, e, rfl, _, rfl, ite2 (fun h => absurd (of_decide_eq_true h) ne) fun _ => ?_⟩
  exact ⟨_, rfl, c, dx, _, _, rfl, e, rfl, q v2 e2⟩
def sp_HeapCursor_tell (K : PySem.W.Frag) : Sp := s3 fun x y z H Q => ∃ c C a b id kd, x = .ref c ∧ CurAt K H c C ∧ Td K H y (plD a b) ∧ Td K H z (rowD id kd) ∧
  ∀ v H', Chg [c] H H' → CurAt K H' c { C with told := some (a, b) } → Td K H' v (noteD (a, b, id, kd)) → Q v H'
theorem ok_HeapCursor_tell {P : Program} {w : World} {K : PySem.W.Frag} {mg : Str → Option Value} {base : Heap} (T : Tx K mg) : Df P w K mg base (fAd K ("HeapCursor", some "tell")) 1 [] (sp_HeapCursor_tell K) := by
  obtain ⟨fd, F⟩ := fn_HeapCursor_tell T
  refine df3 F sc_HeapCursor_tell (fun _ _ _ _ _ _ us hl => match us, hl with | [_, _, _], _ => rfl) fun self place cells H Q h => ?_
  intro cdv A outer s E hr
  have hu := hu_of hr
  refine ⟨_, (pss_cons (ps_put (T.f_HeapCursor_own_told) (pv 0) (pv 1))
    (pss_one (ps_ret (pe_tupdK K (pa_cons (pv 1) (pa_cons (pv 2) pa_nil)))))), ?_⟩
  obtain ⟨c, C, a, b, id, kd, ex, hC, hy, hz, q⟩ := h
  subst ex
  obtain ⟨dx, v1, v2, e, e1, e2⟩ := hC.ob
  refine ⟨_, rfl, _, rfl, c, dx, _, rfl, e, Nat.le_of_ble_eq_true rfl, ?_⟩
  have tk := tk_ins (o := Ob (ga K "HeapCursor") dx nsHeapCursor [.int (C.t : Int), .int (C.part : Int), v1, place, .int (C.many : Int), .int (C.page : Int), .ref C.N]) e
  have c1 : Chg [c] H (upd H c (Ob (ga K "HeapCursor") dx nsHeapCursor [.int (C.t : Int), .int (C.part : Int), v1, place, .int (C.many : Int), .int (C.page : Int), .ref C.N])) := Chg.upd e (by simp)
  refine ⟨_, rfl, _, rfl, _, Tds.cons (hy.keep tk) (.cons (hz.keep tk) .nil), Nat.le_of_ble_eq_true rfl, fun v H2 sm2 hv => ?_⟩
  refine q v H2 (c1.trans (Chg.of sm2)) ?_ hv
  refine (hC.setO (C' := { C with told := some (a, b) }) (H' := upd H c (Ob (ga K "HeapCursor") dx nsHeapCursor [.int (C.t : Int), .int (C.part : Int), v1, place, .int (C.many : Int), .int (C.page : Int), .ref C.N])) rfl rfl upd_same e1 hy (fun o e => ?_) tk).same sm2
  rw [upd_ne (Ne.symm hC.ne)]
  exact e
def sp_HeapCursor_note_page (K : PySem.W.Frag) : Sp := s3 fun x y z H Q => ∃ c C t T a us p, x = .ref c ∧ CurAt K H c C ∧ y = .ref t ∧ TbAt K H t T ∧ T.pages[C.page]? = some p ∧ C.noted = [] ∧ z = .ref a ∧ H a = some (.lst (IL us)) ∧ a ≠ c ∧ a ≠ C.N ∧
  ∀ H', Chg [c, C.N] H H' → CurAt K H' c { C with page := C.page + 1, noted := pgVis (seesB C.sn us) C.page p } → Q .non H'
theorem ok_HeapCursor_note_page {P : Program} {w : World} {K : PySem.W.Frag} {mg : Str → Option Value} {base : Heap} (T : Tx K mg) : Df P w K mg base (fAd K ("HeapCursor", some "note_page")) 3 [] (sp_HeapCursor_note_page K) := by
  obtain ⟨fd, F⟩ := fn_HeapCursor_note_page T
  refine df3 F sc_HeapCursor_note_page (fun _ _ _ _ _ _ us hl => match us, hl with | [_, _, _], _ => rfl) fun self table undone H Q h => ?_
  intro cdv A outer s E hr
  have hu := hu_of hr
  refine ⟨_, (pss_cons (ps_set (i := 3) (sc_HeapCursor_note_page).nd rfl (.inl rfl) (pe_mt (ok_Table_page T) (T.m_Table_page) (hr.mono (by decide)) (pv 1) (pa_cons (pe_at (T.f_HeapCursor_own_page) (pv 0)) pa_nil)))
    (pss_cons (ps_for PassesOwn.never rfl (pi_enumTK K (by rfl) (T.b_enumerate) (pa_cons (pv 3) pa_nil)) (pg_tupK K (n := 2) (by rfl) (pgs_cons (pg_name (i := 4) (sc_HeapCursor_note_page).nd rfl (.inl rfl)) (pgs_cons (pg_name (i := 5) (sc_HeapCursor_note_page).nd rfl (.inl rfl)) pgs_nil)))
    (pss_one (ps_if (PW.pt (pw_and (pt_val (pe_cf (ok_is_version T) (hr.mono (by decide)) rfl (T.g_is_version) (pa_cons (pv 5) pa_nil))) (pw_and1 (pt_val (pe_cf (ok_sees T) (hr.mono (by decide)) rfl (T.g_sees) (pa_cons (pe_at (T.f_HeapCursor_own_snapshot) (pv 0)) (pa_cons (pv 5) (pa_cons (pv 2) pa_nil)))))))) (pss_one (ps_expr (pe_bm PySem.F.plainAttrs_list PySem.F.slot_list_append PySem.F.type_list_append mt_append (pe_at (T.f_HeapCursor_own_noted) (pv 0)) (pa_cons (pe_tupdK K (pa_cons (pe_tupdK K (pa_cons (pe_at (T.f_HeapCursor_own_page) (pv 0)) (pa_cons (pv 4) pa_nil))) (pa_cons (pe_ixdK K (pv 5) (pe_gi rfl (T.g_CELLS))) pa_nil))) pa_nil)))) pss_nil)))
    (pss_one (ps_inc (T.f_HeapCursor_own_page) (pv 0) pe_int)))), ?_⟩
  obtain ⟨c, C, t, Tb, a, us, p, ex, hC, ey, hT, hp, hn, ez, ha, nac, naN, q⟩ := h
  subst ex ey ez
  obtain ⟨dx, v1, v2, e, e1, e2⟩ := hC.ob
  obtain ⟨dxt, et⟩ := hT.ob
  refine ⟨_, rfl, t, dxt, _, rfl, et, _, rfl, c, dx, _, _, rfl, e, rfl, _, _, rfl, t, Tb, C.page, p, rfl, rfl, hT, hp, fun pv hpv => ?_⟩
  obtain ⟨pa, xs, epv, hq, hl, hr2⟩ := pg_open hpv
  subst epv
  have ok := hT.ok p (List.mem_of_getElem? hp)
  have pl := ok.ln
  refine ⟨_, rfl, pa, xs, rfl, hq.t, ?_⟩
  refine for_et (K := K) (a := pa) (xs := xs) (fun i σ' H' => ∃ u4 u5, σ' = [some (.ref c), some (.ref t), some (.ref a), some (.ref pa), u4, u5] ∧ Chg [c, C.N] H H' ∧ CurAt K H' c { C with noted := (List.range i).filterMap (visAt (seesB C.sn us) C.page p) }) ⟨_, _, rfl, .refl H, by
    rw [List.range_zero, List.filterMap_nil, ← hn]
    exact hC⟩ (fun i σ' H' _ ⟨_, _, _, c1, _⟩ => (hq.keep c1.tk).t) ?_ ?_
  · rintro i x σ' H1 U hi ⟨u4, u5, rfl, c1, h1⟩ nU
    have il : i < xs.length := (List.getElem?_eq_some_iff.mp hi).1
    obtain ⟨d, hd1, hxd0⟩ := hr2.get2 hi
    rw [List.getElem?_map] at hd1
    obtain ⟨s, hs, es⟩ := Option.map_eq_some_iff.mp hd1
    subst es
    have sU : Same H1 (upd H1 U (.tup [.int (i : Nat), x])) := same_new nU
    have c2 := c1.trans (Chg.of sU)
    have hxd := hxd0.keep c2.tk
    have h2 := h1.same sU
    obtain ⟨dx2, w1, w2, f, f1, f2⟩ := h2.ob
    have fm := range_fm (visAt (seesB C.sn us) C.page p) i
    refine ⟨U, _, rfl, .inl (.inl upd_same), rfl, _, _, rfl, _, _, rfl, rfl, ?_⟩
    refine ⟨_, rfl, _, rfl, s, hxd, _, rfl, ?_⟩
    have no : visAt (seesB C.sn us) C.page p i = none → (∃ u4 u5, ([some (.ref c), some (.ref t), some (.ref a), some (.ref pa), u4, u5] : L2.St) = [some (.ref c), some (.ref t), some (.ref a), some (.ref pa), some (.int (i : Int)), some x] ∧ Chg [c, C.N] H (upd H1 U (.tup [.int (i : Nat), x])) ∧ CurAt K (upd H1 U (.tup [.int (i : Nat), x])) c { C with noted := (List.range (i + 1)).filterMap (visAt (seesB C.sn us) C.page p) }) := fun hno => by
      rw [fm, hno]
      exact ⟨_, _, rfl, c2, by rw [Option.toList_none, List.append_nil]; exact h2⟩
    cases s with
    | row v =>
      refine iteT ⟨_, rfl, c, dx2, _, _, rfl, f, rfl, _, rfl, _, rfl, _, _, _, rfl, C.sn, v, a, us, f1, hxd, rfl, c2.keep _ _ ha (by simp [nac, naN]), _, rfl, ?_⟩
      cases es2 : seesB C.sn us v with
      | false =>
        have hno : visAt (seesB C.sn us) C.page p i = none := by
          unfold visAt
          rw [hs]
          simp [es2]
        refine iteF ?_
        obtain ⟨y4, y5, e5, e6, e7⟩ := no hno
        exact ⟨y4, y5, e5.symm, e6, e7⟩
      | true =>
        have hyes : visAt (seesB C.sn us) C.page p i = some (C.page, i, v.id, v.kd) := by
          unfold visAt
          rw [hs]
          simp [es2]
        refine iteT ?_
        obtain ⟨ws, hw1, hw2⟩ := h2.nt
        have wl := hw2.length
        refine ⟨_, rfl, c, dx2, _, _, rfl, f, rfl, .inl ⟨rfl, _, SqL.of hw1⟩, ?_⟩
        refine ⟨_, rfl, c, dx2, _, _, rfl, f, rfl, _, rfl, _, Tds.cons (.int _) (.cons (.int _) .nil), Nat.le_of_ble_eq_true rfl, fun pv H3 sm3 hpv3 => ?_⟩
        refine ⟨_, rfl, _, 7, _, hxd.same sm3, rfl, rfl, fun cv hcv => ?_⟩
        refine ⟨_, Tds.cons hpv3 (.cons hcv .nil), Nat.le_of_ble_eq_true rfl, fun nv H4 sm4 hnv => ?_⟩
        have h4 := (h2.same sm3).same sm4
        have sm34 := sm3.trans sm4
        have hwl : ws.length ≤ i := by
          rw [wl, List.length_map]
          exact Nat.le_trans (List.length_filterMap_le _ _) (by rw [List.length_range]; exact Nat.le_refl _)
        refine ⟨C.N, ws, nv, rfl, rfl, sm34 _ _ hw1, small1000 (by omega), ?_⟩
        have tk := tk_lst (o := .lst (ws ++ [nv])) (sm34 _ _ hw1)
        refine ⟨_, _, rfl, (c2.trans (Chg.of sm34)).trans (Chg.upd (sm34 _ _ hw1) (by simp)), ⟨dx2, w1, w2, ?_, (f1.same sm34).keep tk, (f2.same sm34).keep tk⟩, ⟨ws ++ [nv], upd_same, ?_⟩, hC.ne⟩
        · show upd H4 C.N _ c = _
          rw [upd_ne hC.ne]
          exact sm34 _ _ f
        · rw [fm, hyes, List.map_append]
          exact ((hw2.same sm34).keep tk).app (.cons (hnv.keep tk) .nil)
    | un =>
      have hno : visAt (seesB C.sn us) C.page p i = none := by unfold visAt; rw [hs]
      refine iteF ?_
      obtain ⟨y4, y5, e5, e6, e7⟩ := no hno
      exact ⟨y4, y5, e5.symm, e6, e7⟩
    | dead =>
      have hno : visAt (seesB C.sn us) C.page p i = none := by unfold visAt; rw [hs]
      refine iteF ?_
      obtain ⟨y4, y5, e5, e6, e7⟩ := no hno
      exact ⟨y4, y5, e5.symm, e6, e7⟩
    | red n =>
      have hno : visAt (seesB C.sn us) C.page p i = none := by unfold visAt; rw [hs]
      refine iteF ?_
      obtain ⟨y4, y5, e5, e6, e7⟩ := no hno
      exact ⟨y4, y5, e5.symm, e6, e7⟩
  · rintro σ' H1 ⟨u4, u5, rfl, c1, h1⟩
    rw [hl] at h1
    obtain ⟨dx2, w1, w2, f, f1, f2⟩ := h1.ob
    refine ⟨_, rfl, c, dx2, _, _, rfl, f, rfl, 1, rfl, dx2, _, f, Nat.le_of_ble_eq_true rfl, ?_⟩
    have tk := tk_ins (o := Ob (ga K "HeapCursor") dx2 nsHeapCursor [.int (C.t : Int), .int (C.part : Int), w1, w2, .int (C.many : Int), .int ((C.page : Int) + 1), .ref C.N]) f
    refine q _ (c1.trans (Chg.upd f (by simp))) (h1.setO (dx := dx2) rfl rfl ?_ f1 f2 (fun o e => ?_) tk)
    · rw [upd_same]
      rfl
    · rw [upd_ne (Ne.symm hC.ne)]
      exact e
/-- what a cursor has yet to tell -/
def restOf (ps : List Page) (f : Ver → Bool) (C : Cur) : List Note := C.noted ++ (List.range (C.many - C.page)).flatMap fun i => pgVis f (C.page + i) (ps.getD (C.page + i) [])
theorem rest_step {ps : List Page} {f : Ver → Bool} {C : Cur} {p : Page} (h : C.page < C.many) (hp : ps[C.page]? = some p) (hn : C.noted = []) : restOf ps f { C with page := C.page + 1, noted := pgVis f C.page p } = restOf ps f C := by
  unfold restOf
  have e1 : C.many - C.page = (C.many - (C.page + 1)) + 1 := by omega
  show pgVis f C.page p ++ (List.range (C.many - (C.page + 1))).flatMap (fun i => pgVis f (C.page + 1 + i) (ps.getD (C.page + 1 + i) [])) = _
  rw [hn, List.nil_append, e1, List.range_succ_eq_map, List.flatMap_cons, List.flatMap_map]
  have e2 : ps.getD C.page [] = p := by
    rw [List.getD_eq_getElem?_getD, hp]
    rfl
  show pgVis f C.page p ++ _ = pgVis f C.page (ps.getD C.page []) ++ _
  rw [e2]
  congr 1
  refine congrArg (fun g => List.flatMap g (List.range (C.many - (C.page + 1)))) ?_
  funext i
  have e3 : C.page + 1 + i = C.page + i.succ := by omega
  rw [e3]
/-- the parts of a cursor that no reading changes -/
structure CurEq (C C' : Cur) : Prop where
  t : C'.t = C.t
  part : C'.part = C.part
  sn : C'.sn = C.sn
  many : C'.many = C.many
  N : C'.N = C.N
theorem CurEq.refl (C : Cur) : CurEq C C := ⟨rfl, rfl, rfl, rfl, rfl⟩
theorem CurEq.trans {A B C : Cur} (h : CurEq A B) (g : CurEq B C) : CurEq A C := ⟨g.t.trans h.t, g.part.trans h.part, g.sn.trans h.sn, g.many.trans h.many, g.N.trans h.N⟩
def NextR (K : PySem.W.Frag) (H' : Hp) (v : V) (rest : List Note) (C' : Cur) (rest' : List Note) : Prop :=
  (rest = [] ∧ v = .non ∧ rest' = []) ∨ ∃ a b id kd, rest = (a, b, id, kd) :: rest' ∧ Td K H' v (noteD (a, b, id, kd)) ∧ C'.told = some (a, b)
def sp_HeapCursor_next (K : PySem.W.Frag) : Sp := s3 fun x y z H Q => ∃ c C t T a us, x = .ref c ∧ CurAt K H c C ∧ y = .ref t ∧ TbAt K H t T ∧ c ∉ T.fp t ∧ C.N ∉ T.fp t ∧ C.many ≤ T.pages.length ∧ C.noted.length ≤ 8 ∧ z = .ref a ∧ H a = some (.lst (IL us)) ∧ a ≠ c ∧ a ≠ C.N ∧
  ∀ v C' H', Chg [c, C.N] H H' → CurAt K H' c C' → CurEq C C' → C'.noted.length ≤ 8 → NextR K H' v (restOf T.pages (seesB C.sn us) C) C' (restOf T.pages (seesB C.sn us) C') → Q v H'
theorem ok_HeapCursor_next {P : Program} {w : World} {K : PySem.W.Frag} {mg : Str → Option Value} {base : Heap} (T : Tx K mg) : Df P w K mg base (fAd K ("HeapCursor", some "next")) 4 [] (sp_HeapCursor_next K) := by
  obtain ⟨fd, F⟩ := fn_HeapCursor_next T
  refine df3 F sc_HeapCursor_next (fun _ _ _ _ _ _ us hl => match us, hl with | [_, _, _], _ => rfl) fun self table undone H Q h => ?_
  intro cdv A outer s E hr
  have hu := hu_of hr
  refine ⟨_, (pss_cons (ps_while PassesOwn.never (PW.pt (pw_and (pt_cmpR op_eq (pe_callB (call_len_seqK K) (by rfl) (T.b_len) (by decide +kernel) (pa_cons (pe_at (T.f_HeapCursor_own_noted) (pv 0)) pa_nil)) pe_int (nomark _)) (pw_and1 (pt_cmpR op_lt (pe_at (T.f_HeapCursor_own_page) (pv 0)) (pe_at (T.f_HeapCursor_own_many) (pv 0)) (nomark _))))) (pss_one (ps_expr (pe_mt (ok_HeapCursor_note_page T) (T.m_HeapCursor_note_page) (hr.mono (by decide)) (pv 0) (pa_cons (pv 1) (pa_cons (pv 2) pa_nil))))))
    (pss_cons (ps_if (pt_cmpR op_eq (pe_callB (call_len_seqK K) (by rfl) (T.b_len) (by decide +kernel) (pa_cons (pe_at (T.f_HeapCursor_own_noted) (pv 0)) pa_nil)) pe_int (nomark _)) (pss_cons (ps_put (T.f_HeapCursor_own_told) (pv 0) pe_non)
    (pss_one (ps_ret pe_non))) pss_nil)
    (pss_cons (ps_asg (pe_bm PySem.F.plainAttrs_list PySem.F.slot_list_pop PySem.F.type_list_pop mt_popAt (pe_at (T.f_HeapCursor_own_noted) (pv 0)) (pa_cons pe_int pa_nil)) (pg_tupK K (n := 2) (by rfl) (pgs_cons (pg_name (i := 3) (sc_HeapCursor_next).nd rfl (.inl rfl)) (pgs_cons (pg_name (i := 4) (sc_HeapCursor_next).nd rfl (.inl rfl)) pgs_nil))))
    (pss_one (ps_ret (pe_mt (ok_HeapCursor_tell T) (T.m_HeapCursor_tell) (hr.mono (by decide)) (pv 0) (pa_cons (pv 3) (pa_cons (pv 4) pa_nil)))))))), ?_⟩
  obtain ⟨c, C, t, Tb, a, us, ex, hC, ey, hT, nc, nN, hm, hl8, ez, ha, nac, naN, q⟩ := h
  subst ex ey ez
  refine ⟨fun m σ' H' => ∃ C1, σ' = [some (.ref c), some (.ref t), some (.ref a), none, none] ∧ Chg [c, C.N] H H' ∧ CurAt K H' c C1 ∧ CurEq C C1 ∧ C1.noted.length ≤ 8 ∧ restOf Tb.pages (seesB C.sn us) C1 = restOf Tb.pages (seesB C.sn us) C ∧ m = C1.many - C1.page, ⟨_, C, rfl, .refl H, hC, .refl C, hl8, rfl, rfl⟩, ?_⟩
  rintro m σ' H1 ⟨C1, rfl, c1, h1, he, hl1, hr1, em⟩
  obtain ⟨dx, w1, w2, f, f1, f2⟩ := h1.ob
  obtain ⟨ws, hw1, hw2⟩ := h1.nt
  have wl := hw2.length
  rw [List.length_map] at wl
  refine ⟨_, rfl, c, dx, _, _, rfl, f, rfl, C1.N, ws, rfl, .inl (SqL.of hw1), rfl, _, rfl, ?_⟩
  have e0 : decide (V.int (ws.length : Int) = V.int 0) = decide (C1.noted = []) := by
    refine decide_eq_decide.mpr ⟨fun z => List.length_eq_zero_iff.mp (by injection z with z; omega), fun z => ?_⟩
    rw [z] at wl
    have wl : ws.length = 0 := wl
    rw [wl]
    rfl
  rw [e0]
  refine ite2 (fun hc => ?_) fun hc => ?_
  · have hn : C1.noted = [] := of_decide_eq_true hc
    refine ⟨_, rfl, c, dx, _, _, rfl, f, rfl, _, rfl, c, dx, _, _, rfl, f, rfl, _, _, rfl, rfl, _, rfl, ?_⟩
    refine ite2 (fun hc2 => ?_) fun hc2 => ?_
    · have lt : C1.page < C1.many := by
        have := of_decide_eq_true hc2
        omega
      have lt2 : C1.page < Tb.pages.length := by
        have := he.many
        omega
      have hp : Tb.pages[C1.page]? = some Tb.pages[C1.page] := List.getElem?_eq_getElem lt2
      have hT1 : TbAt K H1 t Tb := hT.chg c1 fun b hb => by
        simp only [List.mem_cons, List.not_mem_nil, or_false] at hb
        rcases hb with z | z
        · rw [z]; exact nc
        · rw [z]; exact nN
      have okp := hT.ok _ (List.mem_of_getElem? hp)
      refine ⟨fun σ2 H2 => ∃ m', m' < m ∧ ∃ C1, σ2 = [some (.ref c), some (.ref t), some (.ref a), none, none] ∧ Chg [c, C.N] H H2 ∧ CurAt K H2 c C1 ∧ CurEq C C1 ∧ C1.noted.length ≤ 8 ∧ restOf Tb.pages (seesB C.sn us) C1 = restOf Tb.pages (seesB C.sn us) C ∧ m' = C1.many - C1.page, fun _ _ z => z, ?_⟩
      refine ⟨_, rfl, c, dx, _, rfl, f, _, rfl, _, rfl, _, _, _, rfl, c, C1, t, Tb, a, us, _, rfl, h1, rfl, hT1, hp, hn, rfl, c1.keep _ _ ha (by simp [nac, naN]), nac, by rw [he.N]; exact naN, fun H2 c2 h2 => ?_⟩
      rw [he.sn] at h2
      refine ⟨C1.many - (C1.page + 1), by omega, _, rfl, c1.trans (he.N ▸ c2), h2, he.trans ⟨rfl, rfl, he.sn.symm, rfl, rfl⟩, ?_, ?_, rfl⟩
      · have := okp.ln
        have := pgVis_len (seesB C.sn us) C1.page Tb.pages[C1.page]
        show (pgVis (seesB C.sn us) C1.page Tb.pages[C1.page]).length ≤ 8
        omega
      · exact (rest_step (f := seesB C.sn us) lt hp hn).trans hr1
    · have ge : C1.many - C1.page = 0 := by
        have : ¬ ((C1.page : Int) < (C1.many : Int)) := fun z => hc2 (decide_eq_true z)
        omega
      have hr0 : restOf Tb.pages (seesB C.sn us) C1 = [] := by
        unfold restOf
        rw [hn, ge]
        rfl
      refine ⟨_, rfl, c, dx, _, _, rfl, f, rfl, C1.N, ws, rfl, .inl (SqL.of hw1), rfl, _, rfl, ?_⟩
      rw [e0]
      refine ite2 (fun _ => ?_) fun z => absurd hc z
      refine ⟨_, rfl, c, dx, _, rfl, f, Nat.le_of_ble_eq_true rfl, ?_⟩
      have tk := tk_ins (o := Ob (ga K "HeapCursor") dx nsHeapCursor [.int (C1.t : Int), .int (C1.part : Int), w1, .non, .int (C1.many : Int), .int (C1.page : Int), .ref C1.N]) f
      refine q .non { C1 with told := none } _ (c1.trans (Chg.upd f (by simp))) (h1.setO (C' := { C1 with told := none }) (dx := dx) rfl rfl upd_same f1 .non (fun o e => ?_) tk) (he.trans ⟨rfl, rfl, rfl, rfl, rfl⟩) hl1 (.inl ⟨hr1 ▸ hr0, rfl, hr0⟩)
      rw [upd_ne (Ne.symm h1.ne)]
      exact e
  · have hn : C1.noted ≠ [] := fun z => hc (decide_eq_true z)
    obtain ⟨x, r, hx⟩ : ∃ x r, C1.noted = x :: r := by
      cases e : C1.noted with
      | nil => exact absurd e hn
      | cons x r => exact ⟨x, r, rfl⟩
    obtain ⟨xa, xb, xi, xk⟩ := x
    rw [hx] at hw2
    refine ⟨_, rfl, c, dx, _, _, rfl, f, rfl, C1.N, ws, rfl, .inl (SqL.of hw1), rfl, _, rfl, ?_⟩
    rw [e0]
    refine ite2 (fun z => absurd z hc) fun _ => ?_
    cases hw2 with | cons hx1 hx2 =>
    rename_i nv vs'
    have hl0 : (nv :: vs').length = r.length + 1 := by rw [wl, hx]; rfl
    refine ⟨_, rfl, c, dx, _, _, rfl, f, rfl, .inl ⟨rfl, _, SqL.of hw1⟩, C1.N, _, 0, 0, nv, rfl, rfl, hw1, by decide, by decide, ?_, rfl, ?_⟩
    · show seqIndex? 0 (vs'.length + 1) = some 0
      unfold seqIndex?
      simp
    have c2 : Chg [c, C.N] H1 (upd H1 C1.N (.lst vs')) := Chg.upd hw1 (by simp [he.N])
    have tk := tk_lst (o := .lst vs') hw1
    show gTup K 2 _ nv _ (upd H1 C1.N (.lst vs')) _
    obtain ⟨na, nxs, en, hnq, hnr⟩ := (hx1.keep tk).tup_eq
    subst en
    cases hnr with | cons hn1 hnr =>
    cases hnr with | cons hn2 hnr =>
    cases hnr
    refine ⟨na, _, rfl, hnq.t, rfl, _, _, rfl, _, _, rfl, rfl, ?_⟩
    have h2 : CurAt K (upd H1 C1.N (.lst vs')) c { C1 with noted := r } := ⟨⟨dx, w1, w2, by rw [upd_ne h1.ne]; exact f, f1.keep tk, f2.keep tk⟩, ⟨vs', upd_same, hx2.keep tk⟩, h1.ne⟩
    obtain ⟨dx2, y1, y2, g, g1, g2⟩ := h2.ob
    refine ⟨_, rfl, c, dx2, _, rfl, g, _, rfl, _, rfl, _, _, _, rfl, c, _, xa, xb, xi, xk, rfl, h2, hn1, hn2, fun v H3 c3 h3 hv => ?_⟩
    refine q v _ H3 ((c1.trans c2).trans (c3.mono (by simp))) h3 (he.trans ⟨rfl, rfl, rfl, rfl, rfl⟩) ?_ (.inr ⟨xa, xb, xi, xk, ?_, hv, rfl⟩)
    · show r.length ≤ 8
      rw [hx] at hl1
      simp at hl1
      omega
    · rw [← hr1]
      unfold restOf
      rw [hx]
      rfl
end Rc


set_option Elab.async false
set_option linter.all false
set_option maxRecDepth 100000
set_option maxHeartbeats 4000000
/-! the whole store -/
namespace Rc
open PySem PySem.Spec PyProof.Rows L2 He
structure Sto where
  l : Addr
  L : Led
  t : Addr
  T : Tab
  ix : Addr
  cu : Addr
  fi : Addr
  wr : Addr
  opened : Nat
  cs : List (Nat × Addr)
  vac : V
def Sto.own (b : Addr) (S : Sto) : List Addr := [b, S.ix, S.cu, S.fi, S.wr]
def Sto.fp (b : Addr) (S : Sto) : List Addr := S.own b ++ (S.L.fp S.l ++ S.T.fp S.t)
structure StoAt (K : PySem.W.Frag) (H : Hp) (b : Addr) (S : Sto) : Prop where
  ob : ∃ dx vc, H b = some (Ob (ga K "Base") dx nsBase [vc, .ref S.l, .ref S.t, .ref S.ix, .ref S.cu, .int (S.opened : Int), .ref S.fi, .ref S.wr, S.vac]) ∧ Td K H vc colsD
  led : LedAt K H S.l S.L
  tab : TbAt K H S.t S.T
  ix : H S.ix = some (.dK [])
  cu : H S.cu = some (.dK (dealK S.cs))
  fi : H S.fi = some (.dK [])
  wr : ∃ ws : List Nat, H S.wr = some (.dK (markK ws)) ∧ ws.Nodup ∧ ∀ k ∈ ws, k ≤ 63
  nd : (S.fp b).Nodup
  kn : (S.cs.map (·.1)).Nodup
  ck : ∀ q ∈ S.cs, q.1 ≤ S.opened
  cl : S.cs.length ≤ 8
structure StoNe (b : Addr) (S : Sto) : Prop where
  ow : (S.own b).Nodup
  oL : ∀ a ∈ S.own b, a ∉ S.L.fp S.l
  oT : ∀ a ∈ S.own b, a ∉ S.T.fp S.t
  LT : ∀ a ∈ S.L.fp S.l, a ∉ S.T.fp S.t
theorem sto_ne {b : Addr} {S : Sto} (nd : (S.fp b).Nodup) : StoNe b S := by
  unfold Sto.fp at nd
  rw [List.nodup_append] at nd
  obtain ⟨h1, h2, h3⟩ := nd
  rw [List.nodup_append] at h2
  obtain ⟨h4, h5, h6⟩ := h2
  exact ⟨h1, fun a ha hb => h3 a ha a (List.mem_append_left _ hb) rfl, fun a ha hb => h3 a ha a (List.mem_append_right _ hb) rfl, fun a ha hb => h6 a ha a hb rfl⟩
theorem sto_nd {K : PySem.W.Frag} {H : Hp} {b : Addr} {S : Sto} (ow : (S.own b).Nodup) (hl : LedAt K H S.l S.L) (ht : TbAt K H S.t S.T) (oL : ∀ a ∈ S.own b, a ∉ S.L.fp S.l) (oT : ∀ a ∈ S.own b, a ∉ S.T.fp S.t) (LT : ∀ a ∈ S.L.fp S.l, a ∉ S.T.fp S.t) : (S.fp b).Nodup := by
  unfold Sto.fp
  rw [List.nodup_append, List.nodup_append]
  refine ⟨ow, ⟨hl.nd, ht.nd, fun a ha c hc e => LT a ha (e ▸ hc)⟩, fun a ha c hc e => ?_⟩
  rcases List.mem_append.mp hc with z | z
  · exact oL a ha (e ▸ z)
  · exact oT a ha (e ▸ z)
theorem mem_b {b : Addr} {S : Sto} : b ∈ S.own b := by simp [Sto.own]
theorem mem_ix {b : Addr} {S : Sto} : S.ix ∈ S.own b := by simp [Sto.own]
theorem mem_cu {b : Addr} {S : Sto} : S.cu ∈ S.own b := by simp [Sto.own]
theorem mem_fi {b : Addr} {S : Sto} : S.fi ∈ S.own b := by simp [Sto.own]
theorem mem_wr {b : Addr} {S : Sto} : S.wr ∈ S.own b := by simp [Sto.own]
theorem fp_own {b : Addr} {S : Sto} {a : Addr} (h : a ∈ S.own b) : a ∈ S.fp b := List.mem_append_left _ h
theorem fp_L {b : Addr} {S : Sto} {a : Addr} (h : a ∈ S.L.fp S.l) : a ∈ S.fp b := List.mem_append_right _ (List.mem_append_left _ h)
theorem fp_T {b : Addr} {S : Sto} {a : Addr} (h : a ∈ S.T.fp S.t) : a ∈ S.fp b := List.mem_append_right _ (List.mem_append_right _ h)
section
variable {K : PySem.W.Frag} {H H' : Hp} {b : Addr} {S : Sto}
theorem StoAt.nt (h : StoAt K H b S) : ∀ a ∈ S.fp b, NT (H a) := fun a ha => by
  obtain ⟨dx, vc, e, _⟩ := h.ob
  obtain ⟨ws, hw, _⟩ := h.wr
  rcases List.mem_append.mp ha with z | z
  · simp only [Sto.own, List.mem_cons, List.not_mem_nil, or_false] at z
    rcases z with z | z | z | z | z
    · rw [z]; exact NT.of e rfl
    · rw [z]; exact NT.of h.ix rfl
    · rw [z]; exact NT.of h.cu rfl
    · rw [z]; exact NT.of h.fi rfl
    · rw [z]; exact NT.of hw rfl
  · rcases List.mem_append.mp z with z | z
    · exact h.led.nt a z
    · exact h.tab.nt a z
theorem StoAt.there (h : StoAt K H b S) {a : Addr} (ha : a ∈ S.fp b) (e : H a = none) : False := (h.nt a ha).not e
theorem StoAt.keep (h : StoAt K H b S) (k : ∀ a ∈ S.fp b, ∀ o, H a = some o → H' a = some o) (tk : TKeep H H') : StoAt K H' b S := by
  obtain ⟨dx, vc, e, e1⟩ := h.ob
  obtain ⟨ws, hw, hw2⟩ := h.wr
  exact ⟨⟨dx, vc, k _ (fp_own mem_b) _ e, e1.keep tk⟩, h.led.keep fun a ha => k a (fp_L ha), h.tab.keep (fun a ha => k a (fp_T ha)) tk, k _ (fp_own mem_ix) _ h.ix, k _ (fp_own mem_cu) _ h.cu, k _ (fp_own mem_fi) _ h.fi,
    ⟨ws, k _ (fp_own mem_wr) _ hw, hw2⟩, h.nd, h.kn, h.ck, h.cl⟩
theorem StoAt.same (h : StoAt K H b S) (s : Same H H') : StoAt K H' b S := h.keep (fun a _ o e => s a o e) (Same.tk s)
theorem StoAt.chg {fp : List Addr} (h : StoAt K H b S) (c : Chg fp H H') (n : ∀ a ∈ fp, a ∉ S.fp b) : StoAt K H' b S := h.keep (fun a ha o e => c.keep a o e fun z => n a z ha) c.tk
theorem StoAt.cht {fp : List Addr} (h : StoAt K H b S) (c : ChT fp H H') (n : ∀ a ∈ fp, a ∉ S.fp b) : StoAt K H' b S := h.keep (fun a ha o e => c.keep a o e (fun z => n a z ha) fun ps z => by
  obtain ⟨o', e', hn⟩ := h.nt a ha
  rw [e] at e'
  cases e'
  exact hn ps z) c.tk
/-- the ledger has changed, at places of its own -/
theorem StoAt.setL {fp : List Addr} {L' : Led} (h : StoAt K H b S) (c : Chg fp H H') (hs : ∀ a ∈ fp, a ∈ S.L.fp S.l) (hl : LedAt K H' S.l L') (nw : ∀ a ∈ L'.fp S.l, a ∈ S.L.fp S.l ∨ H a = none) : StoAt K H' b { S with L := L' } := by
  have ne := sto_ne h.nd
  have ko : ∀ a ∈ S.own b, ∀ o, H a = some o → H' a = some o := fun a ha o e => c.keep a o e fun z => ne.oL a ha (hs a z)
  have ht : TbAt K H' S.t S.T := h.tab.chg c fun a ha => ne.LT a (hs a ha)
  obtain ⟨dx, vc, e, e1⟩ := h.ob
  obtain ⟨ws, hw, hw2⟩ := h.wr
  refine ⟨⟨dx, vc, ko _ mem_b _ e, e1.keep c.tk⟩, hl, ht, ko _ mem_ix _ h.ix, ko _ mem_cu _ h.cu, ko _ mem_fi _ h.fi, ⟨ws, ko _ mem_wr _ hw, hw2⟩, ?_, h.kn, h.ck, h.cl⟩
  refine sto_nd (S := { S with L := L' }) ne.ow hl ht (fun a ha z => ?_) ne.oT fun a ha z => ?_
  · rcases nw a z with y | y
    · exact ne.oL a ha y
    · exact h.there (fp_own ha) y
  · rcases nw a ha with y | y
    · exact ne.LT a y z
    · exact h.there (fp_T z) y
theorem StoAt.setT {fp : List Addr} {ps : List Page} (h : StoAt K H b S) (c : Chg fp H H') (hs : ∀ a ∈ fp, a ∈ S.T.fp S.t) (ht : TbAt K H' S.t { S.T with pages := ps }) : StoAt K H' b { S with T := { S.T with pages := ps } } := by
  have ne := sto_ne h.nd
  have ko : ∀ a ∈ S.own b, ∀ o, H a = some o → H' a = some o := fun a ha o e => c.keep a o e fun z => ne.oT a ha (hs a z)
  have hl : LedAt K H' S.l S.L := h.led.chg c fun a ha z => ne.LT a z (hs a ha)
  obtain ⟨dx, vc, e, e1⟩ := h.ob
  obtain ⟨ws, hw, hw2⟩ := h.wr
  exact ⟨⟨dx, vc, ko _ mem_b _ e, e1.keep c.tk⟩, hl, ht, ko _ mem_ix _ h.ix, ko _ mem_cu _ h.cu, ko _ mem_fi _ h.fi, ⟨ws, ko _ mem_wr _ hw, hw2⟩, h.nd, h.kn, h.ck, h.cl⟩
theorem StoAt.rest {a : Addr} {o : HO} (h : StoAt K H b S) (ha : a ∈ S.own b) (c : Chg [a] H (upd H a o)) : LedAt K (upd H a o) S.l S.L ∧ TbAt K (upd H a o) S.t S.T := by
  have ne := sto_ne h.nd
  exact ⟨h.led.chg c fun x hx => by rw [List.mem_singleton.mp hx]; exact ne.oL a ha, h.tab.chg c fun x hx => by rw [List.mem_singleton.mp hx]; exact ne.oT a ha⟩
structure OwnNe (b : Addr) (S : Sto) : Prop where
  b_ix : b ≠ S.ix
  b_cu : b ≠ S.cu
  b_fi : b ≠ S.fi
  b_wr : b ≠ S.wr
  ix_cu : S.ix ≠ S.cu
  ix_fi : S.ix ≠ S.fi
  ix_wr : S.ix ≠ S.wr
  cu_fi : S.cu ≠ S.fi
  cu_wr : S.cu ≠ S.wr
  fi_wr : S.fi ≠ S.wr
theorem own_ne {b : Addr} {S : Sto} (nd : (S.own b).Nodup) : OwnNe b S := by
  simp only [Sto.own, List.nodup_cons, List.mem_cons, List.not_mem_nil, or_false, not_or] at nd
  exact ⟨nd.1.1, nd.1.2.1, nd.1.2.2.1, nd.1.2.2.2, nd.2.1.1, nd.2.1.2.1, nd.2.1.2.2, nd.2.2.1.1, nd.2.2.1.2, nd.2.2.2.1⟩
/-- the store's own object is written: its number of cursors, its vacuum -/
theorem StoAt.setB (h : StoAt K H b S) {dx : Addr} {vc : V} {n : Nat} {w : V} (e : ∃ vs, H b = some (Ob (ga K "Base") dx nsBase vs)) (hv : Td K H vc colsD) (hn : S.opened ≤ n) :
    StoAt K (upd H b (Ob (ga K "Base") dx nsBase [vc, .ref S.l, .ref S.t, .ref S.ix, .ref S.cu, .int (n : Int), .ref S.fi, .ref S.wr, w])) b { S with opened := n, vac := w } := by
  obtain ⟨vs, e⟩ := e
  have c : Chg [b] H (upd H b (Ob (ga K "Base") dx nsBase [vc, .ref S.l, .ref S.t, .ref S.ix, .ref S.cu, .int (n : Int), .ref S.fi, .ref S.wr, w])) := Chg.upd e (by simp)
  obtain ⟨hl, ht⟩ := h.rest mem_b c
  obtain ⟨ws, hw, hw2⟩ := h.wr
  have on := own_ne (sto_ne h.nd).ow
  have ko : ∀ {a : Addr} {o : HO}, a ≠ b → H a = some o → upd H b (Ob (ga K "Base") dx nsBase [vc, .ref S.l, .ref S.t, .ref S.ix, .ref S.cu, .int (n : Int), .ref S.fi, .ref S.wr, w]) a = some o := fun {a o} hne e => by
    rw [upd_ne hne]
    exact e
  exact ⟨⟨dx, vc, upd_same, hv.keep c.tk⟩, hl, ht, ko (Ne.symm on.b_ix) h.ix, ko (Ne.symm on.b_cu) h.cu, ko (Ne.symm on.b_fi) h.fi, ⟨ws, ko (Ne.symm on.b_wr) hw, hw2⟩, h.nd, h.kn, fun q hq => Nat.le_trans (h.ck q hq) hn, h.cl⟩
theorem StoAt.setCu (h : StoAt K H b S) {cs : List (Nat × Addr)} (kn : (cs.map (·.1)).Nodup) (ck : ∀ q ∈ cs, q.1 ≤ S.opened) (cl : cs.length ≤ 8) : StoAt K (upd H S.cu (.dK (dealK cs))) b { S with cs := cs } := by
  have c : Chg [S.cu] H (upd H S.cu (.dK (dealK cs))) := Chg.upd h.cu (by simp)
  obtain ⟨hl, ht⟩ := h.rest mem_cu c
  obtain ⟨dx, vc, e, e1⟩ := h.ob
  obtain ⟨ws, hw, hw2⟩ := h.wr
  have on := own_ne (sto_ne h.nd).ow
  have ko : ∀ {a : Addr} {o : HO}, a ≠ S.cu → H a = some o → upd H S.cu (.dK (dealK cs)) a = some o := fun {a o} hne e => by
    rw [upd_ne hne]
    exact e
  exact ⟨⟨dx, vc, ko on.b_cu e, e1.keep c.tk⟩, hl, ht, ko on.ix_cu h.ix, upd_same, ko (Ne.symm on.cu_fi) h.fi, ⟨ws, ko (Ne.symm on.cu_wr) hw, hw2⟩, h.nd, kn, ck, cl⟩
theorem StoAt.setWr (h : StoAt K H b S) {ws : List Nat} (wn : ws.Nodup) (wk : ∀ k ∈ ws, k ≤ 63) : StoAt K (upd H S.wr (.dK (markK ws))) b S := by
  obtain ⟨ws0, hw, _⟩ := h.wr
  have c : Chg [S.wr] H (upd H S.wr (.dK (markK ws))) := Chg.upd hw (by simp)
  obtain ⟨hl, ht⟩ := h.rest mem_wr c
  obtain ⟨dx, vc, e, e1⟩ := h.ob
  have on := own_ne (sto_ne h.nd).ow
  have ko : ∀ {a : Addr} {o : HO}, a ≠ S.wr → H a = some o → upd H S.wr (.dK (markK ws)) a = some o := fun {a o} hne e => by
    rw [upd_ne hne]
    exact e
  exact ⟨⟨dx, vc, ko on.b_wr e, e1.keep c.tk⟩, hl, ht, ko on.ix_wr h.ix, ko on.cu_wr h.cu, ko on.fi_wr h.fi, ⟨ws, upd_same, wn, wk⟩, h.nd, h.kn, h.ck, h.cl⟩
/-- another dict of cursors, empty, at a new place -/
theorem StoAt.newCu (h : StoAt K H b S) {dx : Addr} {vc : V} {cu : Addr} (hcu : H cu = some (.dK [])) (ncu : cu ∉ S.fp b) (e : H b = some (Ob (ga K "Base") dx nsBase [vc, .ref S.l, .ref S.t, .ref S.ix, .ref S.cu, .int (S.opened : Int), .ref S.fi, .ref S.wr, S.vac])) (hv : Td K H vc colsD) :
    StoAt K (upd H b (Ob (ga K "Base") dx nsBase [vc, .ref S.l, .ref S.t, .ref S.ix, .ref cu, .int (S.opened : Int), .ref S.fi, .ref S.wr, S.vac])) b { S with cu := cu, cs := [] } := by
  have c : Chg [b] H (upd H b (Ob (ga K "Base") dx nsBase [vc, .ref S.l, .ref S.t, .ref S.ix, .ref cu, .int (S.opened : Int), .ref S.fi, .ref S.wr, S.vac])) := Chg.upd e (by simp)
  obtain ⟨hl, ht⟩ := h.rest mem_b c
  obtain ⟨ws, hw, hw2⟩ := h.wr
  have ne := sto_ne h.nd
  have on := own_ne ne.ow
  have ko : ∀ {a : Addr} {o : HO}, a ≠ b → H a = some o → upd H b (Ob (ga K "Base") dx nsBase [vc, .ref S.l, .ref S.t, .ref S.ix, .ref cu, .int (S.opened : Int), .ref S.fi, .ref S.wr, S.vac]) a = some o := fun {a o} hne e => by
    rw [upd_ne hne]
    exact e
  have cub : cu ≠ b := fun z => ncu (z ▸ fp_own mem_b)
  have cuix : cu ≠ S.ix := fun z => ncu (z ▸ fp_own mem_ix)
  have cufi : cu ≠ S.fi := fun z => ncu (z ▸ fp_own mem_fi)
  have cuwr : cu ≠ S.wr := fun z => ncu (z ▸ fp_own mem_wr)
  have mo : ∀ a ∈ Sto.own b { S with cu := cu, cs := [] }, a = cu ∨ a ∈ S.own b := fun a ha => by
    simp only [Sto.own, List.mem_cons, List.not_mem_nil, or_false] at ha ⊢
    rcases ha with z | z | z | z | z
    · exact .inr (.inl z)
    · exact .inr (.inr (.inl z))
    · exact .inl z
    · exact .inr (.inr (.inr (.inr (.inl z))))
    · exact .inr (.inr (.inr (.inr (.inr z))))
  refine ⟨⟨dx, vc, upd_same, hv.keep c.tk⟩, hl, ht, ko (Ne.symm on.b_ix) h.ix, ko cub hcu, ko (Ne.symm on.b_fi) h.fi, ⟨ws, ko (Ne.symm on.b_wr) hw, hw2⟩, ?_, List.nodup_nil, nofun, Nat.zero_le _⟩
  refine sto_nd (S := { S with cu := cu, cs := [] }) ?_ hl ht (fun a ha z => ?_) (fun a ha z => ?_) ne.LT
  · simp [Sto.own, on.b_ix, on.b_fi, on.b_wr, on.ix_fi, on.ix_wr, on.fi_wr, Ne.symm cub, Ne.symm cuix, cufi, cuwr]
  · rcases mo a ha with y | y
    · exact ncu (y ▸ fp_L z)
    · exact ne.oL a y z
  · rcases mo a ha with y | y
    · exact ncu (y ▸ fp_T z)
    · exact ne.oT a y z
end
end Rc

set_option Elab.async false
set_option linter.all false
set_option maxRecDepth 100000
set_option maxHeartbeats 4000000
namespace Rc
open PySem PySem.Spec PyProof.Rows L2 He
def Sto.wL (S : Sto) (L : Led) : Sto := { S with L := L }
def Sto.wT (S : Sto) (ps : List Page) : Sto := { S with T := { S.T with pages := ps } }
theorem begun_fp {L : Led} {l : Addr} {d : Dl} : ∀ a ∈ (L.begun d).fp l, a ∈ L.fp l ∨ a = d.a ∨ a = d.p := fun a ha => by
  unfold Led.begun Led.fp at ha
  simp only [List.flatMap_append, List.mem_cons, List.mem_append, List.flatMap_cons, List.flatMap_nil, List.append_nil, List.not_mem_nil, or_false] at ha
  unfold Led.fp
  simp only [List.mem_cons]
  rcases ha with z | z | z | z | z | z
  · exact .inl (.inl z)
  · exact .inl (.inr (.inl z))
  · exact .inl (.inr (.inr (.inl z)))
  · exact .inl (.inr (.inr (.inr (.inl z))))
  · exact .inl (.inr (.inr (.inr (.inr z))))
  · exact .inr z
/-- one that runs -/
structure RunD (L : Led) (l1 : List Dl) (d : Dl) (l2 : List Dl) : Prop where
  ac : L.act = l1 ++ d :: l2
  n1 : 1 ≤ d.n
  ru : L.states[d.n - 1]? = some .runs
def sp_Base_begin (K : PySem.W.Frag) : Sp := s2 fun x y H Q => ∃ b S, x = .ref b ∧ y = .str "each" ∧ StoAt K H b S ∧ KL S.L ∧ S.L.owners.length < 63 ∧
  ∀ d H', d.n = S.L.owners.length + 1 → d.parts = [d.n] → d.cmd = 0 → H d.a = none → H d.p = none → Chg (S.fp b) H H' → StoAt K H' b (S.wL (S.L.begun d)) → Q (.int ((d.n : Nat) : Int)) H'
theorem okf_Base_begin {P : Program} {w : World} {K : PySem.W.Frag} {mg : Str → Option Value} {base : Heap} (T : Tx K mg) : ∃ fd, FnOk P w K mg base CX0 4 (fAd K ("Base", some "begin")) fd ["self", "level"] (sp_Base_begin K) ∧ FunD K "begin" "Base.begin" (defArgs t_Base_begin) (defBody t_Base_begin) (defScope t_Base_begin) [.str "each"] [] (fAd K ("Base", some "begin")) fd := by
  obtain ⟨fd, F⟩ := fn_Base_begin T
  refine ⟨fd, okn2 F sc_Base_begin fun self level H Q h => ?_, F⟩
  intro cdv A outer s E hr
  have hu := hu_of hr
  refine ⟨_, (pss_one (ps_ret (pe_mt (ok_Ledger_begin T) (T.m_Ledger_begin) (hr.mono (by decide)) (pe_at (T.f_Base_own_ledger) (pv 0)) (pa_cons (pv 1) pa_nil)))), ?_⟩
  obtain ⟨b, S, ex, ey, hS, kl, lt, q⟩ := h
  subst ex ey
  obtain ⟨dx, vc, e, e1⟩ := hS.ob
  refine ⟨_, rfl, b, dx, _, _, rfl, e, rfl, ?_⟩
  obtain ⟨dl, el⟩ := hS.led.ob
  refine ⟨S.l, dl, _, rfl, el, _, rfl, _, _, rfl, S.l, S.L, rfl, rfl, hS.led, kl, lt, fun d H' h1 h2 h3 h4 h5 c hl => ?_⟩
  have sub : ∀ a ∈ [S.L.de, S.L.ow, S.L.st], a ∈ S.L.fp S.l := fun a ha => by
    simp only [List.mem_cons, List.not_mem_nil, or_false] at ha
    rcases ha with z | z | z <;> simp [Led.fp, z]
  refine q d H' h1 h2 h3 h4 h5 (c.mono fun a ha => fp_L (sub a ha)) (hS.setL c sub hl fun a ha => ?_)
  rcases begun_fp a ha with z | z | z
  · exact .inl z
  · exact .inr (z ▸ h4)
  · exact .inr (z ▸ h5)
theorem ok_Base_begin {P : Program} {w : World} {K : PySem.W.Frag} {mg : Str → Option Value} {base : Heap} (T : Tx K mg) : Df P w K mg base (fAd K ("Base", some "begin")) 4 [] (sp_Base_begin K) :=
  df_dfl (okf_Base_begin T) 2 1 (List.cons_ne_nil _ _) rfl fun T kV doc pm an cdv ct us its hu hi => match us, hu, its, hi with | [_, _], _, [_], _ => ⟨_, rfl, rfl⟩
theorem ok_Base_begin_0 {P : Program} {w : World} {K : PySem.W.Frag} {mg : Str → Option Value} {base : Heap} (T : Tx K mg) : Df P w K mg base (fAd K ("Base", some "begin")) 4 [.str "each"] (sp_Base_begin K) :=
  df_dfl (okf_Base_begin T) 1 0 (List.cons_ne_nil _ _) rfl fun T kV doc pm an cdv ct us its hu hi => match us, hu, its, hi with | [_], _, [_], _ => ⟨_, rfl, rfl⟩
theorem withD_fp {L : Led} {l : Addr} {l1 l2 : List Dl} {d d' : Dl} (ea : L.act = l1 ++ d :: l2) (eA : d'.a = d.a) (eP : d'.p = d.p) : (L.withD l1 d' l2).fp l = L.fp l := by
  unfold Led.withD Led.fp
  rw [ea]
  simp [eA, eP]
theorem act_kv {K : PySem.W.Frag} {H : Hp} {l : Addr} {L : Led} {l1 l2 : List Dl} {d : Dl} (h : LedAt K H l L) (ea : L.act = l1 ++ d :: l2) : (d.n, d.a) ∈ L.kvs := (h.act d (by rw [ea]; simp)).2
def savedL (L : Led) (l1 : List Dl) (d : Dl) (l2 : List Dl) : Led := (L.push d.n).withD l1 { d with parts := d.parts ++ [L.owners.length + 1] } l2
def sp_Base_save (K : PySem.W.Frag) : Sp := s2 fun x y H Q => ∃ b S l1 d l2, x = .ref b ∧ y = .int ((d.n : Nat) : Int) ∧ StoAt K H b S ∧ RunD S.L l1 d l2 ∧ S.L.owners.length < 63 ∧ d.parts.length < 8 ∧
  ∀ H', Chg (S.fp b) H H' → StoAt K H' b (S.wL (savedL S.L l1 d l2)) → Q (.int ((S.L.owners.length + 1 : Nat) : Int)) H'
theorem ok_Base_save {P : Program} {w : World} {K : PySem.W.Frag} {mg : Str → Option Value} {base : Heap} (T : Tx K mg) : Df P w K mg base (fAd K ("Base", some "save")) 4 [] (sp_Base_save K) := by
  obtain ⟨fd, F⟩ := fn_Base_save T
  refine df2 F sc_Base_save (fun _ _ _ _ _ _ us hl => match us, hl with | [_, _], _ => rfl) fun self t H Q h => ?_
  intro cdv A outer s E hr
  have hu := hu_of hr
  refine ⟨_, (pss_cons (ps_expr (pe_mt (ok_Ledger_look_running T) (T.m_Ledger_look_running) (hr.mono (by decide)) (pe_at (T.f_Base_own_ledger) (pv 0)) (pa_cons (pv 1) pa_nil)))
    (pss_one (ps_ret (pe_mt (ok_Ledger_save T) (T.m_Ledger_save) (hr.mono (by decide)) (pe_at (T.f_Base_own_ledger) (pv 0)) (pa_cons (pv 1) pa_nil))))), ?_⟩
  obtain ⟨b, S, l1, d, l2, ex, ey, hS, rd, lt, lp, q⟩ := h
  subst ex ey
  obtain ⟨dx, vc, e, e1⟩ := hS.ob
  obtain ⟨dl, el⟩ := hS.led.ob
  refine ⟨_, rfl, b, dx, _, _, rfl, e, rfl, S.l, dl, _, rfl, el, _, rfl, _, _, rfl, S.l, S.L, d.n, d.a, rfl, rfl, hS.led, act_kv hS.led rd.ac, rd.n1, rd.ru, ?_⟩
  refine ⟨_, rfl, b, dx, _, _, rfl, e, rfl, S.l, dl, _, rfl, el, _, rfl, _, _, rfl, S.l, S.L, l1, d, l2, rfl, rfl, hS.led, rd.ac, lt, lp, fun H' c hl => ?_⟩
  have dm : d ∈ S.L.act := by rw [rd.ac]; simp
  have sub : ∀ a ∈ [S.L.ow, S.L.st, d.p], a ∈ S.L.fp S.l := fun a ha => by
    simp only [List.mem_cons, List.not_mem_nil, or_false] at ha
    rcases ha with z | z | z
    · simp [Led.fp, z]
    · simp [Led.fp, z]
    · rw [z]; exact mem_fp_p dm
  refine q H' (c.mono fun a ha => fp_L (sub a ha)) (hS.setL c sub hl fun a ha => .inl ?_)
  have ef : Led.fp S.l (savedL S.L l1 d l2) = Led.fp S.l S.L := withD_fp (L := S.L.push d.n) (d := d) (d' := { d with parts := d.parts ++ [S.L.owners.length + 1] }) rd.ac rfl rfl
  rw [ef] at ha
  exact ha
def sp_Base_undone (K : PySem.W.Frag) : Sp := s1 fun x H Q => ∃ b S, x = .ref b ∧ StoAt K H b S ∧ ∀ r H', Same H H' → H r = none → H' r = some (.lst (IL (withS S.L.states .und))) → Q (.ref r) H'
theorem ok_Base_undone {P : Program} {w : World} {K : PySem.W.Frag} {mg : Str → Option Value} {base : Heap} (T : Tx K mg) : Df P w K mg base (fAd K ("Base", some "undone")) 3 [] (sp_Base_undone K) := by
  obtain ⟨fd, F⟩ := fn_Base_undone T
  refine df1 F sc_Base_undone (fun _ _ _ _ _ _ us hl => match us, hl with | [_], _ => rfl) fun self H Q h => ?_
  intro cdv A outer s E hr
  have hu := hu_of hr
  refine ⟨_, (pss_one (ps_ret (pe_mt0 (ok_Ledger_undone T) (T.m_Ledger_undone) (hr.mono (by decide)) (pe_at (T.f_Base_own_ledger) (pv 0))))), ?_⟩
  obtain ⟨b, S, ex, hS, q⟩ := h
  subst ex
  obtain ⟨dx, vc, e, e1⟩ := hS.ob
  obtain ⟨dl, el⟩ := hS.led.ob
  exact ⟨_, rfl, b, dx, _, _, rfl, e, rfl, S.l, dl, _, rfl, el, _, rfl, S.l, S.L, rfl, hS.led, q⟩
def sp_Base_names (K : PySem.W.Frag) : Sp := s1 fun x H Q => ∃ b S, x = .ref b ∧ StoAt K H b S ∧ ∀ r H', Same H H' → H r = none → H' r = some (.lst []) → Q (.ref r) H'
theorem ok_Base_names {P : Program} {w : World} {K : PySem.W.Frag} {mg : Str → Option Value} {base : Heap} (T : Tx K mg) : Df P w K mg base (fAd K ("Base", some "names")) 1 [] (sp_Base_names K) := by
  obtain ⟨fd, F⟩ := fn_Base_names T
  refine df1 F sc_Base_names (fun _ _ _ _ _ _ us hl => match us, hl with | [_], _ => rfl) fun self H Q h => ?_
  intro cdv A outer s E hr
  have hu := hu_of hr
  refine ⟨_, (pss_one (ps_ret (pe_callB (cr_sortedDk rfl) (by rfl) (T.b_sorted) (by decide +kernel) (pa_cons (pe_at (T.f_Base_own_indexes) (pv 0)) pa_nil)))), ?_⟩
  obtain ⟨b, S, ex, hS, q⟩ := h
  subst ex
  obtain ⟨dx, vc, e, e1⟩ := hS.ob
  refine ⟨_, rfl, b, dx, _, _, rfl, e, rfl, S.ix, [], [], rfl, hS.ix, rfl, fun ys p hp _ np => ?_⟩
  have ey : ys = [] := List.Perm.eq_nil hp
  subst ey
  exact q p _ (same_new np) np upd_same
def sp_Base_pages (K : PySem.W.Frag) : Sp := s1 fun x H Q => ∃ b S, x = .ref b ∧ StoAt K H b S ∧ ∀ v H', Same H H' → Td K H' v (.tuple (S.T.pages.map pgD)) → Q v H'
theorem ok_Base_pages {P : Program} {w : World} {K : PySem.W.Frag} {mg : Str → Option Value} {base : Heap} (T : Tx K mg) : Df P w K mg base (fAd K ("Base", some "pages")) 2 [] (sp_Base_pages K) := by
  obtain ⟨fd, F⟩ := fn_Base_pages T
  refine df1 F sc_Base_pages (fun _ _ _ _ _ _ us hl => match us, hl with | [_], _ => rfl) fun self H Q h => ?_
  intro cdv A outer s E hr
  have hu := hu_of hr
  refine ⟨_, (pss_one (ps_ret (pe_mt0 (ok_Table_pages T) (T.m_Table_pages) (hr.mono (by decide)) (pe_at (T.f_Base_own_table) (pv 0))))), ?_⟩
  obtain ⟨b, S, ex, hS, q⟩ := h
  subst ex
  obtain ⟨dx, vc, e, e1⟩ := hS.ob
  obtain ⟨dt, et⟩ := hS.tab.ob
  exact ⟨_, rfl, b, dx, _, _, rfl, e, rfl, S.t, dt, _, rfl, et, _, rfl, S.t, S.T, rfl, hS.tab, q⟩
def sp_Base_marked (K : PySem.W.Frag) : Sp := s1 fun x H Q => ∃ b S, x = .ref b ∧ StoAt K H b S ∧ ∀ (r : Addr) (ns : List Int) (H' : Hp), Same H H' → H' r = some (.lst (ns.map V.int)) → Q (.ref r) H'
theorem ok_Base_marked {P : Program} {w : World} {K : PySem.W.Frag} {mg : Str → Option Value} {base : Heap} (T : Tx K mg) : Df P w K mg base (fAd K ("Base", some "marked")) 2 [] (sp_Base_marked K) := by
  obtain ⟨fd, F⟩ := fn_Base_marked T
  refine df1 F sc_Base_marked (fun _ _ _ _ _ _ us hl => match us, hl with | [_], _ => rfl) fun self H Q h => ?_
  intro cdv A outer s E hr
  have hu := hu_of hr
  refine ⟨_, (pss_one (ps_ret (pe_mt0 (ok_Table_marked T) (T.m_Table_marked) (hr.mono (by decide)) (pe_at (T.f_Base_own_table) (pv 0))))), ?_⟩
  obtain ⟨b, S, ex, hS, q⟩ := h
  subst ex
  obtain ⟨dx, vc, e, e1⟩ := hS.ob
  obtain ⟨dt, et⟩ := hS.tab.ob
  exact ⟨_, rfl, b, dx, _, _, rfl, e, rfl, S.t, dt, _, rfl, et, _, rfl, S.t, S.T, rfl, hS.tab, q⟩
def sp_Base_dead_slots (K : PySem.W.Frag) : Sp := s2 fun x y H Q => ∃ b S n p, x = .ref b ∧ StoAt K H b S ∧ y = .int ((n : Nat) : Int) ∧ S.T.pages[n]? = some p ∧
  ∀ r us H', Same H H' → H r = none → H' r = some (.lst (IL us)) → us.length ≤ 8 → (∀ m ∈ us, p[m]? = some .dead) → Q (.ref r) H'
theorem ok_Base_dead_slots {P : Program} {w : World} {K : PySem.W.Frag} {mg : Str → Option Value} {base : Heap} (T : Tx K mg) : Df P w K mg base (fAd K ("Base", some "dead_slots")) 2 [] (sp_Base_dead_slots K) := by
  obtain ⟨fd, F⟩ := fn_Base_dead_slots T
  refine df2 F sc_Base_dead_slots (fun _ _ _ _ _ _ us hl => match us, hl with | [_, _], _ => rfl) fun self page H Q h => ?_
  intro cdv A outer s E hr
  have hu := hu_of hr
  refine ⟨_, (pss_one (ps_ret (pe_mt (ok_Table_dead_slots T) (T.m_Table_dead_slots) (hr.mono (by decide)) (pe_at (T.f_Base_own_table) (pv 0)) (pa_cons (pv 1) pa_nil)))), ?_⟩
  obtain ⟨b, S, n, p, ex, hS, ey, hp, q⟩ := h
  subst ex ey
  obtain ⟨dx, vc, e, e1⟩ := hS.ob
  obtain ⟨dt, et⟩ := hS.tab.ob
  exact ⟨_, rfl, b, dx, _, _, rfl, e, rfl, S.t, dt, _, rfl, et, _, rfl, _, _, rfl, S.t, S.T, n, p, rfl, rfl, hS.tab, hp, q⟩
def sp_Base_wrote (K : PySem.W.Frag) : Sp := s2 fun x y H Q => ∃ b S l1 d l2, x = .ref b ∧ y = .int ((d.n : Nat) : Int) ∧ StoAt K H b S ∧ RunD S.L l1 d l2 ∧ d.n ≤ 63 ∧
  ∀ H', Chg (S.fp b) H H' → StoAt K H' b (S.wL (S.L.withD l1 { d with cmd := d.cmd + 1 } l2)) → Q .non H'
theorem stepL {K : PySem.W.Frag} {H H' : Hp} {b : Addr} {S : Sto} {l1 l2 : List Dl} {d : Dl} (hS : StoAt K H b S) (rd : RunD S.L l1 d l2) (c : Chg [d.a] H H') (hl : LedAt K H' S.l (S.L.withD l1 { d with cmd := d.cmd + 1 } l2)) :
    StoAt K H' b (S.wL (S.L.withD l1 { d with cmd := d.cmd + 1 } l2)) ∧ Chg (S.fp b) H H' := by
  have dm : d ∈ S.L.act := by rw [rd.ac]; simp
  have sub : ∀ a ∈ [d.a], a ∈ S.L.fp S.l := fun a ha => by
    rw [List.mem_singleton.mp ha]
    exact mem_fp_a dm
  refine ⟨hS.setL c sub hl fun a ha => .inl ?_, c.mono fun a ha => fp_L (sub a ha)⟩
  have ef := withD_fp (l := S.l) (d' := { d with cmd := d.cmd + 1 }) rd.ac rfl rfl
  rw [ef] at ha
  exact ha
theorem wL_fp {S : Sto} {b : Addr} {L : Led} (h : L.fp S.l = S.L.fp S.l) : (S.wL L).fp b = S.fp b := by
  show Sto.own b S ++ (L.fp S.l ++ S.T.fp S.t) = _
  rw [h]
  rfl
theorem wT_fp {S : Sto} {b : Addr} {ps : List Page} : (S.wT ps).fp b = S.fp b := rfl
theorem mark_len {ws : List Nat} (nd : ws.Nodup) (h : ∀ k ∈ ws, k ≤ 63) : (markK ws).length < sizeLine := by
  refine small1000 ?_
  have := nodup_le (n := 64) nd fun k hk => Nat.lt_succ_of_le (h k hk)
  unfold markK
  rw [List.length_map]
  omega
theorem ok_Base_wrote {P : Program} {w : World} {K : PySem.W.Frag} {mg : Str → Option Value} {base : Heap} (T : Tx K mg) : Df P w K mg base (fAd K ("Base", some "wrote")) 2 [] (sp_Base_wrote K) := by
  obtain ⟨fd, F⟩ := fn_Base_wrote T
  refine df2 F sc_Base_wrote (fun _ _ _ _ _ _ us hl => match us, hl with | [_, _], _ => rfl) fun self t H Q h => ?_
  intro cdv A outer s E hr
  have hu := hu_of hr
  refine ⟨_, (pss_cons (ps_expr (pe_mt (ok_Ledger_stepped T) (T.m_Ledger_stepped) (hr.mono (by decide)) (pe_at (T.f_Base_own_ledger) (pv 0)) (pa_cons (pv 1) pa_nil)))
    (pss_one (ps_dput hu (pe_at (T.f_Base_own_writers) (pv 0)) (pv 1) pe_bl rfl))), ?_⟩
  obtain ⟨b, S, l1, d, l2, ex, ey, hS, rd, le, q⟩ := h
  subst ex ey
  obtain ⟨dx, vc, e, e1⟩ := hS.ob
  obtain ⟨dl, el⟩ := hS.led.ob
  refine ⟨_, rfl, b, dx, _, _, rfl, e, rfl, S.l, dl, _, rfl, el, _, rfl, _, _, rfl, S.l, S.L, l1, d, l2, rfl, rfl, hS.led, rd.ac, fun H1 c1 hl1 => ?_⟩
  obtain ⟨h1, c1'⟩ := stepL hS rd c1 hl1
  obtain ⟨dx2, vc2, e2, e3⟩ := h1.ob
  obtain ⟨ws, hw, wn, wk⟩ := h1.wr
  refine ⟨_, rfl, b, dx2, _, _, rfl, e2, rfl, _, rfl, S.wr, _, rfl, DPut.k (k := .inl ((d.n : Nat) : Int)) hw (mark_len wn wk), ?_⟩
  rw [put_mark]
  refine q _ (c1'.trans (Chg.upd hw (fp_own mem_wr))) (h1.setWr ?_ ?_)
  · split
    · exact wn
    · rename_i h
      rw [List.nodup_append]
      exact ⟨wn, List.nodup_cons.mpr ⟨nofun, List.nodup_nil⟩, fun a ha b hb => by
        rw [List.mem_singleton.mp hb]
        exact fun z => h (z ▸ ha)⟩
  · intro k hk
    split at hk
    · exact wk k hk
    · rcases List.mem_append.mp hk with z | z
      · exact wk k z
      · rw [List.mem_singleton.mp z]
        exact le
end Rc


set_option Elab.async false
set_option linter.all false
set_option maxRecDepth 100000
set_option maxHeartbeats 4000000
namespace Rc
open PySem PySem.Spec PyProof.Rows L2 He
def heldD (p : Nat × Sn) : PyData := .tuple [.tuple [.str "cursor", .int ((p.1 : Nat) : Int)], p.2.d]
def CsAt (K : PySem.W.Frag) (H : Hp) (S : Sto) : Prop := ∀ q ∈ S.cs, ∃ C, CurAt K H q.2 C
theorem deal_keys (kvs : List (Nat × Addr)) : (dealK kvs).map (·.1) = (kvs.map fun q => ((q.1 : Nat) : Int)).map Sum.inl := by
  unfold dealK
  rw [List.map_map, List.map_map]
  rfl
theorem CsAt.same {K : PySem.W.Frag} {H H' : Hp} {S : Sto} (h : CsAt K H S) (s : Same H H') : CsAt K H' S := fun q hq => let ⟨C, e⟩ := h q hq; ⟨C, e.same s⟩
def sp_Base_kept (K : PySem.W.Frag) : Sp := s1 fun x H Q => ∃ b S, x = .ref b ∧ StoAt K H b S ∧ CsAt K H S ∧
  ∀ (r : Addr) (vs : List V) (ds : List (Nat × Sn)) (H' : Hp), Same H H' → H r = none → H' r = some (.lst vs) → Tds K H' vs (ds.map heldD) → ds.length ≤ 8 → Q (.ref r) H'
theorem ok_Base_kept {P : Program} {w : World} {K : PySem.W.Frag} {mg : Str → Option Value} {base : Heap} (T : Tx K mg) : Df P w K mg base (fAd K ("Base", some "kept")) 2 [] (sp_Base_kept K) := by
  obtain ⟨fd, F⟩ := fn_Base_kept T
  refine df1 F sc_Base_kept (fun _ _ _ _ _ _ us hl => match us, hl with | [_], _ => rfl) fun self H Q h => ?_
  intro cdv A outer s E hr
  have hu := hu_of hr
  refine ⟨_, (pss_cons (ps_set (i := 1) (sc_Base_kept).nd rfl (.inl rfl) (pe_lst pa_nil))
    (pss_cons (ps_for PassesOwn.never rfl (pi_listK K (pe_callB (cr_sortedDk rfl) (by rfl) (T.b_sorted) (by decide +kernel) (pa_cons (pe_at (T.f_Base_own_cursors) (pv 0)) pa_nil))) (pg_name (i := 2) (sc_Base_kept).nd rfl (.inl rfl))
    (pss_cons (ps_set (i := 5) (sc_Base_kept).nd rfl (.inl rfl) (pe_dget hu (pe_at (T.f_Base_own_cursors) (pv 0)) (pv 2) (fun _ _ => rfl)))
    (pss_one (ps_expr (pe_bm PySem.F.plainAttrs_list PySem.F.slot_list_append PySem.F.type_list_append mt_append (pv 1) (pa_cons (pe_tupdK K (pa_cons (pe_tupdK K (pa_cons pe_str (pa_cons (pv 2) pa_nil))) (pa_cons (pe_mt0 (ok_HeapCursor_snapshot T) (T.m_HeapCursor_snapshot) (hr.mono (by decide)) (pv 5)) pa_nil))) pa_nil))))))
    (pss_cons (ps_for PassesOwn.never rfl (pi_listK K (pe_callB (cr_sortedDk rfl) (by rfl) (T.b_sorted) (by decide +kernel) (pa_cons (pe_at (T.f_Base_own_firsts) (pv 0)) pa_nil))) (pg_name (i := 3) (sc_Base_kept).nd rfl (.inl rfl))
    (pss_one ps_never))
    (pss_cons (ps_for PassesOwn.never rfl (pi_listK K (pe_mt0 (ok_Base_names T) (T.m_Base_names) (hr.mono (by decide)) (pv 0))) (pg_name (i := 4) (sc_Base_kept).nd rfl (.inr rfl))
    (pss_one ps_never))
    (pss_one (ps_ret (pv 1))))))), ?_⟩
  obtain ⟨b, S, ex, hS, hc, q⟩ := h
  subst ex
  obtain ⟨dx, vc, e, e1⟩ := hS.ob
  refine ⟨Nat.zero_le _, fun F nF => ?_⟩
  have s0 : Same H (upd H F (.lst [])) := same_new nF
  have fcu : F ≠ S.cu := fun z => by rw [z, hS.cu] at nF; cases nF
  have ffi : F ≠ S.fi := fun z => by rw [z, hS.fi] at nF; cases nF
  refine ⟨_, rfl, b, dx, _, _, rfl, s0 _ _ e, rfl, S.cu, _, S.cs.map (fun q => ((q.1 : Nat) : Int)), rfl, s0 _ _ hS.cu, deal_keys _, fun ys p hp _ np => ⟨p, rfl, ⟨_, SqL.of upd_same⟩, ?_⟩⟩
  have s1 := same_new (o := .lst (ys.map V.int)) np
  have pF : p ≠ F := fun z => by rw [z, upd_same] at np; cases np
  have ly : ys.length = S.cs.length := by rw [hp.length_eq, List.length_map]
  refine for_list (K := K) (a := p) (xs := ys.map V.int) (fun i σ' H' => ∃ (u2 u3 u4 u5 u6 : Option V) (vs : List V) (ds : List (Nat × Sn)), σ' = [some (.ref b), some (.ref F), u2, u3, u4, u5, u6] ∧ Same H H' ∧ H' F = some (.lst vs) ∧ Tds K H' vs (ds.map heldD) ∧ H' p = some (.lst (ys.map V.int)) ∧ ds.length ≤ i) ⟨_, _, _, _, _, [], [], rfl, s0.trans s1, s1 _ _ upd_same, .nil, upd_same, Nat.zero_le _⟩ (fun i σ' H' _ ⟨_, _, _, _, _, _, _, _, _, _, _, h3, _⟩ => SqL.of h3) ?_ ?_
  · rintro i x σ' H1 hi ⟨u2, u3, u4, u5, u6, vs, ds, rfl, sm, hF, td, hp1, ld⟩
    have il : i < ys.length := by
      have := (List.getElem?_eq_some_iff.mp hi).1
      rwa [List.length_map] at this
    rw [List.getElem?_map] at hi
    obtain ⟨y, hy, ey⟩ := Option.map_eq_some_iff.mp hi
    subst ey
    obtain ⟨qq, hq, eq⟩ := List.mem_map.mp (hp.mem_iff.mp (List.mem_of_getElem? hy))
    obtain ⟨C, hC⟩ := hc qq hq
    have hC1 := hC.same sm
    obtain ⟨dc, w1, w2, f, f1, f2⟩ := hC1.ob
    subst eq
    have dg : DGet H1 S.cu (.int ((qq.1 : Nat) : Int)) (some (.ref qq.2)) := DGet.keep1 (H := H) (sm _ _ hS.cu) (valV_mem (f := V.ref) hS.kn hq)
    refine ⟨_, rfl, b, dx, _, _, rfl, sm _ _ e, rfl, _, rfl, S.cu, _, rfl, dg, ?_⟩
    refine ⟨_, rfl, .inl ⟨rfl, _, SqL.of hF⟩, _, rfl, _, Tds.cons (.str _) (.cons (.int _) .nil), Nat.le_of_ble_eq_true rfl, fun v2 H2 sm2 hv2 => ?_⟩
    refine ⟨_, rfl, qq.2, dc, _, rfl, sm2 _ _ f, _, rfl, qq.2, C, rfl, hC1.same sm2, fun v3 hv3 => ?_⟩
    refine ⟨_, Tds.cons hv2 (.cons hv3 .nil), Nat.le_of_ble_eq_true rfl, fun v4 H4 sm4 hv4 => ?_⟩
    have sm24 := sm2.trans sm4
    have td4 := td.same sm24
    have lv := td.length
    rw [List.length_map] at lv
    have cl := hS.cl
    refine ⟨F, vs, v4, rfl, rfl, sm24 _ _ hF, small1000 (by omega), ?_⟩
    have tk := tk_lst (o := .lst (vs ++ [v4])) (sm24 _ _ hF)
    refine ⟨_, _, _, _, _, vs ++ [v4], ds ++ [(qq.1, C.sn)], rfl, fun a o ea => ?_, upd_same, ?_, ?_, by rw [List.length_append, List.length_singleton]; omega⟩
    · rw [upd_ne (ne_of_none ea nF)]
      exact sm24 _ _ (sm _ _ ea)
    · rw [List.map_append]
      exact (td4.keep tk).app (.cons (hv4.keep tk) .nil)
    · rw [upd_ne pF]
      exact sm24 _ _ hp1
  · rintro σ' H1 ⟨u2, u3, u4, u5, u6, vs, ds, rfl, sm, hF, td, hp1, ld⟩
    rw [List.length_map] at ld
    refine ⟨_, rfl, b, dx, _, _, rfl, sm _ _ e, rfl, S.fi, [], [], rfl, sm _ _ hS.fi, rfl, fun ys2 p2 hp2 _ np2 => ⟨p2, rfl, ⟨_, SqL.of upd_same⟩, ?_⟩⟩
    have ey2 : ys2 = [] := List.Perm.eq_nil hp2
    subst ey2
    have s2 := same_new (o := .lst []) np2
    refine for_list (K := K) (a := p2) (xs := []) (fun i σ' H' => σ' = [some (.ref b), some (.ref F), u2, u3, u4, u5, u6] ∧ Same H1 H' ∧ H' p2 = some (.lst [])) ⟨rfl, s2, upd_same⟩ (fun i σ' H' _ ⟨_, _, h3⟩ => SqL.of h3) (fun i x σ' H' hi _ => by cases hi) ?_
    rintro σ' H2 ⟨rfl, sm2, h2⟩
    have hS2 := (hS.same sm).same sm2
    obtain ⟨dx2, vc2, e2, _⟩ := hS2.ob
    refine ⟨_, rfl, b, dx2, _, rfl, e2, _, rfl, b, S, rfl, hS2, fun r H3 sm3 nr hr3 => ⟨r, rfl, ⟨_, SqL.of hr3⟩, ?_⟩⟩
    refine for_list (K := K) (a := r) (xs := []) (fun i σ' H' => σ' = [some (.ref b), some (.ref F), u2, u3, u4, u5, u6] ∧ H' = H3) ⟨rfl, rfl⟩ (fun i σ' H' _ ⟨_, h3⟩ => SqL.of (by rw [h3]; exact hr3)) (fun i x σ' H' hi _ => by cases hi) ?_
    rintro σ' H4 ⟨rfl, rfl⟩
    have sm13 := sm2.trans sm3
    have cl := hS.cl
    exact ⟨_, rfl, q F vs ds H4 (sm.trans sm13) nF (sm13 _ _ hF) (td.same sm13) (by omega)⟩
def sp_Base_settled (K : PySem.W.Frag) : Sp := s1 fun x H Q => ∃ b S, x = .ref b ∧ StoAt K H b S ∧ CsAt K H S ∧
  ∀ r ss H', Same H H' → H r = none → H' r = some (.lst (IL ss)) → (∀ s ∈ ss, s ∈ withS S.L.states .com) → Q (.ref r) H'
theorem ok_Base_settled {P : Program} {w : World} {K : PySem.W.Frag} {mg : Str → Option Value} {base : Heap} (T : Tx K mg) : Df P w K mg base (fAd K ("Base", some "settled")) 3 [] (sp_Base_settled K) := by
  obtain ⟨fd, F⟩ := fn_Base_settled T
  refine df1 F sc_Base_settled (fun _ _ _ _ _ _ us hl => match us, hl with | [_], _ => rfl) fun self H Q h => ?_
  intro cdv A outer s E hr
  have hu := hu_of hr
  refine ⟨_, (pss_one (ps_ret (pe_cf (ok_settled T) (hr.mono (by decide)) rfl (T.gx_settled_sight) (pa_cons (pe_mt0 (ok_Ledger_committed T) (T.m_Ledger_committed) (hr.mono (by decide)) (pe_at (T.f_Base_own_ledger) (pv 0))) (pa_cons (pe_lc (own := [("holder", 1), ("snapshot", 2)]) (tt := tYes) rfl (sc_Base_settled).nd (pi_listK K (pe_mt0 (ok_Base_kept T) (T.m_Base_kept) (hr.mono (by decide)) (pv 0))) (blkOk_by (N := ["self", "holder", "snapshot"]) (sc := defScope t_Base_settled) (by decide +kernel)) (fun _ _ _ _ _ => (pg_tupK K (n := 2) (by rfl) (pgs_cons (pg_name (i := 1) (sc_Base_settled).nd rfl (.inl rfl)) (pgs_cons (pg_name (i := 2) (sc_Base_settled).nd rfl (.inl rfl)) pgs_nil)))) (fun _ _ _ _ _ => pts_nil) (fun _ _ _ _ _ => (pv 2))) pa_nil))))), ?_⟩
  obtain ⟨b, S, ex, hS, hc, q⟩ := h
  subst ex
  obtain ⟨dx, vc, e, e1⟩ := hS.ob
  obtain ⟨dl, el⟩ := hS.led.ob
  refine ⟨_, rfl, b, dx, _, _, rfl, e, rfl, S.l, dl, _, rfl, el, _, rfl, S.l, S.L, rfl, hS.led, fun a H1 sm1 na ha => ?_⟩
  have hS1 := hS.same sm1
  obtain ⟨dx1, vc1, e1', _⟩ := hS1.ob
  refine ⟨_, rfl, b, dx1, _, rfl, e1', _, rfl, b, S, rfl, hS1, hc.same sm1, fun r vs ds H2 sm2 nr hr2 td ld => ⟨r, rfl, ⟨_, SqL.of hr2⟩, fun D hD => ?_⟩⟩
  have lv := td.length
  rw [List.length_map] at lv
  refine lc_list (K := K) (a := r) (xs := vs) (fun i H' => ∃ acc, CmW H2 D acc H' ∧ Tds K H' acc ((ds.take i).map fun p => p.2.d) ∧ acc.length ≤ i) ⟨[], .start hD, by rw [List.take_zero]; exact .nil, Nat.le_refl _⟩ (fun i H' _ ⟨acc, c, _⟩ => SqL.of (c.sm _ _ hr2)) ?_ ?_
  · rintro i x H3 hi ⟨acc, c, ta, la⟩
    have il : i < vs.length := (List.getElem?_eq_some_iff.mp hi).1
    obtain ⟨d, hd1, hxd⟩ := td.get2 hi
    rw [List.getElem?_map] at hd1
    obtain ⟨p, hp, ep⟩ := Option.map_eq_some_iff.mp hd1
    subst ep
    obtain ⟨xa, xxs, exx, hq, hrr⟩ := (hxd.same c.sm).tup_eq
    subst exx
    cases hrr with | cons h1 hrr =>
    cases hrr with | cons h2 hrr =>
    cases hrr
    rename_i y1 y2
    refine ⟨xa, _, rfl, hq.t, rfl, _, _, rfl, _, _, rfl, rfl, rfl, ?_⟩
    unfold tYes
    refine iteT ⟨_, rfl, acc, c.at_, small1000 (by omega), _, c.push hD _, ?_, by rw [List.length_append, List.length_singleton]; omega⟩
    have tk := tk_lst (o := .lst (acc ++ [y2])) c.at_
    rw [List.take_succ, hp, List.map_append]
    exact (ta.keep tk).app (.cons (h2.keep tk) .nil)
  · rintro H3 ⟨acc, c, ta, la⟩
    rw [lv, List.take_length] at ta
    have sm23 := sm2.trans c.sm
    have l63 : (withS S.L.states .com).length < 64 := by
      have := withS_len S.L.states .com
      have := hS.led.ln
      have := hS.led.lo
      omega
    refine ⟨_, _, rfl, a, D, _, acc, ds.map (·.2), rfl, sm23 _ _ ha, l63, rfl, c.at_, by rw [List.map_map]; exact ta, by rw [List.length_map]; omega, fun l ss H4 sm4 nl hl hss => ?_⟩
    refine q l ss H4 (sm1.trans (sm23.trans sm4)) ?_ hl hss
    cases eq : H l with
    | none => rfl
    | some o =>
      have := (sm1.trans sm23) _ _ eq
      rw [nl] at this
      cases this
def sp_Base_snapshot_for (K : PySem.W.Frag) : Sp := s2 fun x y H Q => ∃ b S l1 d l2, x = .ref b ∧ y = .int ((d.n : Nat) : Int) ∧ StoAt K H b S ∧ KL S.L ∧ RA S.L ∧ RunD S.L l1 d l2 ∧
  ∀ v rs H', Same H H' → Td K H' v (Sn.d ⟨S.L.owners.length + 1, rs, d.parts, d.cmd⟩) → (∀ m ∈ rs, ∃ d2 ∈ S.L.act, d2.n ≠ d.n ∧ m ∈ d2.parts) → Q v H'
theorem ok_Base_snapshot_for {P : Program} {w : World} {K : PySem.W.Frag} {mg : Str → Option Value} {base : Heap} (T : Tx K mg) : Df P w K mg base (fAd K ("Base", some "snapshot_for")) 4 [] (sp_Base_snapshot_for K) := by
  obtain ⟨fd, F⟩ := fn_Base_snapshot_for T
  refine df2 F sc_Base_snapshot_for (fun _ _ _ _ _ _ us hl => match us, hl with | [_, _], _ => rfl) fun self t H Q h => ?_
  intro cdv A outer s E hr
  have hu := hu_of hr
  refine ⟨_, (pss_cons (ps_if (pt_cmp (pc_din hu (pv 1) (pe_at (T.f_Base_own_firsts) (pv 0))) rfl) (pss_one ps_never) pss_nil)
    (pss_one (ps_ret (pe_mt (ok_Ledger_snapshot_now T) (T.m_Ledger_snapshot_now) (hr.mono (by decide)) (pe_at (T.f_Base_own_ledger) (pv 0)) (pa_cons (pv 1) pa_nil))))), ?_⟩
  obtain ⟨b, S, l1, d, l2, ex, ey, hS, kl, ra, rd, q⟩ := h
  subst ex ey
  obtain ⟨dx, vc, e, e1⟩ := hS.ob
  obtain ⟨dl, el⟩ := hS.led.ob
  refine ⟨_, rfl, _, rfl, b, dx, _, _, rfl, e, rfl, S.fi, none, rfl, DGet.k (k := .inl ((d.n : Nat) : Int)) hS.fi, _, rfl, iteF ?_⟩
  exact ⟨_, rfl, b, dx, _, _, rfl, e, rfl, S.l, dl, _, rfl, el, _, rfl, _, _, rfl, S.l, S.L, l1, d, l2, rfl, rfl, hS.led, kl, ra, rd.ac, q⟩
theorem same_of_chg {H H1 H' : Hp} {fp : List Addr} (s : Same H H1) (c : Chg fp H1 H') (n : ∀ a ∈ fp, H a = none) : Same H H' := fun a o e => c.keep a o (s _ _ e) fun z => by
  rw [n a z] at e
  cases e
theorem none_of {H H' : Hp} {a : Addr} (s : Same H H') (n : H' a = none) : H a = none := by
  cases e : H a with
  | none => rfl
  | some o =>
    rw [s _ _ e] at n
    cases n
def sp_Base_cursor_for (K : PySem.W.Frag) : Sp := s5 fun x y z u w H Q => ∃ b S l1 d l2 pt, x = .ref b ∧ y = .int ((d.n : Nat) : Int) ∧ z = .str "heap" ∧ StoAt K H b S ∧ KL S.L ∧ RA S.L ∧ RunD S.L l1 d l2 ∧ (runP S.L d).getLast? = some pt ∧
  ∀ c N rs H', Same H H' → H c = none → H N = none → CurAt K H' c ⟨d.n, pt, ⟨S.L.owners.length + 1, rs, d.parts, d.cmd⟩, none, S.T.pages.length, 0, N, []⟩ → (∀ m ∈ rs, ∃ d2 ∈ S.L.act, d2.n ≠ d.n ∧ m ∈ d2.parts) → Q (.ref c) H'
theorem ok_Base_cursor_for {P : Program} {w : World} {K : PySem.W.Frag} {mg : Str → Option Value} {base : Heap} (T : Tx K mg) : Df P w K mg base (fAd K ("Base", some "cursor_for")) 5 [] (sp_Base_cursor_for K) := by
  obtain ⟨fd, F⟩ := fn_Base_cursor_for T
  refine df5 F sc_Base_cursor_for (fun _ _ _ _ _ _ us hl => match us, hl with | [_, _, _, _, _], _ => rfl) fun self t way bounds keys H Q h => ?_
  intro cdv A outer s E hr
  have hu := hu_of hr
  refine ⟨_, (pss_cons (ps_par (i := 8) (j := 9) (by rfl) (sc_Base_cursor_for).nd rfl rfl (by decide) rfl rfl (pa_cons (pe_mt (ok_Base_snapshot_for T) (T.m_Base_snapshot_for) (hr.mono (by decide)) (pv 0) (pa_cons (pv 1) pa_nil)) (pa_cons (pe_mt (ok_Ledger_working T) (T.m_Ledger_working) (hr.mono (by decide)) (pe_at (T.f_Base_own_ledger) (pv 0)) (pa_cons (pv 1) pa_nil)) pa_nil)) (by rfl))
    (pss_cons (ps_if (pt_cmpR op_eq (pv 2) (pe_gs rfl (T.g_HEAP)) (nomark _)) (pss_one (ps_ret (pe_mk (ok_HeapCursor_init T) (T.k_HeapCursor) (hr.mono (by decide)) rfl (T.g_HeapCursor) (pa_cons (pv 1) (pa_cons (pv 9) (pa_cons (pv 8) (pa_cons (pe_mt0 (ok_Table_many T) (T.m_Table_many) (hr.mono (by decide)) (pe_at (T.f_Base_own_table) (pv 0))) pa_nil))))))) pss_nil)
    (pss_cons ps_never
    (pss_cons ps_never
    (pss_cons ps_never
    (pss_cons ps_never
    (pss_cons ps_never
    (pss_one ps_never)))))))), ?_⟩
  obtain ⟨b, S, l1, d, l2, pt, ex, ey, ez, hS, kl, ra, rd, hl, q⟩ := h
  subst ex ey ez
  obtain ⟨dx, vc, e, e1⟩ := hS.ob
  refine ⟨_, rfl, b, dx, _, rfl, e, _, rfl, _, _, rfl, b, S, l1, d, l2, rfl, rfl, hS, kl, ra, rd, fun v rs H1 sm1 hv hrs => ?_⟩
  have hS1 := hS.same sm1
  obtain ⟨dx1, vc1, e1', _⟩ := hS1.ob
  obtain ⟨dl, el⟩ := hS1.led.ob
  refine ⟨_, rfl, b, dx1, _, _, rfl, e1', rfl, S.l, dl, _, rfl, el, _, rfl, _, _, rfl, S.l, S.L, l1, d, l2, pt, rfl, rfl, hS1.led, rd.ac, hl, fun H2 sm2 => ⟨_, _, rfl, ?_⟩⟩
  have hS2 := hS1.same sm2
  obtain ⟨dx2, vc2, e2, _⟩ := hS2.ob
  obtain ⟨dt, et⟩ := hS2.tab.ob
  refine ⟨_, rfl, rfl, _, rfl, ite2 (fun _ => ?_) fun h => absurd (by decide +kernel) h⟩
  refine ⟨_, rfl, _, rfl, _, rfl, _, rfl, b, dx2, _, _, rfl, e2, rfl, S.t, dt, _, rfl, et, _, rfl, S.t, S.T, rfl, hS2.tab, fun c cdx nc ncdx hne => ?_⟩
  have s3 := same_mk (o1 := .own c) (o2 := .ins (ga K "HeapCursor") cdx []) nc ncdx
  refine ⟨_, _, _, _, _, rfl, c, cdx, d.n, pt, S.T.pages.length, _, rfl, upd_same, rfl, rfl, (hv.same sm2).same s3, rfl, fun N H3 c3 nN hC => ⟨rfl, ?_⟩⟩
  have sm12 := sm1.trans sm2
  refine q c N rs H3 (sm12.trans (same_of_chg s3 c3 fun a ha => by rw [List.mem_singleton.mp ha]; exact nc)) (none_of sm12 nc) (none_of (sm12.trans s3) nN) hC hrs
end Rc


set_option Elab.async false
set_option linter.all false
set_option maxRecDepth 100000
set_option maxHeartbeats 4000000
namespace Rc
open PySem PySem.Spec PyProof.Rows L2 He
theorem cs_get {K : PySem.W.Frag} {H : Hp} {b : Addr} {S : Sto} (h : StoAt K H b S) {n : Nat} {a : Addr} (m : (n, a) ∈ S.cs) : DGet H S.cu (.int ((n : Nat) : Int)) (some (.ref a)) :=
  DGet.keep1 (H := H) h.cu (valV_mem (f := V.ref) h.kn m)
def sp_Base_cursor (K : PySem.W.Frag) : Sp := s2 fun x y H Q => ∃ b S n c, x = .ref b ∧ y = .int ((n : Nat) : Int) ∧ StoAt K H b S ∧ (n, c) ∈ S.cs ∧ Q (.ref c) H
theorem ok_Base_cursor {P : Program} {w : World} {K : PySem.W.Frag} {mg : Str → Option Value} {base : Heap} (T : Tx K mg) : Df P w K mg base (fAd K ("Base", some "cursor")) 1 [] (sp_Base_cursor K) := by
  obtain ⟨fd, F⟩ := fn_Base_cursor T
  refine df2 F sc_Base_cursor (fun _ _ _ _ _ _ us hl => match us, hl with | [_, _], _ => rfl) fun self c H Q h => ?_
  intro cdv A outer s E hr
  have hu := hu_of hr
  refine ⟨_, (pss_cons (ps_if (pt_cmp (pc_dnotin hu (pv 1) (pe_at (T.f_Base_own_cursors) (pv 0))) rfl) (pss_one ps_never) pss_nil)
    (pss_one (ps_ret (pe_dget hu (pe_at (T.f_Base_own_cursors) (pv 0)) (pv 1) (fun _ _ => rfl))))), ?_⟩
  obtain ⟨b, S, n, c, ex, ey, hS, hm, q⟩ := h
  subst ex ey
  obtain ⟨dx, vc, e, e1⟩ := hS.ob
  refine ⟨_, rfl, _, rfl, b, dx, _, _, rfl, e, rfl, S.cu, _, rfl, cs_get hS hm, _, rfl, iteF ?_⟩
  exact ⟨_, rfl, b, dx, _, _, rfl, e, rfl, _, rfl, S.cu, _, rfl, cs_get hS hm, q⟩
def stepD (L : Led) (l1 : List Dl) (d : Dl) (l2 : List Dl) : Led := L.withD l1 { d with cmd := d.cmd + 1 } l2
def Sto.scanned (S : Sto) (l1 : List Dl) (d : Dl) (l2 : List Dl) (c : Addr) : Sto := { S with L := stepD S.L l1 d l2, opened := S.opened + 1, cs := [(S.opened + 1, c)] }
theorem scanned_fp {S : Sto} {b : Addr} {l1 l2 : List Dl} {d : Dl} {c : Addr} (rd : RunD S.L l1 d l2) : (S.scanned l1 d l2 c).fp b = S.fp b := by
  have ef : (stepD S.L l1 d l2).fp S.l = S.L.fp S.l := withD_fp (d' := { d with cmd := d.cmd + 1 }) rd.ac rfl rfl
  show Sto.own b S ++ ((stepD S.L l1 d l2).fp S.l ++ S.T.fp S.t) = _
  rw [ef]
  rfl
def snNow (S : Sto) (rs : List Nat) (d : Dl) : Sn := ⟨S.L.owners.length + 1, rs, d.parts, d.cmd⟩
def RsOk (S : Sto) (d : Dl) (rs : List Nat) : Prop := ∀ m ∈ rs, ∃ d2 ∈ S.L.act, d2.n ≠ d.n ∧ m ∈ d2.parts
structure Runs (K : PySem.W.Frag) (H : Hp) (b : Addr) (S : Sto) (l1 : List Dl) (d : Dl) (l2 : List Dl) : Prop where
  at_ : StoAt K H b S
  kl : KL S.L
  ra : RA S.L
  rd : RunD S.L l1 d l2
def sp_Base_scan (K : PySem.W.Frag) : Sp := s6 fun x y z u w e H Q => ∃ b S l1 d l2 pt, x = .ref b ∧ y = .int ((d.n : Nat) : Int) ∧ z = .str "heap" ∧ u = .non ∧ w = .non ∧ Runs K H b S l1 d l2 ∧ S.cs = [] ∧ (runP S.L d).getLast? = some pt ∧
  ∀ c N rs H', H c = none → H N = none → Chg (S.fp b) H H' → StoAt K H' b (S.scanned l1 d l2 c) → CurAt K H' c ⟨d.n, pt, snNow S rs d, none, S.T.pages.length, 0, N, []⟩ → RsOk S d rs → Q (.int ((S.opened + 1 : Nat) : Int)) H'
theorem step_runs {L : Led} {l1 l2 : List Dl} {d : Dl} (rd : RunD L l1 d l2) : RunD (stepD L l1 d l2) l1 { d with cmd := d.cmd + 1 } l2 := ⟨rfl, rd.n1, rd.ru⟩
theorem okf_Base_scan {P : Program} {w : World} {K : PySem.W.Frag} {mg : Str → Option Value} {base : Heap} (T : Tx K mg) : ∃ fd, FnOk P w K mg base CX0 6 (fAd K ("Base", some "scan")) fd ["self", "t", "way", "low", "high", "keys"] (sp_Base_scan K) ∧ FunD K "scan" "Base.scan" (defArgs t_Base_scan) (defBody t_Base_scan) (defScope t_Base_scan) [.str "heap", .non, .non, .bl false] [] (fAd K ("Base", some "scan")) fd := by
  obtain ⟨fd, F⟩ := fn_Base_scan T
  refine ⟨fd, okn6 F sc_Base_scan fun self t way low high keys H Q h => ?_, F⟩
  intro cdv A outer s E hr
  have hu := hu_of hr
  refine ⟨_, (pss_cons (ps_expr (pe_mt (ok_Ledger_look_running T) (T.m_Ledger_look_running) (hr.mono (by decide)) (pe_at (T.f_Base_own_ledger) (pv 0)) (pa_cons (pv 1) pa_nil)))
    (pss_cons (ps_set (i := 6) (sc_Base_scan).nd rfl (.inl rfl) (pe_mt (ok_Base_cursor_for T) (T.m_Base_cursor_for) (hr.mono (by decide)) (pv 0) (pa_cons (pv 1) (pa_cons (pv 2) (pa_cons (pe_tupdK K (pa_cons (pe_cf (ok_tupled T) (hr.mono (by decide)) rfl (T.g_tupled) (pa_cons (pv 3) pa_nil)) (pa_cons (pe_cf (ok_tupled T) (hr.mono (by decide)) rfl (T.g_tupled) (pa_cons (pv 4) pa_nil)) pa_nil))) (pa_cons (pv 5) pa_nil))))))
    (pss_cons (ps_if (PW.pt (pw_and (pt_cmpR op_eq (pe_mt (ok_Ledger_level T) (T.m_Ledger_level) (hr.mono (by decide)) (pe_at (T.f_Base_own_ledger) (pv 0)) (pa_cons (pv 1) pa_nil)) (pe_gs rfl (T.g_ONCE)) (nomark _)) (pw_and1 pt_no))) (pss_one ps_never) pss_nil)
    (pss_cons (ps_inc (T.f_Base_own_opened) (pv 0) pe_int)
    (pss_cons (ps_dput hu (pe_at (T.f_Base_own_cursors) (pv 0)) (pe_at (T.f_Base_own_opened) (pv 0)) (pv 6) rfl)
    (pss_cons (ps_expr (pe_mt (ok_Ledger_stepped T) (T.m_Ledger_stepped) (hr.mono (by decide)) (pe_at (T.f_Base_own_ledger) (pv 0)) (pa_cons (pv 1) pa_nil)))
    (pss_one (ps_ret (pe_at (T.f_Base_own_opened) (pv 0)))))))))), ?_⟩
  obtain ⟨b, S, l1, d, l2, pt, ex, ey, ez, eu, ew, R, hcs, hl, q⟩ := h
  subst ex ey ez eu ew
  have hS := R.at_
  have rd := R.rd
  have dm : d ∈ S.L.act := by rw [rd.ac]; simp
  obtain ⟨dx, vc, e, e1⟩ := hS.ob
  obtain ⟨dl, el⟩ := hS.led.ob
  refine ⟨_, rfl, b, dx, _, _, rfl, e, rfl, S.l, dl, _, rfl, el, _, rfl, _, _, rfl, S.l, S.L, d.n, d.a, rfl, rfl, hS.led, act_kv hS.led rd.ac, rd.n1, rd.ru, ?_⟩
  refine ⟨_, rfl, b, dx, _, rfl, e, _, rfl, _, rfl, _, rfl, _, rfl, .none, .non, .non, fun v1 H1 sm1 hv1 => ?_⟩
  refine ⟨_, rfl, _, rfl, .none, .non, .non, fun v2 H2 sm2 hv2 => ?_⟩
  refine ⟨_, Tds.cons (hv1.same sm2) (.cons hv2 .nil), Nat.le_of_ble_eq_true rfl, fun v3 H3 sm3 hv3 => ?_⟩
  have sm13 := (sm1.trans sm2).trans sm3
  have hS3 := hS.same sm13
  refine ⟨_, rfl, _, _, _, _, _, rfl, b, S, l1, d, l2, pt, rfl, rfl, rfl, hS3, R.kl, R.ra, rd, hl, fun c N rs H4 sm4 nc nN hC hrs => ?_⟩
  have sm := sm13.trans sm4
  have nc0 := none_of sm13 nc
  have nN0 := none_of sm13 nN
  have hS4 := hS3.same sm4
  obtain ⟨dx4, vc4, e4, e41⟩ := hS4.ob
  obtain ⟨dl4, el4⟩ := hS4.led.ob
  refine ⟨_, rfl, b, dx4, _, _, rfl, e4, rfl, S.l, dl4, _, rfl, el4, _, rfl, _, _, rfl, S.l, S.L, l1, d, l2, rfl, rfl, hS4.led, rd.ac, rfl, _, rfl, ite2 (fun z => by cases z) fun _ => ?_⟩
  refine ⟨_, rfl, b, dx4, _, _, rfl, e4, rfl, 1, rfl, dx4, _, e4, Nat.le_of_ble_eq_true rfl, ?_⟩
  have hS5 := hS4.setB (n := S.opened + 1) (w := S.vac) ⟨_, e4⟩ e41 (Nat.le_succ _)
  have c5 : Chg (S.fp b) H4 (upd H4 b (Ob (ga K "Base") dx4 nsBase [vc4, .ref S.l, .ref S.t, .ref S.ix, .ref S.cu, .int ((S.opened + 1 : Nat) : Int), .ref S.fi, .ref S.wr, S.vac])) := Chg.upd e4 (fp_own mem_b)
  obtain ⟨dx5, vc5, e5, e51⟩ := hS5.ob
  have ecu : (dealK S.cs) = [] := by rw [hcs]; rfl
  have hcu := hS5.cu
  rw [show (dealK ({ S with opened := S.opened + 1, vac := S.vac } : Sto).cs) = [] from ecu] at hcu
  refine ⟨_, rfl, _, rfl, b, dx5, _, _, rfl, e5, rfl, _, rfl, b, dx5, _, _, rfl, e5, rfl, S.cu, _, rfl, DPut.k (k := .inl ((S.opened + 1 : Nat) : Int)) hcu (small1000 (Nat.zero_le _)), ?_⟩
  have hS6 := hS5.setCu (cs := [(S.opened + 1, c)]) (by simp) (fun q hq => by rw [List.mem_singleton.mp hq]; exact Nat.le_refl _) (by simp)
  have c6 : Chg (S.fp b) _ _ := Chg.upd (o := .dK (dealK [(S.opened + 1, c)])) hcu (fp_own (b := b) (S := S) mem_cu)
  obtain ⟨dx6, vc6, e6, e61⟩ := hS6.ob
  obtain ⟨dl6, el6⟩ := hS6.led.ob
  refine ⟨_, rfl, b, dx6, _, _, rfl, e6, rfl, S.l, dl6, _, rfl, el6, _, rfl, _, _, rfl, S.l, S.L, l1, d, l2, rfl, rfl, hS6.led, rd.ac, fun H7 c7 hl7 => ?_⟩
  obtain ⟨h7, c7'⟩ := stepL (S := { S with opened := S.opened + 1, vac := S.vac, cs := [(S.opened + 1, c)] }) hS6 rd c7 hl7
  obtain ⟨dx7, vc7, e7, e71⟩ := h7.ob
  refine ⟨_, rfl, b, dx7, _, _, rfl, e7, rfl, ?_⟩
  have c47 := (c5.trans c6).trans c7'
  have cf : c ∉ S.fp b := fun z => hS.there z nc0
  have Nf : N ∉ S.fp b := fun z => hS.there z nN0
  exact q c N rs H7 nc0 nN0 ((Chg.of sm).trans c47) h7 (hC.chg c47 cf Nf) hrs
theorem ok_Base_scan {P : Program} {w : World} {K : PySem.W.Frag} {mg : Str → Option Value} {base : Heap} (T : Tx K mg) : Df P w K mg base (fAd K ("Base", some "scan")) 6 [] (sp_Base_scan K) :=
  df_dfl (okf_Base_scan T) 6 4 (List.cons_ne_nil _ _) rfl fun T kV doc pm an cdv ct us its hu hi => match us, hu, its, hi with | [_, _, _, _, _, _], _, [_, _, _, _], _ => ⟨_, rfl, rfl⟩
theorem ok_Base_scan_4 {P : Program} {w : World} {K : PySem.W.Frag} {mg : Str → Option Value} {base : Heap} (T : Tx K mg) : Df P w K mg base (fAd K ("Base", some "scan")) 6 [.bl false] (sp_Base_scan K) :=
  df_dfl (okf_Base_scan T) 5 3 (List.cons_ne_nil _ _) rfl fun T kV doc pm an cdv ct us its hu hi => match us, hu, its, hi with | [_, _, _, _, _], _, [_, _, _, _], _ => ⟨_, rfl, rfl⟩
theorem ok_Base_scan_1 {P : Program} {w : World} {K : PySem.W.Frag} {mg : Str → Option Value} {base : Heap} (T : Tx K mg) : Df P w K mg base (fAd K ("Base", some "scan")) 6 [.str "heap", .non, .non, .bl false] (sp_Base_scan K) :=
  df_dfl (okf_Base_scan T) 2 0 (List.cons_ne_nil _ _) rfl fun T kV doc pm an cdv ct us its hu hi => match us, hu, its, hi with | [_, _], _, [_, _, _, _], _ => ⟨_, rfl, rfl⟩
def sp_Base_close (K : PySem.W.Frag) : Sp := s2 fun x y H Q => ∃ b S n c, x = .ref b ∧ y = .int ((n : Nat) : Int) ∧ StoAt K H b S ∧ S.cs = [(n, c)] ∧
  ∀ H', Chg (S.fp b) H H' → StoAt K H' b { S with cs := [] } → Q .non H'
theorem ok_Base_close {P : Program} {w : World} {K : PySem.W.Frag} {mg : Str → Option Value} {base : Heap} (T : Tx K mg) : Df P w K mg base (fAd K ("Base", some "close")) 2 [] (sp_Base_close K) := by
  obtain ⟨fd, F⟩ := fn_Base_close T
  refine df2 F sc_Base_close (fun _ _ _ _ _ _ us hl => match us, hl with | [_, _], _ => rfl) fun self c H Q h => ?_
  intro cdv A outer s E hr
  have hu := hu_of hr
  refine ⟨_, (pss_cons (ps_expr (pe_mt (ok_Base_cursor T) (T.m_Base_cursor) (hr.mono (by decide)) (pv 0) (pa_cons (pv 1) pa_nil)))
    (pss_one (ps_expr (pe_dpop1 (pe_at (T.f_Base_own_cursors) (pv 0)) (pv 1) ⟨rfl, rfl, rfl, rfl⟩)))), ?_⟩
  obtain ⟨b, S, n, c, ex, ey, hS, hcs, q⟩ := h
  subst ex ey
  obtain ⟨dx, vc, e, e1⟩ := hS.ob
  have hm : (n, c) ∈ S.cs := by rw [hcs]; simp
  refine ⟨_, rfl, b, dx, _, rfl, e, _, rfl, _, _, rfl, b, S, n, c, rfl, rfl, hS, hm, ?_⟩
  refine ⟨_, rfl, b, dx, _, _, rfl, e, rfl, S.cu, rfl, .inl ⟨_, .inl hS.cu⟩, _, rfl, _, .inl ((n : Nat) : Int), .ref c, hS.cu, rfl, ?_, ?_⟩
  · exact valV_mem (f := V.ref) hS.kn hm
  have ed : dropK (dealK S.cs) (.inl ((n : Nat) : Int)) = dealK [] := by
    rw [hcs]
    show dropK [((.inl ((n : Nat) : Int) : Key), V.ref c)] (.inl ((n : Nat) : Int)) = []
    unfold dropK
    simp
  rw [ed]
  exact q _ (Chg.upd hS.cu (fp_own mem_cu)) (hS.setCu (cs := []) List.nodup_nil nofun (Nat.zero_le _))
def sp_Base_next (K : PySem.W.Frag) : Sp := s2 fun x y H Q => ∃ b S n c C, x = .ref b ∧ y = .int ((n : Nat) : Int) ∧ StoAt K H b S ∧ (n, c) ∈ S.cs ∧ CurAt K H c C ∧ c ∉ S.fp b ∧ C.N ∉ S.fp b ∧ C.many ≤ S.T.pages.length ∧ C.noted.length ≤ 8 ∧
  ∀ v C' H', Chg [c, C.N] H H' → StoAt K H' b S → CurAt K H' c C' → CurEq C C' → C'.noted.length ≤ 8 → NextR K H' v (restOf S.T.pages (seesB C.sn (withS S.L.states .und)) C) C' (restOf S.T.pages (seesB C.sn (withS S.L.states .und)) C') → Q v H'
theorem ok_Base_next {P : Program} {w : World} {K : PySem.W.Frag} {mg : Str → Option Value} {base : Heap} (T : Tx K mg) : Df P w K mg base (fAd K ("Base", some "next")) 5 [] (sp_Base_next K) := by
  obtain ⟨fd, F⟩ := fn_Base_next T
  refine df2 F sc_Base_next (fun _ _ _ _ _ _ us hl => match us, hl with | [_, _], _ => rfl) fun self c H Q h => ?_
  intro cdv A outer s E hr
  have hu := hu_of hr
  refine ⟨_, (pss_cons (ps_set (i := 2) (sc_Base_next).nd rfl (.inl rfl) (pe_mt (ok_Base_cursor T) (T.m_Base_cursor) (hr.mono (by decide)) (pv 0) (pa_cons (pv 1) pa_nil)))
    (pss_one (ps_ret (pe_mt (ok_HeapCursor_next T) (T.m_HeapCursor_next) (hr.mono (by decide)) (pv 2) (pa_cons (pe_at (T.f_Base_own_table) (pv 0)) (pa_cons (pe_mt0 (ok_Base_undone T) (T.m_Base_undone) (hr.mono (by decide)) (pv 0)) pa_nil)))))), ?_⟩
  obtain ⟨b, S, n, c, C, ex, ey, hS, hm, hC, nc, nN, hmany, hn8, q⟩ := h
  subst ex ey
  obtain ⟨dx, vc, e, e1⟩ := hS.ob
  obtain ⟨dc, w1, w2, f, _⟩ := hC.ob
  refine ⟨_, rfl, b, dx, _, rfl, e, _, rfl, _, _, rfl, b, S, n, c, rfl, rfl, hS, hm, ?_⟩
  refine ⟨_, rfl, c, dc, _, rfl, f, _, rfl, b, dx, _, _, rfl, e, rfl, _, rfl, b, dx, _, rfl, e, _, rfl, b, S, rfl, hS, fun r H1 sm1 nr hr1 => ?_⟩
  have hS1 := hS.same sm1
  have hC1 := hC.same sm1
  have rc : r ≠ c := fun z => by
    obtain ⟨_, _, _, f, _⟩ := hC.ob
    rw [z, f] at nr
    cases nr
  have rN : r ≠ C.N := fun z => by
    obtain ⟨_, g, _⟩ := hC.nt
    rw [z, g] at nr
    cases nr
  refine ⟨_, _, _, rfl, c, C, S.t, S.T, r, _, rfl, hC1, rfl, hS1.tab, fun z => nc (fp_T z), fun z => nN (fp_T z), hmany, hn8, rfl, hr1, rc, rN, fun v C' H' c2 hC' he hl hnr => ?_⟩
  refine q v C' H' ((Chg.of sm1).trans c2) (hS1.chg c2 fun a ha => ?_) hC' he hl hnr
  simp only [List.mem_cons, List.not_mem_nil, or_false] at ha
  rcases ha with z | z
  · rw [z]; exact nc
  · rw [z]; exact nN
def allVis (ps : List Page) (f : Ver → Bool) : List Note := (List.range ps.length).flatMap fun i => pgVis f i (ps.getD i [])
theorem allVis_rest {ps : List Page} {f : Ver → Bool} {C : Cur} (h1 : C.noted = []) (h2 : C.page = 0) (h3 : C.many = ps.length) : restOf ps f C = allVis ps f := by
  unfold restOf allVis
  rw [h1, h2, h3, List.nil_append, Nat.sub_zero]
  refine congrArg (fun g => List.flatMap g (List.range ps.length)) ?_
  funext i
  rw [Nat.zero_add]
def rowN : Note → PyData
  | (_, _, id, kd) => rowD id kd
theorem flat_len {f : Nat → List Note} {m : Nat} : ∀ (n : Nat), (∀ i, i < n → (f i).length ≤ m) → ((List.range n).flatMap f).length ≤ n * m
  | 0, _ => Nat.zero_le _
  | n + 1, h => by
    rw [List.range_succ, List.flatMap_append, List.length_append, List.flatMap_singleton]
    have h1 := flat_len n fun i hi => h i (Nat.lt_succ_of_lt hi)
    have h2 := h n (Nat.lt_succ_self n)
    have : (n + 1) * m = n * m + m := Nat.succ_mul n m
    omega
theorem allVis_len {ps : List Page} {f : Ver → Bool} (ok : ∀ p ∈ ps, PgOk p) (pl : ps.length ≤ 60) : (allVis ps f).length ≤ 480 := by
  have h : (allVis ps f).length ≤ ps.length * 8 := flat_len ps.length fun i hi => by
    have h1 := pgVis_len f i (ps.getD i [])
    have h2 : ps.getD i [] = ps[i] := by
      rw [List.getD_eq_getElem?_getD, List.getElem?_eq_getElem hi]
      rfl
    have h3 := (ok _ (List.getElem_mem hi)).ln
    rw [h2] at h1
    rw [h2]
    omega
  omega
def sp_Base_read (K : PySem.W.Frag) : Sp := s5 fun x y z u w H Q => ∃ b S l1 d l2 pt, x = .ref b ∧ y = .int ((d.n : Nat) : Int) ∧ z = .str "heap" ∧ u = .non ∧ w = .non ∧ Runs K H b S l1 d l2 ∧ S.cs = [] ∧ (runP S.L d).getLast? = some pt ∧
  ∀ (r : Addr) (vs : List V) (rs : List Nat) (H' : Hp), H r = none → Chg (S.fp b) H H' → StoAt K H' b { S with L := stepD S.L l1 d l2, opened := S.opened + 1, cs := [] } → H' r = some (.lst vs) → Tds K H' vs ((allVis S.T.pages (seesB (snNow S rs d) (withS S.L.states .und))).map rowN) → RsOk S d rs → Q (.ref r) H'
theorem note_ne {K : PySem.W.Frag} {H : Hp} {v : V} {x : Note} (h : Td K H v (noteD x)) : v ≠ .non := by
  obtain ⟨_, _, e, _⟩ := h.tup_eq
  rw [e]
  exact fun z => nomatch z
theorem okf_Base_read {P : Program} {w : World} {K : PySem.W.Frag} {mg : Str → Option Value} {base : Heap} (T : Tx K mg) : ∃ fd, FnOk P w K mg base CX0 7 (fAd K ("Base", some "read")) fd ["self", "t", "way", "low", "high"] (sp_Base_read K) ∧ FunD K "read" "Base.read" (defArgs t_Base_read) (defBody t_Base_read) (defScope t_Base_read) [.str "heap", .non, .non] [] (fAd K ("Base", some "read")) fd := by
  obtain ⟨fd, F⟩ := fn_Base_read T
  refine ⟨fd, okn5 F sc_Base_read fun self t way low high H Q h => ?_, F⟩
  intro cdv A outer s E hr
  have hu := hu_of hr
  refine ⟨_, (pss_cons (ps_par (i := 7) (j := 6) (by rfl) (sc_Base_read).nd rfl rfl (by decide) rfl rfl (pa_cons (pe_mt (ok_Base_scan_4 T) (T.m_Base_scan) (hr.mono (by decide)) (pv 0) (pa_cons (pv 1) (pa_cons (pv 2) (pa_cons (pv 3) (pa_cons (pv 4) pa_nil))))) (pa_cons (pe_lst pa_nil) pa_nil)) (by rfl))
    (pss_cons (ps_set (i := 5) (sc_Base_read).nd rfl (.inl rfl) (pe_mt (ok_Base_next T) (T.m_Base_next) (hr.mono (by decide)) (pv 0) (pa_cons (pv 7) pa_nil)))
    (pss_cons (ps_while PassesOwn.never (pt_cmp (pc_notN (pv 5)) rfl) (pss_cons (ps_expr (pe_bm PySem.F.plainAttrs_list PySem.F.slot_list_append PySem.F.type_list_append mt_append (pv 6) (pa_cons (pe_ixdK K (pv 5) pe_int) pa_nil)))
    (pss_one (ps_set (i := 5) (sc_Base_read).nd rfl (.inl rfl) (pe_mt (ok_Base_next T) (T.m_Base_next) (hr.mono (by decide)) (pv 0) (pa_cons (pv 7) pa_nil))))))
    (pss_cons (ps_expr (pe_mt (ok_Base_close T) (T.m_Base_close) (hr.mono (by decide)) (pv 0) (pa_cons (pv 7) pa_nil)))
    (pss_one (ps_ret (pv 6))))))), ?_⟩
  obtain ⟨b, S, l1, d, l2, pt, ex, ey, ez, eu, ew, R, hcs, hl, q⟩ := h
  subst ex ey ez eu ew
  have hS := R.at_
  obtain ⟨dx, vc, e, e1⟩ := hS.ob
  refine ⟨_, rfl, b, dx, _, rfl, e, _, rfl, _, rfl, _, rfl, _, rfl, _, _, _, _, _, _, rfl, b, S, l1, d, l2, pt, rfl, rfl, rfl, rfl, rfl, R, hcs, hl, fun c N rs H1 nc nN c1 h1 hC1 hrs => ?_⟩
  have cf : c ∉ S.fp b := fun z => hS.there z nc
  have Nf : N ∉ S.fp b := fun z => hS.there z nN
  have efp : (S.scanned l1 d l2 c).fp b = S.fp b := scanned_fp R.rd
  have hcN : c ≠ N := hC1.ne
  refine ⟨Nat.zero_le _, fun F nF => ⟨_, _, rfl, ?_⟩⟩
  have s2 : Same H1 (upd H1 F (.lst [])) := same_new nF
  have h2 := h1.same s2
  have hC2 := hC1.same s2
  have Fc : F ≠ c := fun z => by
    obtain ⟨_, _, _, g, _⟩ := hC1.ob
    rw [z, g] at nF
    cases nF
  have FN : F ≠ N := fun z => by
    obtain ⟨_, g, _⟩ := hC1.nt
    rw [z] at nF
    rw [show H1 N = _ from g] at nF
    cases nF
  have Ff : F ∉ S.fp b := fun z => h1.there (efp ▸ z) nF
  have nF0 : H F = none := by
    cases eq : H F with
    | none => rfl
    | some o =>
      have := c1.keep _ _ eq Ff
      rw [nF] at this
      cases this
  have fpx : ∀ {A : Addr}, A = c ∨ A = N ∨ A = F → H A = none := fun {A} h => by
    rcases h with z | z | z
    · rw [z]; exact nc
    · rw [z]; exact nN
    · rw [z]; exact nF0
  obtain ⟨dx2, vc2, e2, _⟩ := h2.ob
  have us : List Nat := withS S.L.states .und
  refine ⟨_, rfl, b, dx2, _, rfl, e2, _, rfl, _, _, rfl, b, _, S.opened + 1, c, _, rfl, rfl, h2, by simp [Sto.scanned], hC2, by rw [efp]; exact cf, by rw [efp]; exact Nf, Nat.le_refl _, Nat.zero_le _, fun v3 C3 H3 c3 h3 hC3 he3 hn3 hr3 => ?_⟩
  have hr0 : restOf S.T.pages (seesB (snNow S rs d) (withS S.L.states .und)) ⟨d.n, pt, snNow S rs d, none, S.T.pages.length, 0, N, []⟩ = allVis S.T.pages (seesB (snNow S rs d) (withS S.L.states .und)) := allVis_rest rfl rfl rfl
  have big := allVis_len (f := seesB (snNow S rs d) (withS S.L.states .und)) hS.tab.ok hS.tab.pl
  have hr3 : NextR K H3 v3 (allVis S.T.pages (seesB (snNow S rs d) (withS S.L.states .und))) C3 (restOf S.T.pages (seesB (snNow S rs d) (withS S.L.states .und)) C3) := hr0 ▸ hr3
  have cF : Chg [c, N, F] H1 H3 := (Chg.of s2).trans (c3.mono fun a ha => by
    simp only [List.mem_cons, List.not_mem_nil, or_false] at ha ⊢
    rcases ha with z | z
    · exact .inl z
    · exact .inr (.inl z))
  have hF3 : H3 F = some (.lst []) := c3.keep _ _ upd_same (by simp [Fc, FN])
  generalize hall : allVis S.T.pages (seesB (snNow S rs d) (withS S.L.states .und)) = all at hr3 big
  refine ⟨fun m σ' H' => ∃ v C' vs pre rest, σ' = [some (.ref b), some (.int (d.n : Int)), some (.str "heap"), some .non, some .non, some v, some (.ref F), some (.int ((S.opened + 1 : Nat) : Int))] ∧ Chg [c, N, F] H1 H' ∧ StoAt K H' b (S.scanned l1 d l2 c) ∧ CurAt K H' c C' ∧ CurEq ⟨d.n, pt, snNow S rs d, none, S.T.pages.length, 0, N, []⟩ C' ∧ C'.noted.length ≤ 8 ∧
    H' F = some (.lst vs) ∧ Tds K H' vs (pre.map rowN) ∧ all = pre ++ rest ∧ NextR K H' v rest C' (restOf S.T.pages (seesB (snNow S rs d) (withS S.L.states .und)) C') ∧ m = rest.length, ⟨_, v3, C3, [], [], all, rfl, cF, h3, hC3, he3, hn3, hF3, .nil, rfl, hr3, rfl⟩, ?_⟩
  rintro m σ' H4 ⟨v, C4, vs, pre, rest, rfl, c4, h4, hC4, he4, hn4, hF4, td4, eall, hr4, em⟩
  refine ⟨_, rfl, _, rfl, ?_⟩
  rcases hr4 with ⟨er, ev, er'⟩ | ⟨na, nb, nid, nkd, er, hnd, _⟩
  · subst ev
    refine ite2 (fun z => absurd z (by simp)) fun _ => ?_
    obtain ⟨dx4, vc4, e4, _⟩ := h4.ob
    refine ⟨_, rfl, b, dx4, _, rfl, e4, _, rfl, _, _, rfl, b, _, S.opened + 1, c, rfl, rfl, h4, rfl, fun H5 c5 h5 => ?_⟩
    rw [efp] at c5
    refine ⟨_, rfl, q F vs rs H5 nF0 ?_ h5 (c5.keep _ _ hF4 Ff) ?_ hrs⟩
    · refine ⟨fun A o eA nA => c5.keep _ _ (c4.keep _ _ (c1.keep _ _ eA nA) fun z => ?_) nA, fun A o eA i => c5.imm _ _ (c4.imm _ _ (c1.imm _ _ eA i) i) i, fun A hA => c5.live _ (c4.live _ (c1.live _ hA))⟩
      simp only [List.mem_cons, List.not_mem_nil, or_false] at z
      rw [fpx z] at eA
      cases eA
    · rw [hall, eall, er, List.append_nil]
      exact td4.keep c5.tk
  · have ne := note_ne hnd
    refine ite2 (fun _ => ?_) fun z => absurd (by simp [ne]) z
    refine ⟨fun σ2 H2 => ∃ m', m' < m ∧ ∃ v C' vs pre rest, σ2 = [some (.ref b), some (.int (d.n : Int)), some (.str "heap"), some .non, some .non, some v, some (.ref F), some (.int ((S.opened + 1 : Nat) : Int))] ∧ Chg [c, N, F] H1 H2 ∧ StoAt K H2 b (S.scanned l1 d l2 c) ∧ CurAt K H2 c C' ∧ CurEq ⟨d.n, pt, snNow S rs d, none, S.T.pages.length, 0, N, []⟩ C' ∧ C'.noted.length ≤ 8 ∧
      H2 F = some (.lst vs) ∧ Tds K H2 vs (pre.map rowN) ∧ all = pre ++ rest ∧ NextR K H2 v rest C' (restOf S.T.pages (seesB (snNow S rs d) (withS S.L.states .und)) C') ∧ m' = rest.length, fun _ _ z => z, ?_⟩
    refine ⟨_, rfl, .inl ⟨rfl, _, SqL.of hF4⟩, _, rfl, _, 1, _, hnd, rfl, rfl, fun rv hrv => ?_⟩
    have lv := td4.length
    rw [List.length_map] at lv
    have lp : pre.length < 480 := by
      rw [eall, er, List.length_append, List.length_cons] at big
      omega
    refine ⟨F, vs, rv, rfl, rfl, hF4, small1000 (by omega), ?_⟩
    have tk := tk_lst (o := .lst (vs ++ [rv])) hF4
    have cU : Chg [F] H4 (upd H4 F (.lst (vs ++ [rv]))) := Chg.upd hF4 (by simp)
    have h5 := h4.chg cU fun a ha => by rw [List.mem_singleton.mp ha, efp]; exact Ff
    have e4N : C4.N = N := he4.N
    have hC5 := hC4.chg cU (by simp [Ne.symm Fc]) (by rw [e4N]; simp [Ne.symm FN])
    obtain ⟨dx5, vc5, e5, _⟩ := h5.ob
    refine ⟨_, rfl, b, dx5, _, rfl, e5, _, rfl, _, _, rfl, b, _, S.opened + 1, c, C4, rfl, rfl, h5, by simp [Sto.scanned], hC5, by rw [efp]; exact cf, by rw [efp, e4N]; exact Nf, by rw [he4.many]; exact Nat.le_refl _, hn4, fun v6 C6 H6 c6 h6 hC6 he6 hn6 hr6 => ?_⟩
    rw [e4N] at c6
    have hF6 := c6.keep _ _ (upd_same (H := H4) (a := F) (o := .lst (vs ++ [rv]))) (by simp [Fc, FN])
    rw [he4.sn] at hr6
    refine ⟨(restOf S.T.pages (seesB (snNow S rs d) (withS S.L.states .und)) C4).length, by rw [em, er]; simp, v6, C6, vs ++ [rv], pre ++ [(na, nb, nid, nkd)], _, rfl, (c4.trans (cU.mono (by simp))).trans (c6.mono fun a ha => ?_), h6, hC6, he4.trans he6, hn6, hF6, ?_, ?_, hr6, rfl⟩
    · simp only [List.mem_cons, List.not_mem_nil, or_false] at ha ⊢
      rcases ha with z | z
      · exact .inl z
      · exact .inr (.inl z)
    · rw [List.map_append]
      exact ((td4.keep tk).app (.cons (hrv.keep tk) .nil)).keep c6.tk
    · rw [eall, er, List.append_assoc]
      rfl
theorem ok_Base_read {P : Program} {w : World} {K : PySem.W.Frag} {mg : Str → Option Value} {base : Heap} (T : Tx K mg) : Df P w K mg base (fAd K ("Base", some "read")) 7 [] (sp_Base_read K) :=
  df_dfl (okf_Base_read T) 5 3 (List.cons_ne_nil _ _) rfl fun T kV doc pm an cdv ct us its hu hi => match us, hu, its, hi with | [_, _, _, _, _], _, [_, _, _], _ => ⟨_, rfl, rfl⟩
theorem ok_Base_read_1 {P : Program} {w : World} {K : PySem.W.Frag} {mg : Str → Option Value} {base : Heap} (T : Tx K mg) : Df P w K mg base (fAd K ("Base", some "read")) 7 [.str "heap", .non, .non] (sp_Base_read K) :=
  df_dfl (okf_Base_read T) 2 0 (List.cons_ne_nil _ _) rfl fun T kV doc pm an cdv ct us its hu hi => match us, hu, its, hi with | [_, _], _, [_, _, _], _ => ⟨_, rfl, rfl⟩
end Rc


set_option Elab.async false
set_option linter.all false
set_option maxRecDepth 100000
set_option maxHeartbeats 4000000
namespace Rc
open PySem PySem.Spec PyProof.Rows L2 He
def sp_Base_writing_names (K : PySem.W.Frag) : Sp := s1 fun x H Q => ∃ b S, x = .ref b ∧ StoAt K H b S ∧ ∀ r H', Same H H' → H r = none → H' r = some (.lst []) → Q (.ref r) H'
theorem ok_Base_writing_names {P : Program} {w : World} {K : PySem.W.Frag} {mg : Str → Option Value} {base : Heap} (T : Tx K mg) : Df P w K mg base (fAd K ("Base", some "writing_names")) 2 [] (sp_Base_writing_names K) := by
  obtain ⟨fd, F⟩ := fn_Base_writing_names T
  refine df1 F sc_Base_writing_names (fun _ _ _ _ _ _ us hl => match us, hl with | [_], _ => rfl) fun self H Q h => ?_
  intro cdv A outer s E hr
  have hu := hu_of hr
  refine ⟨_, (pss_one (ps_ret (pe_lc (own := [("name", 1)])  rfl (sc_Base_writing_names).nd (pi_listK K (pe_mt0 (ok_Base_names T) (T.m_Base_names) (hr.mono (by decide)) (pv 0))) (blkOk_by (N := ["self", "name"]) (sc := defScope t_Base_writing_names) (by decide +kernel)) (fun _ _ _ _ _ => (pg_name (i := 1) (sc_Base_writing_names).nd rfl (.inl rfl))) (fun _ _ _ _ _ => (pts_one pt_no)) (fun _ _ _ _ _ => (pv 1))))), ?_⟩
  obtain ⟨b, S, ex, hS, q⟩ := h
  subst ex
  obtain ⟨dx, vc, e, e1⟩ := hS.ob
  refine ⟨_, rfl, b, dx, _, rfl, e, _, rfl, b, S, rfl, hS, fun r H1 sm1 nr hr1 => ⟨r, rfl, ⟨_, SqL.of hr1⟩, fun D hD => ?_⟩⟩
  refine lc_list (K := K) (a := r) (xs := []) (tt := fun _ _ _ => False) (te := tVar 1) (fun i H' => H' = upd H1 D (.lst [])) rfl (fun i H' _ hh => SqL.of (by rw [hh]; exact (same_new hD) _ _ hr1)) (fun i x H' hi _ => by cases hi) ?_
  rintro H' rfl
  exact q D _ (sm1.trans (same_new hD)) (none_of sm1 hD) upd_same
def sp_Base_refusal (K : PySem.W.Frag) : Sp := s4 fun x y z u H Q => ∃ b S, x = .ref b ∧ StoAt K H b S ∧ ∀ H', Same H H' → Q .non H'
theorem okf_Base_refusal {P : Program} {w : World} {K : PySem.W.Frag} {mg : Str → Option Value} {base : Heap} (T : Tx K mg) : ∃ fd, FnOk P w K mg base CX0 3 (fAd K ("Base", some "refusal")) fd ["self", "t", "cells", "replaced"] (sp_Base_refusal K) ∧ FunD K "refusal" "Base.refusal" (defArgs t_Base_refusal) (defBody t_Base_refusal) (defScope t_Base_refusal) [.non] [] (fAd K ("Base", some "refusal")) fd := by
  obtain ⟨fd, F⟩ := fn_Base_refusal T
  refine ⟨fd, okn4 F sc_Base_refusal fun self t cells replaced H Q h => ?_, F⟩
  intro cdv A outer s E hr
  have hu := hu_of hr
  refine ⟨_, (pss_cons (ps_for PassesOwn.never rfl (pi_listK K (pe_mt0 (ok_Base_writing_names T) (T.m_Base_writing_names) (hr.mono (by decide)) (pv 0))) (pg_name (i := 4) (sc_Base_refusal).nd rfl (.inl rfl))
    (pss_cons ps_never (pss_cons ps_never (pss_one ps_never))))
    (pss_one (ps_ret pe_non))), ?_⟩
  obtain ⟨b, S, ex, hS, q⟩ := h
  subst ex
  obtain ⟨dx, vc, e, e1⟩ := hS.ob
  refine ⟨_, rfl, b, dx, _, rfl, e, _, rfl, b, S, rfl, hS, fun r H1 sm1 nr hr1 => ⟨r, rfl, ⟨_, SqL.of hr1⟩, ?_⟩⟩
  refine for_list (K := K) (a := r) (xs := []) (fun i σ' H' => H' = H1) rfl (fun i σ' H' _ hh => SqL.of (by rw [hh]; exact hr1)) (fun i x σ' H' hi _ => by cases hi) ?_
  rintro σ' H' rfl
  exact q _ sm1
theorem ok_Base_refusal {P : Program} {w : World} {K : PySem.W.Frag} {mg : Str → Option Value} {base : Heap} (T : Tx K mg) : Df P w K mg base (fAd K ("Base", some "refusal")) 3 [] (sp_Base_refusal K) :=
  df_dfl (okf_Base_refusal T) 4 1 (List.cons_ne_nil _ _) rfl fun T kV doc pm an cdv ct us its hu hi => match us, hu, its, hi with | [_, _, _, _], _, [_], _ => ⟨_, rfl, rfl⟩
theorem ok_Base_refusal_2 {P : Program} {w : World} {K : PySem.W.Frag} {mg : Str → Option Value} {base : Heap} (T : Tx K mg) : Df P w K mg base (fAd K ("Base", some "refusal")) 3 [.non] (sp_Base_refusal K) :=
  df_dfl (okf_Base_refusal T) 3 0 (List.cons_ne_nil _ _) rfl fun T kV doc pm an cdv ct us its hu hi => match us, hu, its, hi with | [_, _, _], _, [_], _ => ⟨_, rfl, rfl⟩
def newV (pt cm : Nat) (only : Bool) (id : Int) (kd : PyData) : Slot := .row ⟨pt, cm, none, none, only, id, kd⟩
def Sto.wrote (S : Sto) (l1 : List Dl) (d : Dl) (l2 : List Dl) (ps : List Page) : Sto := { S with L := stepD S.L l1 d l2, T := { S.T with pages := ps } }
theorem wrote_fp {S : Sto} {b : Addr} {l1 l2 : List Dl} {d : Dl} {ps : List Page} (rd : RunD S.L l1 d l2) : (S.wrote l1 d l2 ps).fp b = S.fp b := by
  have ef : (stepD S.L l1 d l2).fp S.l = S.L.fp S.l := withD_fp (d' := { d with cmd := d.cmd + 1 }) rd.ac rfl rfl
  show Sto.own b S ++ ((stepD S.L l1 d l2).fp S.l ++ S.T.fp S.t) = _
  rw [ef]
  rfl
theorem tsub {S : Sto} : ∀ a ∈ [S.T.P, S.T.M], a ∈ S.T.fp S.t := fun a ha => by
  simp only [List.mem_cons, List.not_mem_nil, or_false] at ha
  rcases ha with z | z <;> simp [Tab.fp, z]
theorem dn63 {K : PySem.W.Frag} {H : Hp} {b : Addr} {S : Sto} {l1 l2 : List Dl} {d : Dl} (hS : StoAt K H b S) (rd : RunD S.L l1 d l2) : d.n ≤ 63 := by
  have h1 := (List.getElem?_eq_some_iff.mp rd.ru).1
  have h2 := hS.led.ln
  have h3 := hS.led.lo
  have h4 := rd.n1
  omega
def sp_Base_keep_new (K : PySem.W.Frag) : Sp := s5 fun x y z u w H Q => ∃ b S l1 d l2 pt n s only id kd, x = .ref b ∧ y = .int ((d.n : Nat) : Int) ∧ Td K H z (plD n s) ∧ u = .bl only ∧ Td K H w (rowD id kd) ∧ okKd kd ∧ StoAt K H b S ∧ RunD S.L l1 d l2 ∧ (runP S.L d).getLast? = some pt ∧ n ≤ S.T.pages.length ∧ S.T.pages.length < 60 ∧ s < 8 ∧
  ∀ H', Chg (S.fp b) H H' → StoAt K H' b (S.wrote l1 d l2 (putPg S.T.pages n s (newV pt d.cmd only id kd))) → Q .non H'
theorem ok_Base_keep_new {P : Program} {w : World} {K : PySem.W.Frag} {mg : Str → Option Value} {base : Heap} (T : Tx K mg) : Df P w K mg base (fAd K ("Base", some "keep_new")) 3 [] (sp_Base_keep_new K) := by
  obtain ⟨fd, F⟩ := fn_Base_keep_new T
  refine df5 F sc_Base_keep_new (fun _ _ _ _ _ _ us hl => match us, hl with | [_, _, _, _, _], _ => rfl) fun self t place only cells H Q h => ?_
  intro cdv A outer s E hr
  have hu := hu_of hr
  refine ⟨_, (pss_cons (ps_set (i := 5) (sc_Base_keep_new).nd rfl (.inl rfl) (pe_at (T.f_Base_own_ledger) (pv 0)))
    (pss_cons (ps_expr (pe_mt (ok_Table_keep T) (T.m_Table_keep) (hr.mono (by decide)) (pe_at (T.f_Base_own_table) (pv 0)) (pa_cons (pv 2) (pa_cons (pe_cf (ok_version_of T) (hr.mono (by decide)) rfl (T.g_version_of) (pa_cons (pe_mt (ok_Ledger_working T) (T.m_Ledger_working) (hr.mono (by decide)) (pv 5) (pa_cons (pv 1) pa_nil)) (pa_cons (pe_mt (ok_Ledger_command T) (T.m_Ledger_command) (hr.mono (by decide)) (pv 5) (pa_cons (pv 1) pa_nil)) (pa_cons (pv 3) (pa_cons (pv 4) pa_nil))))) pa_nil))))
    (pss_cons (ps_for PassesOwn.never rfl (pi_listK K (pe_ifExp (pt_not (pt_val (pv 3))) (pe_mt0 (ok_Base_writing_names T) (T.m_Base_writing_names) (hr.mono (by decide)) (pv 0)) (pe_lst pa_nil))) (pg_name (i := 6) (sc_Base_keep_new).nd rfl (.inl rfl))
    (pss_cons ps_never (pss_one ps_never)))
    (pss_one (ps_expr (pe_mt (ok_Base_wrote T) (T.m_Base_wrote) (hr.mono (by decide)) (pv 0) (pa_cons (pv 1) pa_nil))))))), ?_⟩
  obtain ⟨b, S, l1, d, l2, pt, n, sl, only, id, kd, ex, ey, hz, eu, hw, hk, hS, rd, hpt, hn, hlen, hs8, q⟩ := h
  subst ex ey eu
  obtain ⟨dx, vc, e, e1⟩ := hS.ob
  obtain ⟨dl, el⟩ := hS.led.ob
  obtain ⟨dt, et⟩ := hS.tab.ob
  refine ⟨_, rfl, b, dx, _, _, rfl, e, rfl, ?_⟩
  refine ⟨_, rfl, b, dx, _, _, rfl, e, rfl, S.t, dt, _, rfl, et, _, rfl, ?_⟩
  refine ⟨_, rfl, S.l, dl, _, rfl, el, _, rfl, _, _, rfl, S.l, S.L, l1, d, l2, pt, rfl, rfl, hS.led, rd.ac, hpt, fun H1 sm1 => ?_⟩
  have hS1 := hS.same sm1
  obtain ⟨dl1, el1⟩ := hS1.led.ob
  refine ⟨_, rfl, S.l, dl1, _, rfl, el1, _, rfl, _, _, rfl, S.l, S.L, l1, d, l2, rfl, rfl, hS1.led, rd.ac, ?_⟩
  refine ⟨_, rfl, _, rfl, _, _, _, _, rfl, pt, d.cmd, only, id, kd, rfl, rfl, rfl, hw.same sm1, fun v H2 sm2 hv => ?_⟩
  have hS2 := hS1.same sm2
  have sm := sm1.trans sm2
  refine ⟨_, _, _, rfl, S.t, S.T, n, sl, newV pt d.cmd only id kd, rfl, hS2.tab, hz.same sm, hv, hn, hlen, hs8, fun u hu => ?_, fun H3 c3 h3 => ?_⟩
  · injection hu with hu
    rw [← hu]
    exact hk
  have hS3 := hS2.setT c3 tsub h3
  have c3' : Chg (S.fp b) H2 H3 := c3.mono fun a ha => fp_T (tsub a ha)
  obtain ⟨dx3, vc3, e3, _⟩ := hS3.ob
  have fin : ∀ H4, Same H3 H4 → ∀ D : VK, D = Q → tMt (ga K "Base") nsBase (sp_Base_wrote K) [] (fun _ H Q => Q (.ref b) H) (fun _ H Q => Q [.int ((d.n : Nat) : Int)] H) [] H4 (fun _ H => D .non H) := fun H4 sm4 D eD => by
    subst eD
    have hS4 := hS3.same sm4
    obtain ⟨dx4, vc4, e4, _⟩ := hS4.ob
    refine ⟨b, dx4, _, rfl, e4, _, _, rfl, b, _, l1, d, l2, rfl, rfl, hS4, rd, dn63 hS rd, fun H5 c5 h5 => ?_⟩
    exact q H5 (((Chg.of sm).trans c3').trans ((Chg.of sm4).trans c5)) h5
  refine ⟨_, rfl, _, rfl, ?_⟩
  cases only
  case' false =>
    refine iteT ⟨_, rfl, b, dx3, _, rfl, e3, _, rfl, b, _, rfl, hS3, fun r H4 sm4 nr hr4 => ⟨r, rfl, ⟨_, SqL.of hr4⟩, ?_⟩⟩
  case' true =>
    refine iteF ⟨Nat.zero_le _, fun r nr => ⟨r, rfl, ⟨_, SqL.of upd_same⟩, ?_⟩⟩
    have sm4 := same_new (o := .lst []) nr
    have hr4 : upd H3 r (.lst []) r = some (.lst []) := upd_same
  all_goals
    refine for_list (K := K) (a := r) (xs := []) (fun i σ' H' => Same H3 H' ∧ H' r = some (.lst []) ∧ σ'[0]? = some (some (.ref b)) ∧ σ'[1]? = some (some (.int ((d.n : Nat) : Int)))) ⟨sm4, hr4, rfl, rfl⟩ (fun i σ' H' _ ⟨_, hh, _⟩ => SqL.of hh) (fun i x σ' H' hi _ => by cases hi) ?_
    rintro σ' H5 ⟨sm5, _, g0, g1⟩
    obtain ⟨dx5, _, e5, h5⟩ := fin H5 sm5 Q rfl
    exact ⟨_, g0, dx5, _, e5, h5.1, h5.2.1, _, g1, h5.2.2⟩
end Rc


set_option Elab.async false
set_option linter.all false
set_option maxRecDepth 100000
set_option maxHeartbeats 4000000
namespace Rc
open PySem PySem.Spec PyProof.Rows L2 He
theorem okat_lt {ps : List Page} {n s : Nat} (h : OkAt ps n s) : n ≤ ps.length ∧ s < 8 := by
  rcases h with ⟨p, hp, _, h8⟩ | ⟨h1, h2, _⟩
  · exact ⟨Nat.le_of_lt (List.getElem?_eq_some_iff.mp hp).1, h8⟩
  · exact ⟨Nat.le_of_eq h1, by omega⟩
def sp_Base_put (K : PySem.W.Frag) : Sp := s3 fun x y z H Q => ∃ b S l1 d l2 pt id kd, x = .ref b ∧ y = .int ((d.n : Nat) : Int) ∧ Td K H z (rowD id kd) ∧ okKd kd ∧ StoAt K H b S ∧ RunD S.L l1 d l2 ∧ (runP S.L d).getLast? = some pt ∧ S.T.pages.length < 60 ∧
  ∀ v n s H', Chg (S.fp b) H H' → Td K H' v (plD n s) → OkAt S.T.pages n s → StoAt K H' b (S.wrote l1 d l2 (putPg S.T.pages n s (newV pt d.cmd false id kd))) → Q v H'
theorem ok_Base_put {P : Program} {w : World} {K : PySem.W.Frag} {mg : Str → Option Value} {base : Heap} (T : Tx K mg) : Df P w K mg base (fAd K ("Base", some "put")) 6 [] (sp_Base_put K) := by
  obtain ⟨fd, F⟩ := fn_Base_put T
  refine df3 F sc_Base_put (fun _ _ _ _ _ _ us hl => match us, hl with | [_, _, _], _ => rfl) fun self t cells H Q h => ?_
  intro cdv A outer s E hr
  have hu := hu_of hr
  refine ⟨_, (pss_cons (ps_expr (pe_mt (ok_Ledger_look_running T) (T.m_Ledger_look_running) (hr.mono (by decide)) (pe_at (T.f_Base_own_ledger) (pv 0)) (pa_cons (pv 1) pa_nil)))
    (pss_cons (ps_set (i := 2) (sc_Base_put).nd rfl (.inl rfl) (pe_cf (ok_tupled T) (hr.mono (by decide)) rfl (T.g_tupled) (pa_cons (pv 2) pa_nil)))
    (pss_cons (ps_set (i := 3) (sc_Base_put).nd rfl (.inl rfl) (pe_mt (ok_Base_refusal_2 T) (T.m_Base_refusal) (hr.mono (by decide)) (pv 0) (pa_cons (pv 1) (pa_cons (pv 2) pa_nil))))
    (pss_cons (ps_if (pt_cmp (pc_notN (pv 3)) rfl) (pss_one (ps_ret (pv 3))) pss_nil)
    (pss_cons (ps_set (i := 4) (sc_Base_put).nd rfl (.inl rfl) (pe_mt (ok_Table_place_for_1 T) (T.m_Table_place_for) (hr.mono (by decide)) (pe_at (T.f_Base_own_table) (pv 0)) (pa_cons (pv 2) pa_nil)))
    (pss_cons (ps_expr (pe_mt (ok_Base_keep_new T) (T.m_Base_keep_new) (hr.mono (by decide)) (pv 0) (pa_cons (pv 1) (pa_cons (pv 4) (pa_cons pe_bl (pa_cons (pv 2) pa_nil))))))
    (pss_one (ps_ret (pv 4))))))))), ?_⟩
  obtain ⟨b, S, l1, d, l2, pt, id, kd, ex, ey, hz, hk, hS, rd, hpt, hlen, q⟩ := h
  subst ex ey
  obtain ⟨dx, vc, e, e1⟩ := hS.ob
  obtain ⟨dl, el⟩ := hS.led.ob
  refine ⟨_, rfl, b, dx, _, _, rfl, e, rfl, S.l, dl, _, rfl, el, _, rfl, _, _, rfl, S.l, S.L, d.n, d.a, rfl, rfl, hS.led, act_kv hS.led rd.ac, rd.n1, rd.ru, ?_⟩
  refine ⟨_, rfl, _, rfl, _, hz, (dl_row hk).up, fun v1 H1 sm1 hv1 => ?_⟩
  have hS1 := hS.same sm1
  obtain ⟨dx1, vc1, f1, _⟩ := hS1.ob
  refine ⟨_, rfl, b, dx1, _, rfl, f1, _, rfl, _, rfl, _, _, _, _, rfl, b, S, rfl, hS1, fun H2 sm2 => ?_⟩
  have hS2 := hS1.same sm2
  obtain ⟨dx2, vc2, f2, _⟩ := hS2.ob
  obtain ⟨dt2, et2⟩ := hS2.tab.ob
  refine ⟨_, rfl, _, rfl, ite2 (fun h => absurd h (by simp)) fun _ => ?_⟩
  refine ⟨_, rfl, b, dx2, _, _, rfl, f2, rfl, S.t, dt2, _, rfl, et2, _, rfl, _, _, _, rfl, S.t, S.T, id, kd, _, rfl, hS2.tab, hv1.same sm2, hk, .inl ⟨rfl, rfl⟩, fun v n s3 H3 sm3 hv ho => ?_⟩
  have hS3 := hS2.same sm3
  obtain ⟨dx3, vc3, f3, _⟩ := hS3.ob
  obtain ⟨h1, h2⟩ := okat_lt ho
  refine ⟨_, rfl, b, dx3, _, rfl, f3, _, rfl, _, rfl, _, rfl, _, _, _, _, _, rfl, b, S, l1, d, l2, pt, n, s3, false, id, kd, rfl, rfl, hv, rfl, hv1.same (sm2.trans sm3), hk, hS3, rd, hpt, h1, hlen, h2, fun H4 c4 h4 => ?_⟩
  exact ⟨_, rfl, q v n s3 H4 ((Chg.of ((sm1.trans sm2).trans sm3)).trans c4) (hv.keep c4.tk) ho h4⟩
def hereD (a b : Nat) : PyData := .tuple [.str "here", plD a b, .none]
def sp_Base_newest (K : PySem.W.Frag) : Sp := s2 fun x y H Q => ∃ b S c C a i p v, x = .ref b ∧ y = .ref c ∧ StoAt K H b S ∧ CurAt K H c C ∧ C.told = some (a, i) ∧ S.T.pages[a]? = some p ∧ p[i]? = some (Slot.row v) ∧ EnOk S.L v ∧
  ∀ r H', Same H H' → Td K H' r (hereD a i) → Q r H'
theorem ok_Base_newest {P : Program} {w : World} {K : PySem.W.Frag} {mg : Str → Option Value} {base : Heap} (T : Tx K mg) : Df P w K mg base (fAd K ("Base", some "newest")) 4 [] (sp_Base_newest K) := by
  obtain ⟨fd, F⟩ := fn_Base_newest T
  refine df2 F sc_Base_newest (fun _ _ _ _ _ _ us hl => match us, hl with | [_, _], _ => rfl) fun self cursor H Q h => ?_
  intro cdv A outer s E hr
  have hu := hu_of hr
  refine ⟨_, (pss_cons (ps_asg (pe_mt (ok_Table_newest T) (T.m_Table_newest) (hr.mono (by decide)) (pe_at (T.f_Base_own_table) (pv 0)) (pa_cons (pe_mt0 (ok_HeapCursor_told T) (T.m_HeapCursor_told) (hr.mono (by decide)) (pv 1)) (pa_cons (pe_at (T.f_Base_own_ledger) (pv 0)) (pa_cons (pe_mt0 (ok_HeapCursor_owner T) (T.m_HeapCursor_owner) (hr.mono (by decide)) (pv 1)) pa_nil)))) (pg_tupK K (n := 3) (by rfl) (pgs_cons (pg_name (i := 2) (sc_Base_newest).nd rfl (.inl rfl)) (pgs_cons (pg_name (i := 3) (sc_Base_newest).nd rfl (.inl rfl)) (pgs_cons (pg_name (i := 4) (sc_Base_newest).nd rfl (.inl rfl)) pgs_nil)))))
    (pss_cons (ps_if (PW.pt (pw_and (pt_cmpR op_eq (pv 2) (pe_gs rfl (T.g_BUSY_table)) (nomark _)) (pw_and1 pt_no))) (pss_one (ps_ret (pe_tupdK K (pa_cons (pe_gs rfl (T.g_BUSY_table)) (pa_cons (pv 3) pa_nil))))) pss_nil)
    (pss_cons (ps_if (PW.pt (pw_and (pt_cmp (pc_notN (pv 4)) rfl) (pw_and1 pt_no))) (pss_one ps_never) pss_nil)
    (pss_cons (ps_if (pt_cmpR op_eq (pv 2) (pe_gs rfl (T.g_GONE)) (nomark _)) (pss_one (ps_ret (pe_tupdK K (pa_cons (pe_gs rfl (T.g_GONE)) pa_nil)))) pss_nil)
    (pss_cons (ps_if (PW.pt (pw_and (pt_cmp (pc_notN (pv 4)) rfl) (pw_and1 pt_no))) (pss_one ps_never) pss_nil)
    (pss_one (ps_ret (pe_tupdK K (pa_cons (pv 2) (pa_cons (pv 3) (pa_cons (pv 4) pa_nil))))))))))), ?_⟩
  obtain ⟨b, S, c, C, a, i, p, v, ex, ey, hS, hC, ht, hp, hv, hn, q⟩ := h
  subst ex ey
  obtain ⟨dx, vc, e, e1⟩ := hS.ob
  obtain ⟨dt, et⟩ := hS.tab.ob
  obtain ⟨dc, w1, w2, f, _⟩ := hC.ob
  refine ⟨_, rfl, b, dx, _, _, rfl, e, rfl, S.t, dt, _, rfl, et, _, rfl, c, dc, _, rfl, f, _, rfl, c, C, a, i, rfl, hC, ht, fun pv hpv => ?_⟩
  refine ⟨_, rfl, b, dx, _, _, rfl, e, rfl, _, rfl, c, dc, _, rfl, f, _, rfl, c, C, rfl, hC, _, _, _, _, rfl, S.t, S.T, a, i, p, v, S.l, S.L, rfl, hS.tab, hpv, hp, hv, rfl, hS.led, hn, fun r H1 sm1 hr1 => ?_⟩
  obtain ⟨ra, rxs, er, hq, hrr⟩ := hr1.tup_eq
  subst er
  cases hrr with | cons h1 hrr =>
  cases hrr with | cons h2 hrr =>
  cases hrr with | cons h3 hrr =>
  cases hrr
  rw [h1.str_eq, h3.non_eq] at hq
  refine ⟨ra, _, rfl, hq.t, rfl, _, _, rfl, _, _, rfl, _, _, rfl, rfl, ?_⟩
  refine ⟨_, rfl, rfl, _, rfl, ite2 (fun h => absurd h (by decide +kernel)) fun _ => ?_⟩
  refine ⟨_, rfl, _, rfl, ite2 (fun h => absurd h (by simp)) fun _ => ?_⟩
  refine ⟨_, rfl, rfl, _, rfl, ite2 (fun h => absurd h (by decide +kernel)) fun _ => ?_⟩
  refine ⟨_, rfl, _, rfl, ite2 (fun h => absurd h (by simp)) fun _ => ?_⟩
  refine ⟨_, rfl, _, rfl, _, rfl, _, Tds.cons (.str _) (.cons h2 (.cons .non .nil)), Nat.le_of_ble_eq_true rfl, fun v4 H4 sm4 hv4 => q v4 H4 (sm1.trans sm4) hv4⟩
def doneD (x : PyData) : PyData := .tuple [.str "done", x]
def sp_Base_remove (K : PySem.W.Frag) : Sp := s2 fun x y H Q => ∃ b S n c C l1 d l2 pt a i p v, x = .ref b ∧ y = .int ((n : Nat) : Int) ∧ StoAt K H b S ∧ (n, c) ∈ S.cs ∧ CurAt K H c C ∧ c ∉ S.fp b ∧ C.N ∉ S.fp b ∧ C.t = d.n ∧ C.told = some (a, i) ∧ RunD S.L l1 d l2 ∧ (runP S.L d).getLast? = some pt ∧ S.T.pages.length < 60 ∧ S.T.pages[a]? = some p ∧ p[i]? = some (Slot.row v) ∧ EnOk S.L v ∧
  ∀ r H', Chg (S.fp b) H H' → StoAt K H' b (S.wrote l1 d l2 (putPg S.T.pages a i (.row (endV v pt d.cmd none)))) → Td K H' r (doneD .none) → Q r H'
theorem ok_Base_remove {P : Program} {w : World} {K : PySem.W.Frag} {mg : Str → Option Value} {base : Heap} (T : Tx K mg) : Df P w K mg base (fAd K ("Base", some "remove")) 5 [] (sp_Base_remove K) := by
  obtain ⟨fd, F⟩ := fn_Base_remove T
  refine df2 F sc_Base_remove (fun _ _ _ _ _ _ us hl => match us, hl with | [_, _], _ => rfl) fun self c H Q h => ?_
  intro cdv A outer s E hr
  have hu := hu_of hr
  refine ⟨_, (pss_cons (ps_set (i := 2) (sc_Base_remove).nd rfl (.inl rfl) (pe_mt (ok_Base_cursor T) (T.m_Base_cursor) (hr.mono (by decide)) (pv 0) (pa_cons (pv 1) pa_nil)))
    (pss_cons (ps_set (i := 3) (sc_Base_remove).nd rfl (.inl rfl) (pe_mt (ok_Base_newest T) (T.m_Base_newest) (hr.mono (by decide)) (pv 0) (pa_cons (pv 2) pa_nil)))
    (pss_cons (ps_if (pt_cmpR op_lt (pe_callB (call_len_seqK K) (by rfl) (T.b_len) (by decide +kernel) (pa_cons (pv 3) pa_nil)) pe_int (nomark _)) (pss_one (ps_ret (pv 3))) pss_nil)
    (pss_cons (ps_par (i := 4) (j := 5) (by rfl) (sc_Base_remove).nd rfl rfl (by decide) rfl rfl (pa_cons (pe_at (T.f_Base_own_ledger) (pv 0)) (pa_cons (pe_mt0 (ok_HeapCursor_owner T) (T.m_HeapCursor_owner) (hr.mono (by decide)) (pv 2)) pa_nil)) (by rfl))
    (pss_cons (ps_expr (pe_mt (ok_Table_end T) (T.m_Table_end) (hr.mono (by decide)) (pe_at (T.f_Base_own_table) (pv 0)) (pa_cons (pe_ixdK K (pv 3) pe_int) (pa_cons (pe_mt (ok_Ledger_working T) (T.m_Ledger_working) (hr.mono (by decide)) (pv 4) (pa_cons (pv 5) pa_nil)) (pa_cons (pe_mt (ok_Ledger_command T) (T.m_Ledger_command) (hr.mono (by decide)) (pv 4) (pa_cons (pv 5) pa_nil)) (pa_cons pe_non pa_nil))))))
    (pss_cons (ps_expr (pe_mt (ok_Base_wrote T) (T.m_Base_wrote) (hr.mono (by decide)) (pv 0) (pa_cons (pv 5) pa_nil)))
    (pss_one (ps_ret (pe_tupdK K (pa_cons (pe_gs rfl (T.g_DONE)) (pa_cons pe_non pa_nil))))))))))), ?_⟩
  obtain ⟨b, S, n, c, C, l1, d, l2, pt, a, i, p, v, ex, ey, hS, hm, hC, nc, nN, eCt, ht, rd, hpt, hlen, hp, hv, hn, q⟩ := h
  subst ex ey
  obtain ⟨dx, vc, e, e1⟩ := hS.ob
  refine ⟨_, rfl, b, dx, _, rfl, e, _, rfl, _, _, rfl, b, S, n, c, rfl, rfl, hS, hm, ?_⟩
  refine ⟨_, rfl, b, dx, _, rfl, e, _, rfl, _, _, rfl, b, S, c, C, a, i, p, v, rfl, rfl, hS, hC, ht, hp, hv, hn, fun r H1 sm1 hr1 => ?_⟩
  have hS1 := hS.same sm1
  have hC1 := hC.same sm1
  obtain ⟨ra, rxs, er, hq, hrr⟩ := hr1.tup_eq
  subst er
  have rl := hrr.length
  refine ⟨_, rfl, ra, rxs, rfl, .inr hq.t, (rxs.length : Int), 3, rfl, rfl, _, rfl, ite2 (fun h => absurd (of_decide_eq_true h) (by rw [rl]; simp)) fun _ => ?_⟩
  obtain ⟨dx1, vc1, f1, _⟩ := hS1.ob
  obtain ⟨dc1, w1, w2, g1, _⟩ := hC1.ob
  refine ⟨_, rfl, b, dx1, _, _, rfl, f1, rfl, _, rfl, c, dc1, _, rfl, g1, _, rfl, c, C, rfl, hC1, _, _, rfl, ?_⟩
  rw [eCt]
  obtain ⟨dt1, et1⟩ := hS1.tab.ob
  obtain ⟨dl1, el1⟩ := hS1.led.ob
  have pi : i < 8 := by
    have h1 := (List.getElem?_eq_some_iff.mp hv).1
    have h2 := (hS.tab.ok p (List.mem_of_getElem? hp)).ln
    omega
  refine ⟨_, rfl, b, dx1, _, _, rfl, f1, rfl, S.t, dt1, _, rfl, et1, _, rfl, _, 1, _, hr1, rfl, rfl, fun pv hpv => ?_⟩
  refine ⟨_, rfl, S.l, dl1, _, rfl, el1, _, rfl, _, _, rfl, S.l, S.L, l1, d, l2, pt, rfl, rfl, hS1.led, rd.ac, hpt, fun H2 sm2 => ?_⟩
  have hS2 := hS1.same sm2
  obtain ⟨dl2, el2⟩ := hS2.led.ob
  refine ⟨_, rfl, S.l, dl2, _, rfl, el2, _, rfl, _, _, rfl, S.l, S.L, l1, d, l2, rfl, rfl, hS2.led, rd.ac, ?_⟩
  refine ⟨_, _, _, _, _, rfl, S.t, S.T, a, i, p, v, pt, d.cmd, none, rfl, hS2.tab, hpv.same sm2, hp, hv, pi, hlen, rfl, rfl, .non, fun H3 c3 h3 => ?_⟩
  have hS3 := hS2.setT c3 tsub h3
  have c3' : Chg (S.fp b) H2 H3 := c3.mono fun a ha => fp_T (tsub a ha)
  obtain ⟨dx3, vc3, f3, _⟩ := hS3.ob
  refine ⟨_, rfl, b, dx3, _, rfl, f3, _, rfl, _, _, rfl, b, _, l1, d, l2, rfl, rfl, hS3, rd, dn63 hS rd, fun H4 c4 h4 => ?_⟩
  refine ⟨_, Tds.cons (.str _) (.cons .non .nil), Nat.le_of_ble_eq_true rfl, fun v5 H5 sm5 hv5 => ?_⟩
  exact q v5 H5 ((((Chg.of (sm1.trans sm2)).trans c3').trans c4).trans (Chg.of sm5)) (h4.same sm5) hv5
def sp_Base_prune (K : PySem.W.Frag) : Sp := s2 fun x y H Q => ∃ b S n p, x = .ref b ∧ y = .int ((n : Nat) : Int) ∧ StoAt K H b S ∧ CsAt K H S ∧ S.T.pages[n]? = some p ∧
  ∀ r q ss H', Chg (S.fp b) H H' → StoAt K H' b (S.wT (S.T.pages.set n q)) → PrS (withS S.L.states .und) ss p q → (∀ s ∈ ss, s ∈ withS S.L.states .com) → Q (.ref r) H'
theorem ok_Base_prune {P : Program} {w : World} {K : PySem.W.Frag} {mg : Str → Option Value} {base : Heap} (T : Tx K mg) : Df P w K mg base (fAd K ("Base", some "prune")) 8 [] (sp_Base_prune K) := by
  obtain ⟨fd, F⟩ := fn_Base_prune T
  refine df2 F sc_Base_prune (fun _ _ _ _ _ _ us hl => match us, hl with | [_, _], _ => rfl) fun self page H Q h => ?_
  intro cdv A outer s E hr
  have hu := hu_of hr
  refine ⟨_, (pss_cons (ps_if (pt_not (pt_chain op_le op_lt pe_int (pv 1) (pe_mt0 (ok_Table_many T) (T.m_Table_many) (hr.mono (by decide)) (pe_at (T.f_Base_own_table) (pv 0))))) (pss_one ps_never) pss_nil)
    (pss_one (ps_ret (pe_mt (ok_Table_prune T) (T.m_Table_prune) (hr.mono (by decide)) (pe_at (T.f_Base_own_table) (pv 0)) (pa_cons (pv 1) (pa_cons (pe_mt0 (ok_Base_undone T) (T.m_Base_undone) (hr.mono (by decide)) (pv 0)) (pa_cons (pe_mt0 (ok_Base_settled T) (T.m_Base_settled) (hr.mono (by decide)) (pv 0)) pa_nil))))))), ?_⟩
  obtain ⟨b, S, n, p, ex, ey, hS, hc, hp, q⟩ := h
  subst ex ey
  obtain ⟨dx, vc, e, e1⟩ := hS.ob
  obtain ⟨dt, et⟩ := hS.tab.ob
  have nl := (List.getElem?_eq_some_iff.mp hp).1
  refine ⟨_, rfl, 0, (n : Int), rfl, rfl, _, rfl, ite2 (fun _ => ?_) fun z => absurd (decide_eq_true (by omega)) z⟩
  refine ⟨_, rfl, b, dx, _, _, rfl, e, rfl, S.t, dt, _, rfl, et, _, rfl, S.t, S.T, rfl, hS.tab, (n : Int), _, rfl, rfl, _, rfl, ite2 (fun z => absurd z (by simp; omega)) fun _ => ?_⟩
  refine ⟨_, rfl, b, dx, _, _, rfl, e, rfl, S.t, dt, _, rfl, et, _, rfl, _, rfl, b, dx, _, rfl, e, _, rfl, b, S, rfl, hS, fun r1 H1 sm1 nr1 hr1 => ?_⟩
  have hS1 := hS.same sm1
  obtain ⟨dx1, vc1, f1, _⟩ := hS1.ob
  refine ⟨_, rfl, b, dx1, _, rfl, f1, _, rfl, b, S, rfl, hS1, hc.same sm1, fun r2 ss H2 sm2 nr2 hr2 hss => ?_⟩
  have hS2 := hS1.same sm2
  have t1 : r1 ∉ S.T.fp S.t := fun z => hS.there (fp_T z) nr1
  have t2 : r2 ∉ S.T.fp S.t := fun z => hS1.there (fp_T z) nr2
  refine ⟨_, _, _, _, rfl, S.t, S.T, n, p, _, ss, r1, r2, rfl, hS2.tab, rfl, hp, rfl, sm2 _ _ hr1, rfl, hr2, t1, t2, fun r q1 H3 c3 h3 hpr => ?_⟩
  exact q r q1 ss H3 ((Chg.of (sm1.trans sm2)).trans (c3.mono fun a ha => fp_T (tsub a ha))) (hS2.setT c3 tsub h3) hpr hss
def sp_Base_free (K : PySem.W.Frag) : Sp := s3 fun x y z H Q => ∃ b S n p c ms, x = .ref b ∧ y = .int ((n : Nat) : Int) ∧ z = .ref c ∧ StoAt K H b S ∧ CsAt K H S ∧ S.T.pages[n]? = some p ∧ H c = some (.lst (IL ms)) ∧ c ∉ S.fp b ∧ (∀ m ∈ ms, p[m]? = some .dead) ∧
  ∀ q H', Chg (S.fp b) H H' → StoAt K H' b (S.wT (S.T.pages.set n q)) → PrF p q → Q .non H'
theorem ok_Base_free {P : Program} {w : World} {K : PySem.W.Frag} {mg : Str → Option Value} {base : Heap} (T : Tx K mg) : Df P w K mg base (fAd K ("Base", some "free")) 5 [] (sp_Base_free K) := by
  obtain ⟨fd, F⟩ := fn_Base_free T
  refine df3 F sc_Base_free (fun _ _ _ _ _ _ us hl => match us, hl with | [_, _, _], _ => rfl) fun self page slots H Q h => ?_
  intro cdv A outer s E hr
  have hu := hu_of hr
  refine ⟨_, (pss_one (ps_expr (pe_mt (ok_Table_free T) (T.m_Table_free) (hr.mono (by decide)) (pe_at (T.f_Base_own_table) (pv 0)) (pa_cons (pv 1) (pa_cons (pv 2) (pa_cons (pe_mt0 (ok_Base_undone T) (T.m_Base_undone) (hr.mono (by decide)) (pv 0)) (pa_cons (pe_mt0 (ok_Base_settled T) (T.m_Base_settled) (hr.mono (by decide)) (pv 0)) pa_nil))))))), ?_⟩
  obtain ⟨b, S, n, p, c, ms, ex, ey, ez, hS, hc, hp, hcl, ncf, hms, q⟩ := h
  subst ex ey ez
  obtain ⟨dx, vc, e, e1⟩ := hS.ob
  obtain ⟨dt, et⟩ := hS.tab.ob
  refine ⟨_, rfl, b, dx, _, _, rfl, e, rfl, S.t, dt, _, rfl, et, _, rfl, _, rfl, _, rfl, b, dx, _, rfl, e, _, rfl, b, S, rfl, hS, fun r1 H1 sm1 nr1 hr1 => ?_⟩
  have hS1 := hS.same sm1
  obtain ⟨dx1, vc1, f1, _⟩ := hS1.ob
  refine ⟨_, rfl, b, dx1, _, rfl, f1, _, rfl, b, S, rfl, hS1, hc.same sm1, fun r2 ss H2 sm2 nr2 hr2 hss => ?_⟩
  have hS2 := hS1.same sm2
  have t1 : r1 ∉ S.T.fp S.t := fun z => hS.there (fp_T z) nr1
  have t2 : r2 ∉ S.T.fp S.t := fun z => hS1.there (fp_T z) nr2
  refine ⟨_, _, _, _, _, rfl, S.t, S.T, n, p, ms, _, ss, c, r1, r2, rfl, hS2.tab, rfl, hp, rfl, sm2 _ _ (sm1 _ _ hcl), fun z => ncf (fp_T z), hms, rfl, sm2 _ _ hr1, rfl, hr2, t1, t2, fun q1 H3 c3 h3 hpr => ?_⟩
  exact q q1 H3 ((Chg.of (sm1.trans sm2)).trans (c3.mono fun a ha => fp_T (tsub a ha))) (hS2.setT c3 tsub h3) hpr
end Rc


set_option Elab.async false
set_option linter.all false
set_option maxRecDepth 100000
set_option maxHeartbeats 4000000
namespace Rc
open PySem PySem.Spec PyProof.Rows L2 He
structure ChR (us ss : List Nat) (ps : List Page) (a n s : Nat) (p q : Page) : Prop where
  ok : ∃ q0, PrS us ss p q0 ∧ OkAt (ps.set a q0) n s
  pr : PrS us ss p q
theorem putPg_len {ps : List Page} {a b : Nat} {s : Slot} (h : a < ps.length) : (putPg ps a b s).length = ps.length := by
  unfold putPg
  rw [if_neg (by omega), List.length_set]
theorem dl_set {wo : PyData} (h : okKd wo) : DL 3 (setD wo) := .tup (Nat.le_of_ble_eq_true rfl) fun d hd => by
  rw [List.mem_singleton.mp hd]
  refine .tup (Nat.le_of_ble_eq_true rfl) fun d hd => ?_
  simp only [List.mem_cons, List.not_mem_nil, or_false] at hd
  rcases hd with z | z | z
  · rw [z]; exact .str _
  · rw [z]; exact .str _
  · rw [z]; exact .kd h
def sp_Base_change (K : PySem.W.Frag) : Sp := s3 fun x y z H Q => ∃ b S n0 c C l1 d l2 pt a i p v wo, x = .ref b ∧ y = .int ((n0 : Nat) : Int) ∧ Td K H z (setD wo) ∧ okKd wo ∧ StoAt K H b S ∧ S.cs = [(n0, c)] ∧ CurAt K H c C ∧ c ∉ S.fp b ∧ C.N ∉ S.fp b ∧ C.t = d.n ∧ C.told = some (a, i) ∧ RunD S.L l1 d l2 ∧ (runP S.L d).getLast? = some pt ∧ S.T.pages.length < 60 ∧ S.T.pages[a]? = some p ∧ p[i]? = some (Slot.row v) ∧ EnOk S.L v ∧ v.mkr ∉ withS S.L.states .und ∧
  ∀ r n s only ss q H', Chg (S.fp b) H H' → StoAt K H' b (S.wrote l1 d l2 (putPg (putPg (S.T.pages.set a q) a i (.row (endV v pt d.cmd (some (n, s))))) n s (newV pt d.cmd only v.id wo))) →
    ChR (withS S.L.states .und) ss S.T.pages a n s p q → (∀ x ∈ ss, x ∈ withS S.L.states .com) → Td K H' r (doneD (plD n s)) → Q r H'
theorem ok_Base_change {P : Program} {w : World} {K : PySem.W.Frag} {mg : Str → Option Value} {base : Heap} (T : Tx K mg) : Df P w K mg base (fAd K ("Base", some "change")) 9 [] (sp_Base_change K) := by
  obtain ⟨fd, F⟩ := fn_Base_change T
  refine df3 F sc_Base_change (fun _ _ _ _ _ _ us hl => match us, hl with | [_, _, _], _ => rfl) fun self c changes H Q h => ?_
  intro cdv A outer s E hr
  have hu := hu_of hr
  refine ⟨_, (pss_cons (ps_set (i := 3) (sc_Base_change).nd rfl (.inl rfl) (pe_mt (ok_Base_cursor T) (T.m_Base_cursor) (hr.mono (by decide)) (pv 0) (pa_cons (pv 1) pa_nil)))
    (pss_cons (ps_set (i := 4) (sc_Base_change).nd rfl (.inl rfl) (pe_mt (ok_Base_newest T) (T.m_Base_newest) (hr.mono (by decide)) (pv 0) (pa_cons (pv 3) pa_nil)))
    (pss_cons (ps_if (pt_cmpR op_lt (pe_callB (call_len_seqK K) (by rfl) (T.b_len) (by decide +kernel) (pa_cons (pv 4) pa_nil)) pe_int (nomark _)) (pss_one (ps_ret (pv 4))) pss_nil)
    (pss_cons (ps_par (i := 10) (j := 11) (by rfl) (sc_Base_change).nd rfl rfl (by decide) rfl rfl (pa_cons (pe_mt0 (ok_HeapCursor_owner T) (T.m_HeapCursor_owner) (hr.mono (by decide)) (pv 3)) (pa_cons (pe_ixdK K (pv 4) pe_int) pa_nil)) (by rfl))
    (pss_cons (ps_set (i := 5) (sc_Base_change).nd rfl (.inr rfl) (pe_ixdK K (pe_mt (ok_Table_slot T) (T.m_Table_slot) (hr.mono (by decide)) (pe_at (T.f_Base_own_table) (pv 0)) (pa_cons (pv 11) pa_nil)) (pe_gi rfl (T.g_CELLS))))
    (pss_cons (ps_set (i := 6) (sc_Base_change).nd rfl (.inr rfl) (pe_cf (ok_changed T) (hr.mono (by decide)) rfl (T.g_changed) (pa_cons (pe_at (T.f_Base_own_columns) (pv 0)) (pa_cons (pv 5) (pa_cons (pe_cf (ok_tupled T) (hr.mono (by decide)) rfl (T.g_tupled) (pa_cons (pv 2) pa_nil)) pa_nil)))))
    (pss_cons (ps_set (i := 7) (sc_Base_change).nd rfl (.inl rfl) (pe_callB (cr_allK K rfl) (by rfl) (T.b_all) (by decide +kernel) (pa_cons (pe_lock (pe_lc (own := [("index", 16)]) (tt := tYes) rfl (sc_Base_change).nd (pi_values (pe_at (T.f_Base_own_indexes) (pv 0))) (blkOk_by (N := ["self", "c", "changes", "cursor", "found", "before", "cells", "keeps", "refused", "is_pruned", "t", "old", "undone", "settled_now", "place", "only", "index"]) (sc := defScope t_Base_change) (by decide +kernel)) (fun _ _ _ _ _ => (pg_name (i := 16) (sc_Base_change).nd rfl (.inl rfl))) (fun _ _ _ _ _ => pts_nil) (fun _ _ _ _ _ => pe_no))) pa_nil)))
    (pss_cons (ps_par (i := 12) (j := 13) (by rfl) (sc_Base_change).nd rfl rfl (by decide) rfl rfl (pa_cons (pe_mt0 (ok_Base_undone T) (T.m_Base_undone) (hr.mono (by decide)) (pv 0)) (pa_cons (pe_mt0 (ok_Base_settled T) (T.m_Base_settled) (hr.mono (by decide)) (pv 0)) pa_nil)) (by rfl))
    (pss_cons (ps_asg (pe_mt (ok_Table_placing T) (T.m_Table_placing) (hr.mono (by decide)) (pe_at (T.f_Base_own_table) (pv 0)) (pa_cons (pv 11) (pa_cons (pv 6) (pa_cons (pv 7) (pa_cons (pv 12) (pa_cons (pv 13) pa_nil)))))) (pg_tupK K (n := 3) (by rfl) (pgs_cons (pg_name (i := 14) (sc_Base_change).nd rfl (.inl rfl)) (pgs_cons (pg_name (i := 15) (sc_Base_change).nd rfl (.inl rfl)) (pgs_cons (pg_name (i := 9) (sc_Base_change).nd rfl (.inl rfl)) pgs_nil)))))
    (pss_cons (ps_set (i := 8) (sc_Base_change).nd rfl (.inl rfl) (pe_ifExp (pt_val (pv 15)) pe_non (pe_mt (ok_Base_refusal T) (T.m_Base_refusal) (hr.mono (by decide)) (pv 0) (pa_cons (pv 10) (pa_cons (pv 6) (pa_cons (pv 11) pa_nil))))))
    (pss_cons (ps_if (pt_cmp (pc_notN (pv 8)) rfl) (pss_one (ps_ret (pv 8))) pss_nil)
    (pss_cons (ps_if (pt_val (pv 9)) (pss_one (ps_expr (pe_mt (ok_Table_prune T) (T.m_Table_prune) (hr.mono (by decide)) (pe_at (T.f_Base_own_table) (pv 0)) (pa_cons (pe_ixdK K (pv 11) pe_int) (pa_cons (pv 12) (pa_cons (pv 13) pa_nil)))))) pss_nil)
    (pss_cons (ps_expr (pe_mt (ok_Table_end T) (T.m_Table_end) (hr.mono (by decide)) (pe_at (T.f_Base_own_table) (pv 0)) (pa_cons (pv 11) (pa_cons (pe_mt (ok_Ledger_working T) (T.m_Ledger_working) (hr.mono (by decide)) (pe_at (T.f_Base_own_ledger) (pv 0)) (pa_cons (pv 10) pa_nil)) (pa_cons (pe_mt (ok_Ledger_command T) (T.m_Ledger_command) (hr.mono (by decide)) (pe_at (T.f_Base_own_ledger) (pv 0)) (pa_cons (pv 10) pa_nil)) (pa_cons (pv 14) pa_nil))))))
    (pss_cons (ps_expr (pe_mt (ok_Base_keep_new T) (T.m_Base_keep_new) (hr.mono (by decide)) (pv 0) (pa_cons (pv 10) (pa_cons (pv 14) (pa_cons (pv 15) (pa_cons (pv 6) pa_nil))))))
    (pss_one (ps_ret (pe_tupdK K (pa_cons (pe_gs rfl (T.g_DONE)) (pa_cons (pv 14) pa_nil))))))))))))))))))), ?_⟩
  obtain ⟨b, S, n0, c, C, l1, d, l2, pt, a, i, p, v, wo, ex, ey, hz, hwo, hS, hcs, hC, nc, nN, eCt, ht, rd, hpt, hlen, hp, hv, hn, hmk, q⟩ := h
  subst ex ey
  have hm : (n0, c) ∈ S.cs := by rw [hcs]; simp
  have al := (List.getElem?_eq_some_iff.mp hp).1
  have okp := hS.tab.ok p (List.mem_of_getElem? hp)
  have okv : okKd v.kd := okp.kd v (List.mem_of_getElem? hv)
  have pi : i < 8 := by
    have h1 := (List.getElem?_eq_some_iff.mp hv).1
    have h2 := okp.ln
    omega
  obtain ⟨dx, vc, e, e1⟩ := hS.ob
  refine ⟨_, rfl, b, dx, _, rfl, e, _, rfl, _, _, rfl, b, S, n0, c, rfl, rfl, hS, hm, ?_⟩
  refine ⟨_, rfl, b, dx, _, rfl, e, _, rfl, _, _, rfl, b, S, c, C, a, i, p, v, rfl, rfl, hS, hC, ht, hp, hv, hn, fun r H1 sm1 hr1 => ?_⟩
  have hS1 := hS.same sm1
  have hC1 := hC.same sm1
  obtain ⟨ra, rxs, er, hq, hrr⟩ := hr1.tup_eq
  subst er
  have rl := hrr.length
  refine ⟨_, rfl, ra, rxs, rfl, .inr hq.t, (rxs.length : Int), 3, rfl, rfl, _, rfl, ite2 (fun h => absurd (of_decide_eq_true h) (by rw [rl]; simp)) fun _ => ?_⟩
  obtain ⟨dx1, vc1, f1, f1c⟩ := hS1.ob
  obtain ⟨dc1, w1, w2, g1, _⟩ := hC1.ob
  refine ⟨_, rfl, c, dc1, _, rfl, g1, _, rfl, c, C, rfl, hC1, _, rfl, _, 1, _, hr1, rfl, rfl, fun ov hov => ⟨_, _, rfl, ?_⟩⟩
  rw [eCt]
  obtain ⟨dt1, et1⟩ := hS1.tab.ob
  refine ⟨_, rfl, b, dx1, _, _, rfl, f1, rfl, S.t, dt1, _, rfl, et1, _, rfl, _, _, rfl, S.t, S.T, a, i, p, .row v, rfl, hov, hS1.tab, hp, hv, fun sv hsv => ⟨_, 7, _, hsv, rfl, rfl, fun bv hbv => ?_⟩⟩
  refine ⟨_, rfl, b, dx1, _, _, rfl, f1, rfl, _, rfl, _, rfl, _, rfl, _, hz.same sm1, dl_set hwo, fun zv H2 sm2 hzv => ?_⟩
  refine ⟨_, _, _, rfl, v.id, v.kd, wo, f1c.same sm2, hbv.same sm2, hzv, fun cv H3 sm3 hcv => ?_⟩
  have sm13 := (sm1.trans sm2).trans sm3
  have hS3 := hS.same sm13
  obtain ⟨dx3, vc3, f3, _⟩ := hS3.ob
  have on := own_ne (sto_ne hS.nd).ow
  refine ⟨S.ix, _, hS3.ix, True.intro, fun od => ?_⟩
  have f3' : upd H3 S.ix (.frz od (.dK [])) b = some (Ob (ga K "Base") dx3 nsBase [vc3, .ref S.l, .ref S.t, .ref S.ix, .ref S.cu, .int (S.opened : Int), .ref S.fi, .ref S.wr, S.vac]) := by
    rw [upd_ne on.b_ix]
    exact f3
  refine ⟨_, rfl, b, dx3, _, _, rfl, f3', rfl, S.ix, od, [], rfl, upd_same, fun D hD => ?_⟩
  have Dix : D ≠ S.ix := fun z => by rw [z, upd_same] at hD; cases hD
  refine lc_any (n := 0) (tt := tYes) (te := fun _ _ _ => False) (fun i H' => H' = upd (upd H3 S.ix (.frz od (.dK []))) D (.lst [])) rfl (fun i H' hi _ => absurd hi (Nat.not_lt_zero i)) (fun H' hh => ?_) (fun i H' x H2 hi _ _ => absurd hi (Nat.not_lt_zero i)) ?_
  · rw [hh]
    exact ⟨by rw [upd_ne (Ne.symm Dix)]; exact upd_same, Nat.zero_le _⟩
  rintro H4 rfl
  refine ⟨by rw [upd_ne (Ne.symm Dix)]; exact upd_same, ?_⟩
  have sm4 : Same H3 (upd (upd (upd H3 S.ix (.frz od (.dK []))) D (.lst [])) S.ix (.dK [])) := fun x o eo => by
    by_cases hx : x = S.ix
    · subst hx
      rw [upd_same]
      rw [hS3.ix] at eo
      exact eo
    · rw [upd_ne hx, upd_ne (fun z : x = D => by
        rw [upd_ne Dix, ← z, eo] at hD
        cases hD), upd_ne hx]
      exact eo
  have hDl : upd (upd (upd H3 S.ix (.frz od (.dK []))) D (.lst [])) S.ix (.dK []) D = some (.lst []) := by
    rw [upd_ne Dix]
    exact upd_same
  generalize hH4 : upd (upd (upd H3 S.ix (.frz od (.dK []))) D (.lst [])) S.ix (.dK []) = H4 at sm4 hDl
  refine ⟨D, [], rfl, SqL.of hDl, ?_⟩
  have hS4 := hS3.same sm4
  obtain ⟨dx4, vc4, f4, _⟩ := hS4.ob
  refine ⟨_, rfl, b, dx4, _, rfl, f4, _, rfl, b, S, rfl, hS4, fun r1 H5 sm5 nr1 hr1' => ?_⟩
  have hS5 := hS4.same sm5
  obtain ⟨dx5, vc5, f5, _⟩ := hS5.ob
  have hcsat : CsAt K H5 S := fun qq hqq => by
    rw [hcs] at hqq
    rw [List.mem_singleton.mp hqq]
    exact ⟨C, hC.same ((sm13.trans sm4).trans sm5)⟩
  refine ⟨_, rfl, b, dx5, _, rfl, f5, _, rfl, b, S, rfl, hS5, hcsat, fun r2 ss H6 sm6 nr2 hr2 hss => ⟨_, _, rfl, ?_⟩⟩
  have hS6 := hS5.same sm6
  obtain ⟨dx6, vc6, f6, _⟩ := hS6.ob
  obtain ⟨dt6, et6⟩ := hS6.tab.ob
  have s46 := (sm4.trans sm5).trans sm6
  have s26 := (sm2.trans sm3).trans s46
  simp only [L2.start, List.map_cons, List.map_nil, List.length_cons, List.length_nil, List.replicate, List.cons_append, List.nil_append, List.set_cons_succ, List.set_cons_zero, Nat.reduceAdd, Nat.reduceSub]
  refine ⟨_, rfl, b, dx6, _, _, rfl, f6, rfl, S.t, dt6, _, rfl, et6, _, rfl, _, rfl, _, rfl, _, rfl, _, rfl, _, _, _, _, _, _, rfl, S.t, S.T, a, i, p, v.id, wo, _, withS S.L.states .und, ss, r1, r2, rfl, hS6.tab, hov.same s26, hp, hcv.same s46, hwo, rfl, rfl, sm6 _ _ hr1', rfl, hr2, fun pv n s only lacks q0 H7 sm7 hpv hpr0 hlk hok => ?_⟩
  obtain ⟨pva, pvx, epv, hpq, hprr⟩ := hpv.tup_eq
  subst epv
  cases hprr with | cons hp1 hprr =>
  cases hprr with | cons hp2 hprr =>
  cases hprr with | cons hp3 hprr =>
  cases hprr
  rw [hp2.bl_eq, hp3.bl_eq] at hpq
  rename_i plv _ _
  refine ⟨pva, _, rfl, hpq.t, rfl, _, _, rfl, _, _, rfl, _, _, rfl, rfl, ?_⟩
  simp only [L2.start, List.map_cons, List.map_nil, List.length_cons, List.length_nil, List.replicate, List.cons_append, List.nil_append, List.set_cons_succ, List.set_cons_zero, Nat.reduceAdd, Nat.reduceSub]
  have hS7 := hS6.same sm7
  obtain ⟨dx7, vc7, f7, _⟩ := hS7.ob
  refine ⟨_, rfl, _, rfl, ?_⟩
  have s47 := s46.trans sm7
  have smA := sm13.trans s47
  have hr1n : H r1 = none := none_of (sm13.trans sm4) nr1
  have hr2n : H r2 = none := none_of ((sm13.trans sm4).trans sm5) nr2
  have t1 : r1 ∉ S.T.fp S.t := fun z => hS.there (fp_T z) hr1n
  have t2 : r2 ∉ S.T.fp S.t := fun z => hS.there (fp_T z) hr2n
  have hr17 := sm7 _ _ (sm6 _ _ hr1')
  have hr27 := sm7 _ _ hr2
  have hov7 := hov.same (s26.trans sm7)
  have hcv7 := hcv.same s47
  cases only
  case' true =>
    refine iteT ?_
    obtain ⟨H8, eH8⟩ : ∃ H8, H8 = H7 := ⟨_, rfl⟩
    have sm8 : Same H7 H8 := by rw [eH8]; exact .refl _
    obtain ⟨onl, eon⟩ : ∃ onl, onl = true := ⟨_, rfl⟩
    rw [← eH8, ← eon]
  case' false =>
    refine iteF ⟨_, rfl, b, dx7, _, rfl, f7, _, rfl, _, rfl, _, rfl, _, _, _, _, rfl, b, S, rfl, hS7, fun H8 sm8 => ?_⟩
    obtain ⟨onl, eon⟩ : ∃ onl, onl = false := ⟨_, rfl⟩
    rw [← eon]
  all_goals
    simp only [L2.start, List.map_cons, List.map_nil, List.length_cons, List.length_nil, List.replicate, List.cons_append, List.nil_append, List.set_cons_succ, List.set_cons_zero, Nat.reduceAdd, Nat.reduceSub]
    have hS8 := hS7.same sm8
    refine ⟨_, rfl, _, rfl, ite2 (fun h => absurd h (by simp)) fun _ => ?_⟩
    obtain ⟨dx8, vc8, f8, _⟩ := hS8.ob
    obtain ⟨dt8, et8⟩ := hS8.tab.ob
    refine ⟨_, rfl, _, rfl, ?_⟩
    cases lacks
    case' false =>
      refine iteF ?_
      obtain ⟨H9, eH9⟩ : ∃ H9, H9 = H8 := ⟨_, rfl⟩
      have c9 : Chg (S.fp b) H8 H9 := by rw [eH9]; exact .refl _
      obtain ⟨q9, eq9⟩ : ∃ q9, q9 = p := ⟨_, rfl⟩
      have hpr9 : PrS (withS S.L.states .und) ss p q9 := by rw [eq9]; exact .refl p
      have hS9 : StoAt K H9 b (S.wT (S.T.pages.set a q9)) := by
        rw [eH9, eq9]
        have es : S.T.pages.set a p = S.T.pages := by
          rw [List.getElem?_eq_getElem al] at hp
          cases hp
          exact List.set_getElem_self al
        rw [es]
        exact hS8
      rw [← eH9]
    case' true =>
      refine iteT ⟨_, rfl, b, dx8, _, _, rfl, f8, rfl, S.t, dt8, _, rfl, et8, _, rfl, _, 0, _, hov7.same sm8, rfl, rfl, fun v0 hv0 => ?_⟩
      rw [hv0.int_eq]
      refine ⟨_, rfl, _, rfl, _, _, _, _, rfl, S.t, S.T, a, p, withS S.L.states .und, ss, r1, r2, rfl, hS8.tab, rfl, hp, rfl, sm8 _ _ hr17, rfl, sm8 _ _ hr27, t1, t2, fun rr q9 H9 c9' h9 hpr9 => ?_⟩
      have hS9 : StoAt K H9 b (S.wT (S.T.pages.set a q9)) := hS8.setT c9' tsub h9
      have c9 : Chg (S.fp b) H8 H9 := c9'.mono fun a ha => fp_T (tsub a ha)
    all_goals
      obtain ⟨dx9, vc9, f9, _⟩ := hS9.ob
      obtain ⟨dt9, et9⟩ := hS9.tab.ob
      obtain ⟨dl9, el9⟩ := hS9.led.ob
      have hgq : (S.T.pages.set a q9)[a]? = some q9 := List.getElem?_set_self al
      have hvq : q9[i]? = some (Slot.row v) := by
        obtain ⟨s', h1, h2⟩ := hpr9.at_ i _ hv
        rcases h2 with h2 | ⟨h2, _⟩
        · rw [h1, h2]
        · have h2 : deadV (withS S.L.states .und) ss v = true := h2
          have nd : deadV (withS S.L.states .und) ss v = false := by
            unfold deadV
            rcases hn with hn | ⟨en, ec, hn, h1, hs⟩
            · rw [hn]
              simp [hmk]
            · have hne : en ∉ ss := fun z => by
                have := (mem_withS.mp (hss en z)).2
                rw [hs] at this
                cases this
              rw [hn]
              simp [hmk, hne]
          rw [nd] at h2
          cases h2
      have hov9 := (hov7.same sm8).keep c9.tk
      refine ⟨_, rfl, b, dx9, _, _, rfl, f9, rfl, S.t, dt9, _, rfl, et9, _, rfl, ?_⟩
      refine ⟨_, rfl, b, dx9, _, _, rfl, f9, rfl, S.l, dl9, _, rfl, el9, _, rfl, _, _, rfl, S.l, S.L, l1, d, l2, pt, rfl, rfl, hS9.led, rd.ac, hpt, fun Ha sma => ?_⟩
      have hSa := hS9.same sma
      obtain ⟨dxa, vca, fa, _⟩ := hSa.ob
      obtain ⟨dla, ela⟩ := hSa.led.ob
      refine ⟨_, rfl, b, dxa, _, _, rfl, fa, rfl, S.l, dla, _, rfl, ela, _, rfl, _, _, rfl, S.l, S.L, l1, d, l2, rfl, rfl, hSa.led, rd.ac, ?_⟩
      have hpla := ((hp1.same sm8).keep c9.tk).same sma
      refine ⟨_, rfl, _, _, _, _, _, rfl, S.t, { S.T with pages := S.T.pages.set a q9 }, a, i, q9, v, pt, d.cmd, some (n, s), rfl, hSa.tab, hov9.same sma, hgq, hvq, pi, by show (S.T.pages.set a q9).length < 60; rw [List.length_set]; exact hlen, rfl, rfl, hpla, fun Hb cb hb => ?_⟩
      have hSb : StoAt K Hb b (S.wT (putPg (S.T.pages.set a q9) a i (.row (endV v pt d.cmd (some (n, s)))))) := hSa.setT cb tsub hb
      have cb' : Chg (S.fp b) Ha Hb := cb.mono fun a ha => fp_T (tsub (S := S) a ha)
      have eplen : (putPg (S.T.pages.set a q9) a i (.row (endV v pt d.cmd (some (n, s))))).length = S.T.pages.length := by
        rw [putPg_len (by rw [List.length_set]; exact al), List.length_set]
      obtain ⟨o1, o2⟩ := okat_lt hok
      rw [List.length_set] at o1
      obtain ⟨dxb, vcb, fb, _⟩ := hSb.ob
      have cAll : Chg (S.fp b) H Hb := ((((Chg.of smA).trans (Chg.of sm8)).trans c9).trans (Chg.of sma)).trans cb'
      refine ⟨_, rfl, b, dxb, _, rfl, fb, _, rfl, _, rfl, _, rfl, _, rfl, _, _, _, _, _, rfl, b, S.wT (putPg (S.T.pages.set a q9) a i (.row (endV v pt d.cmd (some (n, s))))), l1, d, l2, pt, n, s, onl, v.id, wo, rfl, rfl, hpla.keep cb.tk, rfl, ((((hcv7.same sm8).keep c9.tk).same sma).keep cb.tk), hwo, hSb, rd, hpt, by show n ≤ (putPg _ _ _ _).length; rw [eplen]; exact o1, by show (putPg _ _ _ _).length < 60; rw [eplen]; exact hlen, o2, fun Hc cc hc => ?_⟩
      have hplc := (hpla.keep cb.tk).keep cc.tk
      refine ⟨_, rfl, _, Tds.cons (.str _) (.cons hplc .nil), Nat.le_of_ble_eq_true rfl, fun vd Hd smd hvd => ?_⟩
      exact q vd n s onl ss q9 Hd ((cAll.trans cc).trans (Chg.of smd)) (hc.same smd) ⟨⟨q0, hpr0, hok⟩, hpr9⟩ hss hvd
end Rc


set_option Elab.async false
set_option linter.all false
set_option maxRecDepth 100000
set_option maxHeartbeats 4000000
namespace Rc
open PySem PySem.Spec PyProof.Rows L2 He
structure Vac where
  many : Nat
  memory : Nat
  page : Nat
  nd : Addr
  noted : List (Nat × (Addr × List Nat))
  cl : Str
  stage : Str
def Vac.fp (a : Addr) (W : Vac) : List Addr := a :: W.nd :: W.noted.map fun q => q.2.1
def noteK (ns : List (Nat × (Addr × List Nat))) : List (Key × V) := ns.map fun p => ((Sum.inl ((p.1 : Nat) : Int) : Key), (fun q : Addr × List Nat => V.ref q.1) p.2)
structure VacAt (K : PySem.W.Frag) (H : Hp) (a : Addr) (W : Vac) : Prop where
  ob : ∃ dx, H a = some (Ob (ga K "Vacuum") dx nsVacuum [.int (W.many : Int), .int (W.memory : Int), .int (W.page : Int), .ref W.nd, .str W.cl, .str W.stage])
  dk : H W.nd = some (.dK (noteK W.noted))
  ls : ∀ q ∈ W.noted, H q.2.1 = some (.lst (IL q.2.2)) ∧ q.2.2.length ≤ 8
  kn : (W.noted.map (·.1)).Nodup
  nl : W.noted.length ≤ 60
  nd : (W.fp a).Nodup
section
variable {K : PySem.W.Frag} {H H' : Hp} {a : Addr} {W : Vac}
theorem VacAt.keep (h : VacAt K H a W) (k : ∀ x ∈ W.fp a, ∀ o, H x = some o → H' x = some o) : VacAt K H' a W := by
  obtain ⟨dx, e⟩ := h.ob
  refine ⟨⟨dx, k _ (by simp [Vac.fp]) _ e⟩, k _ (by simp [Vac.fp]) _ h.dk, fun q hq => ⟨k _ ?_ _ (h.ls q hq).1, (h.ls q hq).2⟩, h.kn, h.nl, h.nd⟩
  unfold Vac.fp
  exact List.mem_cons_of_mem _ (List.mem_cons_of_mem _ (List.mem_map.mpr ⟨q, hq, rfl⟩))
theorem VacAt.same (h : VacAt K H a W) (s : Same H H') : VacAt K H' a W := h.keep fun x _ o e => s x o e
theorem VacAt.nt (h : VacAt K H a W) : ∀ x ∈ W.fp a, NT (H x) := fun x hx => by
  obtain ⟨dx, e⟩ := h.ob
  unfold Vac.fp at hx
  rcases List.mem_cons.mp hx with z | hx
  · rw [z]; exact NT.of e rfl
  rcases List.mem_cons.mp hx with z | hx
  · rw [z]; exact NT.of h.dk rfl
  obtain ⟨q, hq, e2⟩ := List.mem_map.mp hx
  rw [← e2]
  exact NT.of (h.ls q hq).1 rfl
theorem VacAt.chg {fp : List Addr} (h : VacAt K H a W) (c : Chg fp H H') (n : ∀ x ∈ fp, x ∉ W.fp a) : VacAt K H' a W := h.keep fun x hx o e => c.keep x o e fun z => n x z hx
end
theorem in_list {J : It} {n : Nat} {H0 : Hp} {Qd : Hp → Prop} {B : V → Hp → (Hp → Prop) → Prop} (Pv : Nat → Hp → Prop) (h0 : Pv 0 H0) (hgo : ∀ i H, i < n → Pv i H → J.go i H) (hst : ∀ H, Pv n H → J.stop n H)
    (hs : ∀ i H x H', i < n → Pv i H → J.yld i H x H' → B x H' (Pv (i + 1))) (hd : ∀ H, Pv n H → Qd H) :
    ∃ W : Nat → Nat → Hp → Prop, (∃ m, W 0 m H0) ∧ ∀ i m H, W i m H →
      (J.stop i H ∧ Qd H) ∨ (J.go i H ∧ ∃ Nx : Hp → Prop, (∀ H', Nx H' → ∃ m', m' < m ∧ W (i + 1) m' H') ∧ ∀ x H', J.yld i H x H' → B x H' Nx) := by
  refine ⟨fun i m H => m = n - i ∧ i ≤ n ∧ Pv i H, ⟨n, rfl, Nat.zero_le _, h0⟩, ?_⟩
  rintro i m H ⟨em, hi, p⟩
  by_cases hlt : i < n
  · exact .inr ⟨hgo i H hlt p, Pv (i + 1), fun H' p' => ⟨n - (i + 1), by omega, rfl, hlt, p'⟩, fun x H' y => hs i H x H' hlt p y⟩
  · have e : i = n := by omega
    subst e
    exact .inl ⟨hst H p, hd H p⟩
theorem note_keys (ns : List (Nat × (Addr × List Nat))) : (noteK ns).map (·.1) = (ns.map fun q => ((q.1 : Nat) : Int)).map Sum.inl := by
  unfold noteK
  rw [List.map_map, List.map_map]
  rfl
def sp_Vacuum_noted (K : PySem.W.Frag) : Sp := s1 fun x H Q => ∃ a W, x = .ref a ∧ VacAt K H a W ∧ ∀ (r : Addr) (vs : List V) (H' : Hp), Same H H' → H' r = some (.lst vs) → Q (.ref r) H'
theorem ok_Vacuum_noted {P : Program} {w : World} {K : PySem.W.Frag} {mg : Str → Option Value} {base : Heap} (T : Tx K mg) : Df P w K mg base (fAd K ("Vacuum", some "noted")) 1 [] (sp_Vacuum_noted K) := by
  obtain ⟨fd, F⟩ := fn_Vacuum_noted T
  refine df1 F sc_Vacuum_noted (fun _ _ _ _ _ _ us hl => match us, hl with | [_], _ => rfl) fun self H Q h => ?_
  intro cdv A outer s E hr
  have hu := hu_of hr
  refine ⟨_, (pss_one (ps_ret (pe_lc2 (own := [("page", 1), ("slot", 2)]) (vs1 := [2]) (tt := tYes) (tt1 := tYes) rfl (sc_Vacuum_noted).nd (pi_listK K (pe_callB (cr_sortedDk rfl) (by rfl) (T.b_sorted) (by decide +kernel) (pa_cons (pe_at (T.f_Vacuum_own_noted) (pv 0)) pa_nil))) (blkOk_by (N := ["self", "page", "slot"]) (sc := defScope t_Vacuum_noted) (by decide +kernel)) (by decide) (fun _ _ _ _ _ => (pg_name (i := 1) (sc_Vacuum_noted).nd rfl (.inl rfl))) (fun _ _ _ _ _ => pts_nil) (fun _ _ _ _ _ => (pi_listK K (pe_dget hu (pe_at (T.f_Vacuum_own_noted) (pv 0)) (pv 1) (fun _ _ => rfl)))) (fun _ _ _ _ _ => (pg_name (i := 2) (sc_Vacuum_noted).nd rfl (.inl rfl))) (fun _ _ _ _ _ => pts_nil) (fun _ _ _ _ _ => (pe_tupdK K (pa_cons (pv 1) (pa_cons (pv 2) pa_nil))))))), ?_⟩
  obtain ⟨a, W, ex, hW, q⟩ := h
  subst ex
  obtain ⟨dx, e⟩ := hW.ob
  refine ⟨_, rfl, a, dx, _, _, rfl, e, rfl, W.nd, _, W.noted.map (fun q => ((q.1 : Nat) : Int)), rfl, hW.dk, note_keys _, fun ys p hp _ np => ⟨p, rfl, ⟨_, SqL.of upd_same⟩, fun D hD => ?_⟩⟩
  have s1 := same_new (o := .lst (ys.map V.int)) np
  have ly : ys.length = W.noted.length := by rw [hp.length_eq, List.length_map]
  have hD0 : H D = none := none_of s1 hD
  have hnl := hW.nl
  refine in_list (n := ys.length) (fun i H' => ∃ acc, CmW (upd H p (.lst (ys.map V.int))) D acc H' ∧ acc.length ≤ 8 * i) ⟨[], .start hD, Nat.zero_le _⟩ ?_ ?_ ?_ ?_
  · rintro i H' hi ⟨acc, c, _⟩
    exact ⟨ys.map V.int, V.int ys[i], SqL.of (c.sm _ _ upd_same), by rw [List.getElem?_map, List.getElem?_eq_getElem hi]; rfl⟩
  · rintro H' ⟨acc, c, _⟩
    exact ⟨ys.map V.int, SqL.of (c.sm _ _ upd_same), by rw [List.length_map]; exact Nat.le_refl _⟩
  · rintro i H1 x H2 hi ⟨acc, c, la⟩ ⟨eH, hx⟩
    subst eH
    have hx2 := hx _ (SqL.of (c.sm _ _ upd_same))
    rw [List.getElem?_map, List.getElem?_eq_getElem hi] at hx2
    cases hx2
    obtain ⟨qq, hq, eq⟩ := List.mem_map.mp (hp.mem_iff.mp (List.getElem_mem hi))
    have sm : Same H H2 := s1.trans c.sm
    obtain ⟨hl, l8⟩ := hW.ls qq hq
    have dg : DGet H2 W.nd (.int ys[i]) (some (.ref qq.2.1)) := by
      rw [← eq]
      exact DGet.keep1 (H := H) (sm _ _ hW.dk) (valV_mem (f := fun q : Addr × List Nat => V.ref q.1) hW.kn hq)
    refine ⟨rfl, ?_⟩
    unfold tYes
    refine iteT ⟨_, rfl, a, dx, _, _, rfl, sm _ _ e, rfl, _, rfl, W.nd, _, rfl, dg, qq.2.1, rfl, ⟨_, SqL.of (sm _ _ hl)⟩, ?_⟩
    refine in_list (n := qq.2.2.length) (fun j H' => ∃ acc, CmW (upd H p (.lst (ys.map V.int))) D acc H' ∧ acc.length ≤ 8 * i + j) ⟨acc, c, by omega⟩ ?_ ?_ ?_ ?_
    · rintro j H' hj ⟨acc, c, _⟩
      exact ⟨IL qq.2.2, .int ((qq.2.2[j] : Nat) : Int), SqL.of (c.sm _ _ (s1 _ _ hl)), IL_at (List.getElem?_eq_getElem hj)⟩
    · rintro H' ⟨acc, c, _⟩
      exact ⟨IL qq.2.2, SqL.of (c.sm _ _ (s1 _ _ hl)), by rw [IL_len]; exact Nat.le_refl _⟩
    · rintro j H3 y H4 hj ⟨acc, c3, la3⟩ ⟨eH, hy⟩
      subst eH
      have hy2 := hy _ (SqL.of (c3.sm _ _ (s1 _ _ hl)))
      rw [IL_at (List.getElem?_eq_getElem hj)] at hy2
      cases hy2
      refine ⟨rfl, ?_⟩
      refine iteT ⟨_, rfl, _, rfl, _, Tds.cons (.int _) (.cons (.int _) .nil), Nat.le_of_ble_eq_true rfl, fun v H5 sm5 hv => ?_⟩
      have c5 := c3.same sm5
      exact ⟨acc, c5.at_, small1000 (by omega), acc ++ [v], c5.push hD v, by rw [List.length_append, List.length_singleton]; omega⟩
    · rintro H' ⟨acc, c, la⟩
      exact ⟨acc, c, by omega⟩
  · rintro H' ⟨acc, c, la⟩
    exact q D acc H' (s1.trans c.sm) c.at_
def sp_Vacuum_init (K : PySem.W.Frag) : Sp := s3 fun x y z H Q => ∃ (a dx : Addr) (m k : Nat), x = .ref a ∧ H a = some (Ob (ga K "Vacuum") dx nsVacuum []) ∧ y = .int (m : Int) ∧ z = .int (k : Int) ∧
  ∀ nd H', Chg [a] H H' → H nd = none → VacAt K H' a ⟨m, k, 0, nd, [], "", "pruned"⟩ → Q .non H'
theorem ok_Vacuum_init {P : Program} {w : World} {K : PySem.W.Frag} {mg : Str → Option Value} {base : Heap} (T : Tx K mg) : Df P w K mg base (fAd K ("Vacuum", some "__init__")) 1 [] (sp_Vacuum_init K) := by
  obtain ⟨fd, F⟩ := fn_Vacuum_init T
  refine df3 F sc_Vacuum_init (fun _ _ _ _ _ _ us hl => match us, hl with | [_, _, _], _ => rfl) fun self many memory H Q h => ?_
  intro cdv A outer s E hr
  have hu := hu_of hr
  refine ⟨_, (pss_cons (ps_new (T.f_Vacuum_own_many) (pv 0) (pv 1))
    (pss_cons (ps_new (T.f_Vacuum_own_memory) (pv 0) (pv 2))
    (pss_cons (ps_new (T.f_Vacuum_own_page) (pv 0) pe_int)
    (pss_cons (ps_new (T.f_Vacuum_own_noted) (pv 0) pe_dnewK)
    (pss_cons (ps_new (T.f_Vacuum_own_cleaned) (pv 0) pe_str)
    (pss_one (ps_new (T.f_Vacuum_own_stage) (pv 0) (pe_gs rfl (T.g_PRUNED))))))))), ?_⟩
  obtain ⟨a, dx, m, k, ex, e, ey, ez, q⟩ := h
  subst ex ey ez
  refine ⟨_, rfl, _, rfl, a, dx, _, rfl, e, rfl, ?_⟩
  refine ⟨_, rfl, _, rfl, a, dx, _, rfl, upd_same, rfl, ?_⟩
  refine ⟨_, rfl, a, dx, _, rfl, upd_same, rfl, ?_⟩
  refine fun nd nnd => ?_
  have s1 := same_new (o := .dK []) nnd
  have na : nd ≠ a := fun z => by rw [z, upd_same] at nnd; cases nnd
  have nnd0 : H nd = none := by rw [upd_ne na, upd_ne na, upd_ne na] at nnd; exact nnd
  refine ⟨_, rfl, a, dx, _, rfl, s1 _ _ upd_same, rfl, ?_⟩
  refine ⟨_, rfl, a, dx, _, rfl, upd_same, rfl, ?_⟩
  refine ⟨_, rfl, a, dx, _, rfl, upd_same, rfl, ?_⟩
  refine q nd _ ?_ nnd0 ⟨⟨dx, upd_same⟩, ?_, nofun, List.nodup_nil, Nat.zero_le _, by simp [Vac.fp, Ne.symm na]⟩
  · exact ((((((Chg.upd (o := Ob (ga K "Vacuum") dx nsVacuum [.int (m : Int)]) e (by simp)).trans (Chg.upd (o := Ob (ga K "Vacuum") dx nsVacuum [.int (m : Int), .int (k : Int)]) upd_same (by simp))).trans (Chg.upd (o := Ob (ga K "Vacuum") dx nsVacuum [.int (m : Int), .int (k : Int), .int 0]) upd_same (by simp))).trans (Chg.of s1)).trans (Chg.upd (s1 _ _ upd_same) (by simp))).trans (Chg.upd upd_same (by simp))).trans (Chg.upd upd_same (by simp))
  · show upd _ a _ nd = _
    rw [upd_ne na, upd_ne na, upd_ne na]
    exact upd_same
end Rc


set_option Elab.async false
set_option linter.all false
set_option maxRecDepth 100000
set_option maxHeartbeats 4000000
namespace Rc
open PySem PySem.Spec PyProof.Rows L2 He
abbrev vacOb (K : PySem.W.Frag) (dx : Addr) (W : Vac) : HO := Ob (ga K "Vacuum") dx nsVacuum [.int (W.many : Int), .int (W.memory : Int), .int (W.page : Int), .ref W.nd, .str W.cl, .str W.stage]
/-- its own object is written -/
theorem VacAt.setO {K : PySem.W.Frag} {H : Hp} {a : Addr} {W : Vac} (h : VacAt K H a W) {dx : Addr} {vs : List V} (e : H a = some (Ob (ga K "Vacuum") dx nsVacuum vs)) (pg : Nat) (cl st : Str) :
    VacAt K (upd H a (vacOb K dx { W with page := pg, cl := cl, stage := st })) a { W with page := pg, cl := cl, stage := st } := by
  have nd := h.nd
  unfold Vac.fp at nd
  have hn := (List.nodup_cons.mp nd).1
  have ko : ∀ {x : Addr} {o : HO}, x ∈ W.nd :: W.noted.map (fun q => q.2.1) → H x = some o → upd H a (vacOb K dx { W with page := pg, cl := cl, stage := st }) x = some o := fun {x o} hx e => by
    rw [upd_ne (fun z : x = a => hn (z ▸ hx))]
    exact e
  exact ⟨⟨dx, upd_same⟩, ko (by simp) h.dk, fun q hq => ⟨ko (List.mem_cons_of_mem _ (List.mem_map.mpr ⟨q, hq, rfl⟩)) (h.ls q hq).1, (h.ls q hq).2⟩, h.kn, h.nl, h.nd⟩
theorem noteK_app (ns : List (Nat × (Addr × List Nat))) (q : Nat × (Addr × List Nat)) : noteK (ns ++ [q]) = noteK ns ++ [(.inl ((q.1 : Nat) : Int), .ref q.2.1)] := by
  unfold noteK
  rw [List.map_append]
  rfl
/-- the marks of a page are noted -/
theorem VacAt.add {K : PySem.W.Frag} {H : Hp} {a : Addr} {W : Vac} (h : VacAt K H a W) {n : Nat} {l : Addr} {us : List Nat} (hl : H l = some (.lst (IL us))) (u8 : us.length ≤ 8) (nl : l ∉ W.fp a) (kn : ∀ q ∈ W.noted, q.1 ≠ n) (lt : W.noted.length < 60) :
    VacAt K (upd H W.nd (.dK (noteK (W.noted ++ [(n, (l, us))])))) a { W with noted := W.noted ++ [(n, (l, us))] } := by
  have nd := h.nd
  unfold Vac.fp at nd
  obtain ⟨h1, h2⟩ := List.nodup_cons.mp nd
  obtain ⟨h3, h4⟩ := List.nodup_cons.mp h2
  obtain ⟨dx, e⟩ := h.ob
  have ko : ∀ {x : Addr} {o : HO}, x ≠ W.nd → H x = some o → upd H W.nd (.dK (noteK (W.noted ++ [(n, (l, us))]))) x = some o := fun {x o} hx e => by
    rw [upd_ne hx]
    exact e
  have lnd : l ≠ W.nd := fun z => nl (by unfold Vac.fp; rw [z]; simp)
  refine ⟨⟨dx, ko (fun z => h1 (by rw [z]; simp)) e⟩, upd_same, fun q hq => ?_, ?_, ?_, ?_⟩
  · rcases List.mem_append.mp hq with z | z
    · exact ⟨ko (fun y => h3 (y ▸ List.mem_map.mpr ⟨q, z, rfl⟩)) (h.ls q z).1, (h.ls q z).2⟩
    · rw [List.mem_singleton.mp z]
      exact ⟨ko lnd hl, u8⟩
  · show ((W.noted ++ [(n, (l, us))]).map (·.1)).Nodup
    rw [List.map_append, List.nodup_append]
    refine ⟨h.kn, by simp, fun x hx y hy => ?_⟩
    obtain ⟨q, hq, e⟩ := List.mem_map.mp hx
    have hy : y = n := by simpa using hy
    rw [hy, ← e]
    exact kn q hq
  · show (W.noted ++ [(n, (l, us))]).length ≤ 60
    rw [List.length_append]
    exact lt
  · show (a :: W.nd :: (W.noted ++ [(n, (l, us))]).map fun q => q.2.1).Nodup
    have ef : (a :: W.nd :: (W.noted ++ [(n, (l, us))]).map fun q => q.2.1) = W.fp a ++ [l] := by
      unfold Vac.fp
      rw [List.map_append]
      rfl
    rw [ef, List.nodup_append]
    exact ⟨h.nd, by simp, fun x hx y hy => by
      rw [List.mem_singleton.mp hy]
      exact fun z => nl (z ▸ hx)⟩
def wordD (w : Str) (x y : Nat) : PyData := .tuple [.str w, .int (x : Int), .int (y : Int)]
def Apart (fp fp' : List Addr) : Prop := ∀ x ∈ fp, x ∉ fp'
def sp_Vacuum_prune_next (K : PySem.W.Frag) : Sp := s2 fun x y H Q => ∃ a W b S p, x = .ref a ∧ y = .ref b ∧ StoAt K H b S ∧ S.cs = [] ∧ VacAt K H a W ∧ Apart (W.fp a) (S.fp b) ∧ S.T.pages[W.page]? = some p ∧ (∀ q ∈ W.noted, q.1 < W.page) ∧ W.noted.length < 60 ∧
  ∀ r k q ss us W' H', Chg (S.fp b ++ W.fp a) H H' → StoAt K H' b (S.wT (S.T.pages.set W.page q)) → VacAt K H' a W' → W'.many = W.many → W'.page = W.page + 1 → (W'.noted = W.noted ∨ ∃ l, W'.noted = W.noted ++ [(W.page, (l, us))]) → (∀ x ∈ W'.fp a, x ∈ W.fp a ∨ H x = none) →
    PrS (withS S.L.states .und) ss p q → (∀ s ∈ ss, s ∈ withS S.L.states .com) → (∀ m ∈ us, q[m]? = some .dead) → Td K H' r (wordD "pruned" W.page k) → Q r H'
theorem cs_nil {K : PySem.W.Frag} {H : Hp} {S : Sto} (h : S.cs = []) : CsAt K H S := fun q hq => by
  rw [h] at hq
  cases hq
theorem ok_Vacuum_prune_next {P : Program} {w : World} {K : PySem.W.Frag} {mg : Str → Option Value} {base : Heap} (T : Tx K mg) : Df P w K mg base (fAd K ("Vacuum", some "prune_next")) 9 [] (sp_Vacuum_prune_next K) := by
  obtain ⟨fd, F⟩ := fn_Vacuum_prune_next T
  refine df2 F sc_Vacuum_prune_next (fun _ _ _ _ _ _ us hl => match us, hl with | [_, _], _ => rfl) fun self table H Q h => ?_
  intro cdv A outer s E hr
  have hu := hu_of hr
  refine ⟨_, (pss_cons (ps_set (i := 2) (sc_Vacuum_prune_next).nd rfl (.inl rfl) (pe_at (T.f_Vacuum_own_page) (pv 0)))
    (pss_cons (ps_expr (pe_mt (ok_Base_prune T) (T.m_Base_prune) (hr.mono (by decide)) (pv 1) (pa_cons (pv 2) pa_nil)))
    (pss_cons (ps_set (i := 3) (sc_Vacuum_prune_next).nd rfl (.inl rfl) (pe_mt (ok_Base_dead_slots T) (T.m_Base_dead_slots) (hr.mono (by decide)) (pv 1) (pa_cons (pv 2) pa_nil)))
    (pss_cons (ps_if (pt_cmpR op_gt (pe_callB (call_len_seqK K) (by rfl) (T.b_len) (by decide +kernel) (pa_cons (pv 3) pa_nil)) pe_int (nomark _)) (pss_one (ps_dput hu (pe_at (T.f_Vacuum_own_noted) (pv 0)) (pv 2) (pv 3) rfl)) pss_nil)
    (pss_cons (ps_put (T.f_Vacuum_own_page) (pv 0) (pe_op op_add (pv 2) pe_int))
    (pss_cons (ps_if (PW.pt (pw_or (pt_cmpR op_eq (pe_at (T.f_Vacuum_own_page) (pv 0)) (pe_at (T.f_Vacuum_own_many) (pv 0)) (nomark _)) (pw_or1 (pt_cmpR op_ge (pe_callB (call_len_seqK K) (by rfl) (T.b_len) (by decide +kernel) (pa_cons (pe_mt0 (ok_Vacuum_noted T) (T.m_Vacuum_noted) (hr.mono (by decide)) (pv 0)) pa_nil)) (pe_at (T.f_Vacuum_own_memory) (pv 0)) (nomark _))))) (pss_one (ps_asg (pe_tupdK K (pa_cons (pe_gs rfl (T.g_CLEANED)) (pa_cons pe_str pa_nil))) (pg_tupK K (n := 2) (by rfl) (pgs_cons (pg_put (T.f_Vacuum_own_stage) (pv 0)) (pgs_cons (pg_put (T.f_Vacuum_own_cleaned) (pv 0)) pgs_nil))))) pss_nil)
    (pss_one (ps_ret (pe_tupdK K (pa_cons (pe_gs rfl (T.g_PRUNED)) (pa_cons (pv 2) (pa_cons (pe_callB (call_len_seqK K) (by rfl) (T.b_len) (by decide +kernel) (pa_cons (pv 3) pa_nil)) pa_nil)))))))))))), ?_⟩
  obtain ⟨a, W, b, S, p, ex, ey, hS, hcs, hW, ap, hp, hnp, hn6, q⟩ := h
  subst ex ey
  obtain ⟨dx, e⟩ := hW.ob
  obtain ⟨db, vc, f, _⟩ := hS.ob
  have al := (List.getElem?_eq_some_iff.mp hp).1
  refine ⟨_, rfl, a, dx, _, _, rfl, e, rfl, ?_⟩
  refine ⟨_, rfl, b, db, _, rfl, f, _, rfl, _, _, rfl, b, S, W.page, p, rfl, rfl, hS, cs_nil hcs, hp, fun r1 q1 ss H1 c1 hS1 hpr hss => ?_⟩
  have hW1 := hW.chg c1 fun x hx hy => ap x hy hx
  obtain ⟨db1, vc1, f1, _⟩ := hS1.ob
  obtain ⟨dx1, e1⟩ := hW1.ob
  have hq1 : (S.T.pages.set W.page q1)[W.page]? = some q1 := List.getElem?_set_self al
  refine ⟨_, rfl, b, db1, _, rfl, f1, _, rfl, _, _, rfl, b, _, W.page, q1, rfl, hS1, rfl, hq1, fun r2 us H2 sm2 nr2 hr2 u8 hus => ?_⟩
  have hS2 := hS1.same sm2
  have hW2 := hW1.same sm2
  have c2 : Chg (S.fp b ++ W.fp a) H H2 := (c1.trans (Chg.of sm2)).mono fun x hx => List.mem_append_left _ hx
  have r2f : r2 ∉ W.fp a := fun z => (hW1.nt _ z).not nr2
  have r2n : H r2 = none := by
    cases eq : H r2 with
    | none => rfl
    | some o =>
      by_cases hm : r2 ∈ S.fp b
      · exact (hS1.there (S := S.wT (S.T.pages.set W.page q1)) hm nr2).elim
      · have := c1.keep _ _ eq hm
        rw [nr2] at this
        cases this
  have r2s : r2 ∉ S.fp b := fun z => hS.there z r2n
  refine ⟨_, rfl, r2, _, rfl, .inl (SqL.of hr2), ((IL us).length : Int), 0, rfl, rfl, _, rfl, ?_⟩
  rw [IL_len]
  refine ite2 (fun hc => ?g1) (fun hc => ?g2)
  case' g1 =>
    obtain ⟨dx2, e2⟩ := hW2.ob
    have kn : ∀ q ∈ W.noted, q.1 ≠ W.page := fun q hq => Nat.ne_of_lt (hnp q hq)
    refine ⟨_, rfl, _, rfl, a, dx2, _, _, rfl, e2, rfl, _, rfl, W.nd, _, rfl, DPut.k (k := .inl ((W.page : Nat) : Int)) hW2.dk (small1000 (by unfold noteK; rw [List.length_map]; omega)), ?_⟩
    have eput : putK (noteK W.noted) (.inl ((W.page : Nat) : Int)) (.ref r2) = noteK (W.noted ++ [(W.page, (r2, us))]) := by
      rw [noteK_app]
      exact putK_new (f := fun q : Addr × List Nat => V.ref q.1) kn
    rw [eput]
    have hW3 := hW2.add hr2 u8 r2f kn hn6
    have c3 : Chg (S.fp b ++ W.fp a) H (upd H2 W.nd (.dK (noteK (W.noted ++ [(W.page, (r2, us))])))) := c2.trans (Chg.upd hW2.dk (List.mem_append_right _ (by simp [Vac.fp])))
    have hS3 : StoAt K (upd H2 W.nd (.dK (noteK (W.noted ++ [(W.page, (r2, us))])))) b (S.wT (S.T.pages.set W.page q1)) := hS2.chg (Chg.upd (fp := [W.nd]) hW2.dk (by simp)) fun x hx => by
      rw [List.mem_singleton.mp hx]
      exact ap _ (by simp [Vac.fp])
    have hr3 : upd H2 W.nd (.dK (noteK (W.noted ++ [(W.page, (r2, us))]))) r2 = some (.lst (IL us)) := by
      rw [upd_ne (fun z : r2 = W.nd => r2f (by rw [z]; simp [Vac.fp]))]
      exact hr2
    obtain ⟨W3, eW3⟩ : ∃ W3 : Vac, W3 = { W with noted := W.noted ++ [(W.page, (r2, us))] } := ⟨_, rfl⟩
    have w1 : W3.many = W.many ∧ W3.page = W.page := by rw [eW3]; exact ⟨rfl, rfl⟩
    have w2 : W3.noted = W.noted ∨ ∃ l, W3.noted = W.noted ++ [(W.page, (l, us))] := by rw [eW3]; exact .inr ⟨r2, rfl⟩
    have w3 : ∀ x ∈ W3.fp a, x ∈ W.fp a ∨ H x = none := fun x hx => by
      rw [eW3] at hx
      unfold Vac.fp at hx ⊢
      simp only [List.map_append, List.mem_cons, List.mem_append, List.map_cons, List.map_nil, List.not_mem_nil, or_false] at hx ⊢
      rcases hx with z | z | z | z
      · exact .inl (.inl z)
      · exact .inl (.inr (.inl z))
      · exact .inl (.inr (.inr z))
      · exact .inr (z ▸ r2n)
    rw [← eW3] at hW3
    generalize hH3 : upd H2 W.nd (.dK (noteK (W.noted ++ [(W.page, (r2, us))]))) = H3 at hW3 c3 hS3 hr3
  case' g2 =>
    obtain ⟨W3, eW3⟩ : ∃ W3 : Vac, W3 = W := ⟨_, rfl⟩
    obtain ⟨H3, eH3⟩ : ∃ H3, H3 = H2 := ⟨_, rfl⟩
    have hW3 : VacAt K H3 a W3 := by rw [eW3, eH3]; exact hW2
    have hS3 : StoAt K H3 b (S.wT (S.T.pages.set W.page q1)) := by rw [eH3]; exact hS2
    have c3 : Chg (S.fp b ++ W.fp a) H H3 := by rw [eH3]; exact c2
    have hr3 : H3 r2 = some (.lst (IL us)) := by rw [eH3]; exact hr2
    have w1 : W3.many = W.many ∧ W3.page = W.page := by rw [eW3]; exact ⟨rfl, rfl⟩
    have w2 : W3.noted = W.noted ∨ ∃ l, W3.noted = W.noted ++ [(W.page, (l, us))] := .inl (by rw [eW3])
    have w3 : ∀ x ∈ W3.fp a, x ∈ W.fp a ∨ H x = none := fun x hx => .inl (by rw [eW3] at hx; exact hx)
    rw [← eH3]
  all_goals
    obtain ⟨dx3, e3⟩ := hW3.ob
    refine ⟨_, rfl, _, 1, rfl, rfl, _, rfl, a, dx3, _, rfl, e3, Nat.le_of_ble_eq_true rfl, ?_⟩
    have hW4 := hW3.setO e3 (W.page + 1) W3.cl W3.stage
    have aF : a ∈ S.fp b ++ W.fp a := List.mem_append_right _ (by simp [Vac.fp])
    have aS : ∀ x ∈ [a], x ∉ S.fp b := fun x hx => by
      rw [List.mem_singleton.mp hx]
      exact ap _ (by simp [Vac.fp])
    have c4 : Chg (S.fp b ++ W.fp a) H (upd H3 a (vacOb K dx3 { W3 with page := W.page + 1, cl := W3.cl, stage := W3.stage })) := c3.trans (Chg.upd e3 aF)
    have hS4 : StoAt K (upd H3 a (vacOb K dx3 { W3 with page := W.page + 1, cl := W3.cl, stage := W3.stage })) b (S.wT (S.T.pages.set W.page q1)) := hS3.chg (Chg.upd (fp := [a]) e3 (by simp)) aS
    have r2a : r2 ≠ a := fun z => r2f (by rw [z]; simp [Vac.fp])
    have hr4 : upd H3 a (vacOb K dx3 { W3 with page := W.page + 1, cl := W3.cl, stage := W3.stage }) r2 = some (.lst (IL us)) := by
      rw [upd_ne r2a]
      exact hr3
    have w3' : ∀ (cl st : Str), ∀ x ∈ Vac.fp a { W3 with page := W.page + 1, cl := cl, stage := st }, x ∈ W.fp a ∨ H x = none := fun cl st x hx => w3 x hx
    obtain ⟨dx4, e4⟩ := hW4.ob
    have ret : ∀ (cl st : Str) (H5 : Hp), Chg (S.fp b ++ W.fp a) H H5 → StoAt K H5 b (S.wT (S.T.pages.set W.page q1)) → VacAt K H5 a { W3 with page := W.page + 1, cl := cl, stage := st } → H5 r2 = some (.lst (IL us)) → ∀ v H6, Same H5 H6 → Td K H6 v (wordD "pruned" W.page us.length) → Q v H6 := fun cl st H5 c5 hS5 hW5 hr5 v H6 sm6 hv =>
      q v us.length q1 ss us _ H6 (c5.trans (Chg.of sm6)) (hS5.same sm6) (hW5.same sm6) w1.1 rfl w2 (w3' cl st) hpr hss hus hv
    have done : ∀ σ : L2.St, σ[2]? = some (some (.int (W.page : Int))) → σ[3]? = some (some (.ref r2)) → ∀ (cl st : Str) (H5 : Hp), Chg (S.fp b ++ W.fp a) H H5 → StoAt K H5 b (S.wT (S.T.pages.set W.page q1)) → VacAt K H5 a { W3 with page := W.page + 1, cl := cl, stage := st } → H5 r2 = some (.lst (IL us)) → ∀ D : VK, D = Q →
        tTupD K (tCons (tC (.str "pruned")) (tCons (tVar 2) (tCons (tCB (rLenQ K) (tCons (tVar 3) tNil)) tNil))) σ H5 D := fun σ g2 g3 cl st H5 c5 hS5 hW5 hr5 D eD => by
      subst eD
      refine ⟨_, g2, _, g3, r2, _, rfl, .inl (SqL.of hr5), ?_⟩
      rw [IL_len]
      exact ⟨_, Tds.cons (.str _) (.cons (.int _) (.cons (.int _) .nil)), Nat.le_of_ble_eq_true rfl, fun v H6 sm6 hv => ret cl st H5 c5 hS5 hW5 hr5 v H6 sm6 hv⟩
    have setst : ∀ σ : L2.St, σ[0]? = some (some (.ref a)) → σ[2]? = some (some (.int (W.page : Int))) → σ[3]? = some (some (.ref r2)) → ∀ (H5 : Hp), Same (upd H3 a (vacOb K dx3 { W3 with page := W.page + 1, cl := W3.cl, stage := W3.stage })) H5 → ∀ D : Ends, D.rt = Q → (∀ σ H, tTupD K (tCons (tC (.str "pruned")) (tCons (tVar 2) (tCons (tCB (rLenQ K) (tCons (tVar 3) tNil)) tNil))) σ H D.rt → D.nx σ H) →
        tAsg (tTupD K (tCons (tC (.str "cleaned")) (tCons (tC (.str "")) tNil))) (gTup K 2 (gCons (gPut (ga K "Vacuum") nsVacuum 5 (tVar 0)) (gCons (gPut (ga K "Vacuum") nsVacuum 4 (tVar 0)) gNil))) D σ H5 := fun σ g0 g2 g3 H5 sm5 D eD hD => by
      refine ⟨_, Tds.cons (.str _) (.cons (.str _) .nil), Nat.le_of_ble_eq_true rfl, fun v H6 sm6 hv => ?_⟩
      obtain ⟨va, vxs, ev, hvq, hvr⟩ := hv.tup_eq
      subst ev
      cases hvr with | cons hv1 hvr =>
      cases hvr with | cons hv2 hvr =>
      cases hvr
      rw [hv1.str_eq, hv2.str_eq] at hvq
      have sm56 := sm5.trans sm6
      have hW6 := hW4.same sm56
      obtain ⟨dx6, e6⟩ := hW6.ob
      have hW7 := hW6.setO e6 (W.page + 1) W3.cl "cleaned"
      obtain ⟨dx7, e7⟩ := hW7.ob
      have hW8 := hW7.setO e7 (W.page + 1) "" "cleaned"
      refine ⟨va, _, rfl, hvq.t, rfl, _, _, rfl, _, g0, a, dx6, _, rfl, e6, Nat.le_of_ble_eq_true rfl, ?_⟩
      refine ⟨_, _, rfl, _, g0, a, dx7, _, rfl, e7, Nat.le_of_ble_eq_true rfl, rfl, ?_⟩
      have c8 := ((c4.trans (Chg.of sm56)).trans (Chg.upd (o := vacOb K dx6 { W3 with page := W.page + 1, cl := W3.cl, stage := "cleaned" }) e6 aF)).trans (Chg.upd (o := vacOb K dx7 { W3 with page := W.page + 1, cl := "", stage := "cleaned" }) e7 aF)
      have hS6 := hS4.same sm56
      have hS8 := (hS6.chg (Chg.upd (fp := [a]) (o := vacOb K dx6 { W3 with page := W.page + 1, cl := W3.cl, stage := "cleaned" }) e6 (by simp)) aS).chg (Chg.upd (fp := [a]) (o := vacOb K dx7 { W3 with page := W.page + 1, cl := "", stage := "cleaned" }) e7 (by simp)) aS
      refine hD _ _ ?_
      rw [eD]
      refine done _ g2 g3 "" "cleaned" _ c8 hS8 hW8 ?_ Q rfl
      rw [upd_ne r2a, upd_ne r2a]
      exact sm56 _ _ hr4
    refine ⟨_, rfl, a, dx4, _, _, rfl, e4, rfl, _, rfl, a, dx4, _, _, rfl, e4, rfl, rfl, _, rfl, ite2 (fun _ => ?_) fun _ => ?_⟩
    · exact setst _ rfl rfl rfl _ (.refl _) _ rfl fun σ H h => h
    · refine ⟨_, rfl, a, dx4, _, rfl, e4, _, rfl, a, _, rfl, hW4, fun r vs H5 sm5 hr5 => ⟨r, vs, rfl, .inl (SqL.of hr5), _, rfl, a, dx4, _, _, rfl, sm5 _ _ e4, rfl, _, _, rfl, rfl, _, rfl, ite2 (fun _ => ?_) fun _ => ?_⟩⟩
      · exact setst _ rfl rfl rfl H5 sm5 _ rfl fun σ H h => h
      · exact done _ rfl rfl W3.cl W3.stage H5 (c4.trans (Chg.of sm5)) (hS4.same sm5) (hW4.same sm5) (sm5 _ _ hr4) _ rfl
end Rc


set_option Elab.async false
set_option linter.all false
set_option maxRecDepth 100000
set_option maxHeartbeats 4000000
namespace Rc
open PySem PySem.Spec PyProof.Rows L2 He
theorem noteK_drop (ns : List (Nat × (Addr × List Nat))) (n : Nat) : dropK (noteK ns) (.inl ((n : Nat) : Int)) = noteK (ns.filter fun q => decide (q.1 ≠ n)) := by
  unfold dropK noteK
  rw [List.filter_map]
  congr 1
  refine List.filter_congr fun k _ => ?_
  show decide ((Sum.inl ((k.1 : Nat) : Int) : Key) ≠ .inl ((n : Nat) : Int)) = decide (k.1 ≠ n)
  refine decide_eq_decide.mpr ⟨fun h z => h (by rw [z]), fun h z => h (by injection z with z; omega)⟩
theorem VacAt.drop {K : PySem.W.Frag} {H : Hp} {a : Addr} {W : Vac} (h : VacAt K H a W) (n : Nat) : VacAt K (upd H W.nd (.dK (noteK (W.noted.filter fun q => decide (q.1 ≠ n))))) a { W with noted := W.noted.filter fun q => decide (q.1 ≠ n) } := by
  have nd := h.nd
  unfold Vac.fp at nd
  obtain ⟨h1, h2⟩ := List.nodup_cons.mp nd
  obtain ⟨h3, h4⟩ := List.nodup_cons.mp h2
  obtain ⟨dx, e⟩ := h.ob
  have ko : ∀ {x : Addr} {o : HO}, x ≠ W.nd → H x = some o → upd H W.nd (.dK (noteK (W.noted.filter fun q => decide (q.1 ≠ n)))) x = some o := fun {x o} hx e => by
    rw [upd_ne hx]
    exact e
  have sub : ∀ q ∈ W.noted.filter (fun q => decide (q.1 ≠ n)), q ∈ W.noted := fun q hq => (List.mem_filter.mp hq).1
  refine ⟨⟨dx, ko (fun z => h1 (by rw [z]; simp)) e⟩, upd_same, fun q hq => ?_, ?_, ?_, ?_⟩
  · exact ⟨ko (fun y => h3 (y ▸ List.mem_map.mpr ⟨q, sub q hq, rfl⟩)) (h.ls q (sub q hq)).1, (h.ls q (sub q hq)).2⟩
  · exact h.kn.sublist ((List.filter_sublist).map _)
  · exact Nat.le_trans (List.length_filter_le _ _) h.nl
  · exact h.nd.sublist (((List.filter_sublist).map _).cons_cons _ |>.cons_cons _)
def sp_Vacuum_name_next (K : PySem.W.Frag) : Sp := s2 fun x y H Q => ∃ a W b S, x = .ref a ∧ y = .ref b ∧ StoAt K H b S ∧ VacAt K H a W ∧ ∀ H', Same H H' → Q .non H'
theorem ok_Vacuum_name_next {P : Program} {w : World} {K : PySem.W.Frag} {mg : Str → Option Value} {base : Heap} (T : Tx K mg) : Df P w K mg base (fAd K ("Vacuum", some "name_next")) 2 [] (sp_Vacuum_name_next K) := by
  obtain ⟨fd, F⟩ := fn_Vacuum_name_next T
  refine df2 F sc_Vacuum_name_next (fun _ _ _ _ _ _ us hl => match us, hl with | [_, _], _ => rfl) fun self table H Q h => ?_
  intro cdv A outer s E hr
  have hu := hu_of hr
  refine ⟨_, (pss_cons (ps_if (pt_cmpR op_eq (pe_callB call_lenD (by rfl) (T.b_len) (by decide +kernel) (pa_cons (pe_at (T.f_Vacuum_own_noted) (pv 0)) pa_nil)) pe_int (nomark _)) (pss_one (ps_ret pe_non)) pss_nil)
    (pss_cons (ps_setLc (i := 2) (own := [("name", 3)])  rfl (sc_Vacuum_name_next).nd rfl rfl (sw_true rfl rfl rfl (by decide +kernel)) (pi_listK K (pe_mt0 (ok_Base_names T) (T.m_Base_names) (hr.mono (by decide)) (pv 1))) (blkOk_by (N := ["self", "table", "some", "name"]) (sc := defScope t_Vacuum_name_next) (by decide +kernel)) (fun _ _ _ _ _ => (pg_name (i := 3) (sc_Vacuum_name_next).nd rfl (.inl rfl))) (fun _ _ _ _ _ => (pts_one pt_no)) (fun _ _ _ _ _ => (pv 3)))
    (pss_one (ps_ret (pe_ifExp (pt_cmpR op_gt (pe_callB (call_len_seqK K) (by rfl) (T.b_len) (by decide +kernel) (pa_cons (pv 2) pa_nil)) pe_int (nomark _)) (pe_ix (ix_listK K) (pv 2) pe_int (fun _ _ => rfl)) pe_non))))), ?_⟩
  obtain ⟨a, W, b, S, ex, ey, hS, hW, q⟩ := h
  subst ex ey
  obtain ⟨dx, e⟩ := hW.ob
  obtain ⟨db, vc, f, _⟩ := hS.ob
  refine ⟨_, rfl, a, dx, _, _, rfl, e, rfl, W.nd, _, rfl, hW.dk, rfl, _, rfl, ite2 (fun _ => q H (.refl H)) fun _ => ?_⟩
  refine ⟨_, rfl, b, db, _, rfl, f, _, rfl, b, S, rfl, hS, fun r H1 sm1 nr hr1 => ⟨r, rfl, ⟨_, SqL.of hr1⟩, fun D hD => ?_⟩⟩
  refine lc_list (K := K) (a := r) (xs := []) (tt := fun _ _ _ => False) (te := tVar 3) (fun i H' => H' = upd H1 D (.lst [])) rfl (fun i H' _ hh => SqL.of (by rw [hh]; exact (same_new hD) _ _ hr1)) (fun i x H' hi _ => by cases hi) ?_
  rintro H' rfl
  refine ⟨_, rfl, D, [], rfl, .inl (SqL.of upd_same), 0, 0, rfl, rfl, _, rfl, ite2 (fun h => absurd h (by decide)) fun _ => ?_⟩
  exact q _ (sm1.trans (same_new hD))
def sp_Vacuum_free_next (K : PySem.W.Frag) : Sp := s2 fun x y H Q => ∃ a W b S, x = .ref a ∧ y = .ref b ∧ StoAt K H b S ∧ S.cs = [] ∧ VacAt K H a W ∧ Apart (W.fp a) (S.fp b) ∧ W.noted ≠ [] ∧ (∀ q ∈ W.noted, ∃ p, S.T.pages[q.1]? = some p ∧ ∀ m ∈ q.2.2, p[m]? = some .dead) ∧
  ∀ r n k p q H', n ∈ W.noted.map (·.1) → Chg (S.fp b ++ W.fp a) H H' → StoAt K H' b (S.wT (S.T.pages.set n q)) → VacAt K H' a { W with noted := W.noted.filter fun q => decide (q.1 ≠ n) } → S.T.pages[n]? = some p → PrF p q → Td K H' r (wordD "freed" n k) → Q r H'
theorem ok_Vacuum_free_next {P : Program} {w : World} {K : PySem.W.Frag} {mg : Str → Option Value} {base : Heap} (T : Tx K mg) : Df P w K mg base (fAd K ("Vacuum", some "free_next")) 6 [] (sp_Vacuum_free_next K) := by
  obtain ⟨fd, F⟩ := fn_Vacuum_free_next T
  refine df2 F sc_Vacuum_free_next (fun _ _ _ _ _ _ us hl => match us, hl with | [_, _], _ => rfl) fun self table H Q h => ?_
  intro cdv A outer s E hr
  have hu := hu_of hr
  refine ⟨_, (pss_cons (ps_set (i := 2) (sc_Vacuum_free_next).nd rfl (.inl rfl) (pe_callB (cr_minD rfl) (by rfl) (T.b_min) (by decide +kernel) (pa_cons (pe_at (T.f_Vacuum_own_noted) (pv 0)) pa_nil)))
    (pss_cons (ps_set (i := 3) (sc_Vacuum_free_next).nd rfl (.inl rfl) (pe_dpop1 (pe_at (T.f_Vacuum_own_noted) (pv 0)) (pv 2) ⟨rfl, rfl, rfl, rfl⟩))
    (pss_cons (ps_expr (pe_mt (ok_Base_free T) (T.m_Base_free) (hr.mono (by decide)) (pv 1) (pa_cons (pv 2) (pa_cons (pv 3) pa_nil))))
    (pss_one (ps_ret (pe_tupdK K (pa_cons (pe_gs rfl (T.g_FREED)) (pa_cons (pv 2) (pa_cons (pe_callB (call_len_seqK K) (by rfl) (T.b_len) (by decide +kernel) (pa_cons (pv 3) pa_nil)) pa_nil))))))))), ?_⟩
  obtain ⟨a, W, b, S, ex, ey, hS, hcs, hW, ap, hne, hdead, q⟩ := h
  subst ex ey
  obtain ⟨dx, e⟩ := hW.ob
  obtain ⟨db, vc, f, _⟩ := hS.ob
  refine ⟨_, rfl, a, dx, _, _, rfl, e, rfl, W.nd, _, W.noted.map (fun q => ((q.1 : Nat) : Int)), rfl, hW.dk, note_keys _, by simp [hne], fun mi hmi _ => ?_⟩
  obtain ⟨qq, hq, eq⟩ := List.mem_map.mp hmi
  subst eq
  obtain ⟨hl, l8⟩ := hW.ls qq hq
  obtain ⟨p, hp, hm⟩ := hdead qq hq
  refine ⟨_, rfl, a, dx, _, _, rfl, e, rfl, W.nd, rfl, .inl ⟨_, .inl hW.dk⟩, _, rfl, _, .inl ((qq.1 : Nat) : Int), .ref qq.2.1, hW.dk, rfl, valV_mem (f := fun q : Addr × List Nat => V.ref q.1) hW.kn hq, ?_⟩
  rw [noteK_drop]
  have c1 : Chg [W.nd] H (upd H W.nd (.dK (noteK (W.noted.filter fun q => decide (q.1 ≠ qq.1))))) := Chg.upd hW.dk (by simp)
  have hW1 := hW.drop qq.1
  have hS1 := hS.chg c1 fun x hx => by
    rw [List.mem_singleton.mp hx]
    exact ap _ (by simp [Vac.fp])
  have lf : qq.2.1 ∈ W.fp a := by
    unfold Vac.fp
    exact List.mem_cons_of_mem _ (List.mem_cons_of_mem _ (List.mem_map.mpr ⟨qq, hq, rfl⟩))
  have lnd : qq.2.1 ≠ W.nd := fun z => by
    rw [z, hW.dk] at hl
    cases hl
  have hl1 : upd H W.nd (.dK (noteK (W.noted.filter fun q => decide (q.1 ≠ qq.1)))) qq.2.1 = some (.lst (IL qq.2.2)) := by
    rw [upd_ne lnd]
    exact hl
  generalize hH1 : upd H W.nd (.dK (noteK (W.noted.filter fun q => decide (q.1 ≠ qq.1)))) = H1 at c1 hW1 hS1 hl1
  obtain ⟨db1, vc1, f1, _⟩ := hS1.ob
  refine ⟨_, rfl, b, db1, _, rfl, f1, _, rfl, _, rfl, _, _, _, rfl, b, S, qq.1, p, qq.2.1, qq.2.2, rfl, rfl, rfl, hS1, cs_nil hcs, hp, hl1, ap _ lf, hm, fun q1 H2 c2 h2 hpr => ?_⟩
  have sub : ∀ x ∈ Vac.fp a { W with noted := W.noted.filter fun q => decide (q.1 ≠ qq.1) }, x ∈ W.fp a := fun x hx => by
    unfold Vac.fp at hx ⊢
    simp only [List.mem_cons, List.mem_map, List.mem_filter] at hx ⊢
    rcases hx with z | z | ⟨y, ⟨hy, _⟩, z⟩
    · exact .inl z
    · exact .inr (.inl z)
    · exact .inr (.inr ⟨y, hy, z⟩)
  have hW2 := hW1.chg c2 fun x hx hy => ap x (sub x hy) hx
  refine ⟨_, rfl, _, rfl, qq.2.1, _, rfl, .inl (SqL.of (c2.keep _ _ hl1 (ap _ lf))), ?_⟩
  rw [IL_len]
  refine ⟨_, Tds.cons (.str _) (.cons (.int _) (.cons (.int _) .nil)), Nat.le_of_ble_eq_true rfl, fun v H3 sm3 hv => ?_⟩
  refine q v qq.1 _ p q1 H3 (List.mem_map.mpr ⟨qq, hq, rfl⟩) ?_ (h2.same sm3) (hW2.same sm3) hp hpr hv
  exact ((c1.mono fun x hx => by rw [List.mem_singleton.mp hx]; exact List.mem_append_right _ (by simp [Vac.fp])).trans (c2.mono fun x hx => List.mem_append_left _ hx)).trans (Chg.of sm3)
structure VOk (S : Sto) (W : Vac) : Prop where
  mn : W.many = S.T.pages.length
  pg : W.page ≤ W.many
  nt : ∀ q ∈ W.noted, q.1 < W.page ∧ ∃ p, S.T.pages[q.1]? = some p ∧ ∀ m ∈ q.2.2, p[m]? = some .dead
def vacM (W : Vac) : Nat := 2 * (W.many - W.page) + W.noted.length
def PgStep (us cm : List Nat) (ps ps' : List Page) : Prop := ∃ n p q, ps[n]? = some p ∧ ps' = ps.set n q ∧ ((∃ ss, PrS us ss p q ∧ ∀ s ∈ ss, s ∈ cm) ∨ PrF p q)
def overD : PyData := .tuple [.str "over"]
theorem VacAt.nlen {K : PySem.W.Frag} {H : Hp} {a : Addr} {W : Vac} {S : Sto} (h : VacAt K H a W) (o : VOk S W) : W.noted.length ≤ W.page := by
  have := nodup_le (n := W.page) h.kn fun m hm => by
    obtain ⟨q, hq, e⟩ := List.mem_map.mp hm
    rw [← e]
    exact (o.nt q hq).1
  rwa [List.length_map] at this
theorem filter_lt {ns : List (Nat × (Addr × List Nat))} {n : Nat} (h : n ∈ ns.map (·.1)) : (ns.filter fun q => decide (q.1 ≠ n)).length < ns.length := by
  obtain ⟨q, hq, e⟩ := List.mem_map.mp h
  exact List.length_filter_lt_length_iff_exists.mpr ⟨q, hq, by simp [e]⟩
def sp_Vacuum_step (K : PySem.W.Frag) : Sp := s2 fun x y H Q => ∃ a W b S, x = .ref a ∧ y = .ref b ∧ StoAt K H b S ∧ S.cs = [] ∧ VacAt K H a W ∧ Apart (W.fp a) (S.fp b) ∧ VOk S W ∧
  (∀ r W' H', Chg (S.fp b ++ W.fp a) H H' → StoAt K H' b S → VacAt K H' a W' → Td K H' r overD → Q r H') ∧
  (∀ (r : V) (w : Str) (k1 k2 : Nat) (ps' : List Page) (W' : Vac) (H' : Hp), Chg (S.fp b ++ W.fp a) H H' → StoAt K H' b (S.wT ps') → VacAt K H' a W' → VOk (S.wT ps') W' → vacM W' < vacM W → PgStep (withS S.L.states .und) (withS S.L.states .com) S.T.pages ps' → (∀ x ∈ W'.fp a, x ∈ W.fp a ∨ H x = none) → (w = "pruned" ∨ w = "freed") → Td K H' r (wordD w k1 k2) → Q r H')
theorem ok_Vacuum_step {P : Program} {w : World} {K : PySem.W.Frag} {mg : Str → Option Value} {base : Heap} (T : Tx K mg) : Df P w K mg base (fAd K ("Vacuum", some "step")) 10 [] (sp_Vacuum_step K) := by
  obtain ⟨fd, F⟩ := fn_Vacuum_step T
  refine df2 F sc_Vacuum_step (fun _ _ _ _ _ _ us hl => match us, hl with | [_, _], _ => rfl) fun self table H Q h => ?_
  intro cdv A outer s E hr
  have hu := hu_of hr
  refine ⟨_, (pss_cons (ps_if (PW.pt (pw_and (pt_cmpR op_eq (pe_at (T.f_Vacuum_own_stage) (pv 0)) (pe_gs rfl (T.g_PRUNED)) (nomark _)) (pw_and1 (pt_cmpR op_lt (pe_at (T.f_Vacuum_own_page) (pv 0)) (pe_at (T.f_Vacuum_own_many) (pv 0)) (nomark _))))) (pss_one (ps_ret (pe_mt (ok_Vacuum_prune_next T) (T.m_Vacuum_prune_next) (hr.mono (by decide)) (pv 0) (pa_cons (pv 1) pa_nil)))) pss_nil)
    (pss_cons (ps_set (i := 2) (sc_Vacuum_step).nd rfl (.inl rfl) (pe_ifExp (pt_cmpR op_eq (pe_at (T.f_Vacuum_own_stage) (pv 0)) (pe_gs rfl (T.g_CLEANED)) (nomark _)) (pe_mt (ok_Vacuum_name_next T) (T.m_Vacuum_name_next) (hr.mono (by decide)) (pv 0) (pa_cons (pv 1) pa_nil)) pe_non))
    (pss_cons (ps_if (pt_cmp (pc_notN (pv 2)) rfl) (pss_cons ps_never
    (pss_one ps_never)) pss_nil)
    (pss_cons (ps_put (T.f_Vacuum_own_stage) (pv 0) (pe_gs rfl (T.g_FREED)))
    (pss_cons (ps_if (pt_cmpR op_gt (pe_callB call_lenD (by rfl) (T.b_len) (by decide +kernel) (pa_cons (pe_at (T.f_Vacuum_own_noted) (pv 0)) pa_nil)) pe_int (nomark _)) (pss_one (ps_ret (pe_mt (ok_Vacuum_free_next T) (T.m_Vacuum_free_next) (hr.mono (by decide)) (pv 0) (pa_cons (pv 1) pa_nil)))) pss_nil)
    (pss_cons (ps_put (T.f_Vacuum_own_stage) (pv 0) (pe_gs rfl (T.g_PRUNED)))
    (pss_one (ps_ret (pe_ifExp (pt_cmpR op_lt (pe_at (T.f_Vacuum_own_page) (pv 0)) (pe_at (T.f_Vacuum_own_many) (pv 0)) (nomark _)) (pe_mt (ok_Vacuum_prune_next T) (T.m_Vacuum_prune_next) (hr.mono (by decide)) (pv 0) (pa_cons (pv 1) pa_nil)) (pe_tupdK K (pa_cons (pe_gs rfl (T.g_OVER)) pa_nil))))))))))), ?_⟩
  obtain ⟨a, W, b, S, ex, ey, hS, hcs, hW, ap, ok, q1, q2⟩ := h
  subst ex ey
  obtain ⟨dx, e⟩ := hW.ob
  obtain ⟨db, vc, f, _⟩ := hS.ob
  have plen := hS.tab.pl
  have nlen := hW.nlen ok
  have aF : a ∈ S.fp b ++ W.fp a := List.mem_append_right _ (by simp [Vac.fp])
  have aS : ∀ x ∈ [a], x ∉ S.fp b := fun x hx => by
    rw [List.mem_singleton.mp hx]
    exact ap _ (by simp [Vac.fp])
  have prn : ∀ (H1 : Hp) (cl st : Str), Chg (S.fp b ++ W.fp a) H H1 → StoAt K H1 b S → VacAt K H1 a { W with cl := cl, stage := st } → W.page < W.many → ∀ σ : L2.St, σ[0]? = some (some (.ref a)) → σ[1]? = some (some (.ref b)) → ∀ D : VK, D = Q → tMt (ga K "Vacuum") nsVacuum (sp_Vacuum_prune_next K) [] (tVar 0) (tCons (tVar 1) tNil) σ H1 D := fun H1 cl st c1 hS1 hW1 lt σ g0 g1 D eD => by
    subst eD
    obtain ⟨dx1, e1⟩ := hW1.ob
    have ltp : W.page < S.T.pages.length := by rw [← ok.mn]; exact lt
    have hp : S.T.pages[W.page]? = some S.T.pages[W.page] := List.getElem?_eq_getElem ltp
    refine ⟨_, g0, a, dx1, _, rfl, e1, _, g1, _, _, rfl, a, _, b, S, _, rfl, rfl, hS1, hcs, hW1, ap, hp, fun q hq => (ok.nt q hq).1, by show W.noted.length < 60; have := ok.pg; have := ok.mn; omega, fun r k qq ss us W' H2 c2 hS2 hW2 hmny hpg hno hnew hpr hss hus hr => ?_⟩
    have back : ∀ x, H1 x = none → x ∉ S.fp b ++ W.fp a → H x = none := fun x hx hn => by
      cases eq : H x with
      | none => rfl
      | some o =>
        have := c1.keep _ _ eq hn
        rw [hx] at this
        cases this
    have hmny : W'.many = W.many := hmny
    have hpg : W'.page = W.page + 1 := hpg
    have hno : W'.noted = W.noted ∨ ∃ l, W'.noted = W.noted ++ [(W.page, (l, us))] := hno
    have okp : ∀ q ∈ W.noted, q.1 < W'.page ∧ ∃ p, (S.T.pages.set W.page qq)[q.1]? = some p ∧ ∀ m ∈ q.2.2, p[m]? = some .dead := fun q hq => by
      obtain ⟨h1, p, h2, h3⟩ := ok.nt q hq
      exact ⟨by omega, p, by rw [List.getElem?_set_ne (by omega)]; exact h2, h3⟩
    refine q2 r "pruned" W.page k (S.T.pages.set W.page qq) W' H2 (c1.trans c2) hS2 hW2 ⟨?_, by omega, fun q hq => ?_⟩ ?_ ⟨W.page, _, qq, hp, rfl, .inl ⟨ss, hpr, hss⟩⟩ (fun x hx => ?_) (.inl rfl) hr
    · rw [hmny, ok.mn]
      show _ = (S.T.pages.set W.page qq).length
      rw [List.length_set]
    · rcases hno with z | ⟨l, z⟩
      · rw [z] at hq
        exact okp q hq
      · rw [z] at hq
        rcases List.mem_append.mp hq with y | y
        · exact okp q y
        · rw [List.mem_singleton.mp y]
          exact ⟨by show W.page < W'.page; omega, qq, List.getElem?_set_self ltp, hus⟩
    · unfold vacM
      rcases hno with z | ⟨l, z⟩
      · rw [z, hmny, hpg]
        omega
      · rw [z, hmny, hpg, List.length_append, List.length_singleton]
        omega
    · rcases hnew x hx with z | z
      · exact .inl z
      · by_cases hm : x ∈ S.fp b ++ W.fp a
        · rcases List.mem_append.mp hm with y | y
          · exact (hS1.there y z).elim
          · exact .inl y
        · exact .inr (back x z hm)
  refine ⟨_, rfl, a, dx, _, _, rfl, e, rfl, rfl, _, rfl, ite2 (fun h1 => ?_) (fun h1 => ?g2)⟩
  refine ⟨_, rfl, a, dx, _, _, rfl, e, rfl, _, rfl, a, dx, _, _, rfl, e, rfl, _, _, rfl, rfl, _, rfl, ite2 (fun h2 => ?g0) (fun h2 => ?g1)⟩
  case g0 => exact prn H W.cl W.stage (.refl H) hS hW (by have := of_decide_eq_true h2; omega) _ rfl rfl _ rfl
  case' g1 => clear h1 h2
  case' g2 => clear h1
  all_goals
    refine ⟨_, rfl, a, dx, _, _, rfl, e, rfl, rfl, _, rfl, ite2 (fun h1 => ?_) (fun h1 => ?_)⟩
    case' refine_1 =>
      refine ⟨_, rfl, a, dx, _, rfl, e, _, rfl, _, _, rfl, a, W, b, S, rfl, rfl, hS, hW, fun H1 sm1 => ?_⟩
    case' refine_2 =>
      obtain ⟨H1, eH1⟩ : ∃ H1, H1 = H := ⟨_, rfl⟩
      have sm1 : Same H H1 := by rw [eH1]; exact .refl _
      rw [← eH1]
    all_goals
      have hS1 := hS.same sm1
      have hW1 := hW.same sm1
      obtain ⟨dx1, e1⟩ := hW1.ob
      refine ⟨_, rfl, _, rfl, ite2 (fun h => absurd h (by simp)) fun _ => ?_⟩
      refine ⟨_, rfl, a, dx1, _, rfl, e1, Nat.le_of_ble_eq_true rfl, ?_⟩
      have hW2 := hW1.setO e1 W.page W.cl "freed"
      have c2 : Chg (S.fp b ++ W.fp a) H (upd H1 a (vacOb K dx1 { W with page := W.page, cl := W.cl, stage := "freed" })) := (Chg.of sm1).trans (Chg.upd e1 aF)
      have hS2 : StoAt K (upd H1 a (vacOb K dx1 { W with page := W.page, cl := W.cl, stage := "freed" })) b S := hS1.chg (Chg.upd (fp := [a]) e1 (by simp)) aS
      obtain ⟨dx2, e2⟩ := hW2.ob
      have hdk2 := hW2.dk
      refine ⟨_, rfl, a, dx2, _, _, rfl, e2, rfl, W.nd, _, rfl, hdk2, ((noteK W.noted).length : Int), 0, rfl, rfl, _, rfl, ?_⟩
      have ekl : (noteK W.noted).length = W.noted.length := List.length_map _
      rw [ekl]
      refine ite2 (fun hc => ?_) fun hc => ?_
      · have hne : W.noted ≠ [] := fun z => by
          have := of_decide_eq_true hc
          rw [z] at this
          simp at this
        refine ⟨_, rfl, a, dx2, _, rfl, e2, _, rfl, _, _, rfl, a, _, b, S, rfl, rfl, hS2, hcs, hW2, ap, hne, fun q hq => (ok.nt q hq).2, fun r n k p qq H3 hn c3 hS3 hW3 hp hpr hr => ?_⟩
        have hlt : (W.noted.filter fun q => decide (q.1 ≠ n)).length < W.noted.length := filter_lt hn
        refine q2 r "freed" n k (S.T.pages.set n qq) _ H3 (c2.trans c3) hS3 hW3 ⟨?_, ok.pg, fun q hq => ?_⟩ ?_ ⟨n, p, qq, hp, rfl, .inr hpr⟩ (fun x hx => .inl ?_) (.inr rfl) hr
        · show W.many = (S.T.pages.set n qq).length
          rw [List.length_set]
          exact ok.mn
        · obtain ⟨hq1, hq2⟩ := List.mem_filter.mp hq
          obtain ⟨h1, p', h2, h3⟩ := ok.nt q hq1
          have hqn : q.1 ≠ n := of_decide_eq_true hq2
          exact ⟨h1, p', by show (S.T.pages.set n qq)[q.1]? = some p'; rw [List.getElem?_set_ne (Ne.symm hqn)]; exact h2, h3⟩
        · show 2 * (W.many - W.page) + (W.noted.filter fun q => decide (q.1 ≠ n)).length < 2 * (W.many - W.page) + W.noted.length
          omega
        · unfold Vac.fp at hx ⊢
          simp only [List.mem_cons, List.mem_map, List.mem_filter] at hx ⊢
          rcases hx with z | z | ⟨y, ⟨hy, _⟩, z⟩
          · exact .inl z
          · exact .inr (.inl z)
          · exact .inr (.inr ⟨y, hy, z⟩)
      · refine ⟨_, rfl, a, dx2, _, rfl, e2, Nat.le_of_ble_eq_true rfl, ?_⟩
        have hW3 := hW2.setO e2 W.page W.cl "pruned"
        have c3 : Chg (S.fp b ++ W.fp a) H (upd (upd H1 a (vacOb K dx1 { W with page := W.page, cl := W.cl, stage := "freed" })) a (vacOb K dx2 { W with page := W.page, cl := W.cl, stage := "pruned" })) := c2.trans (Chg.upd e2 aF)
        have hS3 : StoAt K (upd (upd H1 a (vacOb K dx1 { W with page := W.page, cl := W.cl, stage := "freed" })) a (vacOb K dx2 { W with page := W.page, cl := W.cl, stage := "pruned" })) b S := hS2.chg (Chg.upd (fp := [a]) e2 (by simp)) aS
        obtain ⟨dx3, e3⟩ := hW3.ob
        refine ⟨_, rfl, a, dx3, _, _, rfl, e3, rfl, _, rfl, a, dx3, _, _, rfl, e3, rfl, _, _, rfl, rfl, _, rfl, ite2 (fun h2 => ?_) fun h2 => ?_⟩
        · exact prn _ W.cl "pruned" c3 hS3 hW3 (by have : (W.page : Int) < (W.many : Int) := of_decide_eq_true h2; omega) _ rfl rfl _ rfl
        · refine ⟨_, Tds.cons (.str _) .nil, Nat.le_of_ble_eq_true rfl, fun v H4 sm4 hv => ?_⟩
          exact q1 v _ H4 (c3.trans (Chg.of sm4)) (hS3.same sm4) (hW3.same sm4) hv
end Rc


set_option Elab.async false
set_option linter.all false
set_option maxRecDepth 100000
set_option maxHeartbeats 4000000
namespace Rc
open PySem PySem.Spec PyProof.Rows L2 He
def sp_Base_look_held (K : PySem.W.Frag) : Sp := s1 fun x H Q => ∃ b S, x = .ref b ∧ StoAt K H b S ∧ S.vac = .non ∧ ∀ H', Same H H' → Q .non H'
/-- an empty dict, locked, a list made, unlocked -/
theorem lock_same {H : Hp} {i D : Addr} {od : Obj} (hi : H i = some (.dK [])) (hD : upd H i (.frz od (.dK [])) D = none) : Same H (upd (upd (upd H i (.frz od (.dK []))) D (.lst [])) i (.dK [])) ∧ upd (upd (upd H i (.frz od (.dK []))) D (.lst [])) i (.dK []) D = some (.lst []) ∧ upd (upd H i (.frz od (.dK []))) D (.lst []) i = some (.frz od (.dK [])) := by
  have Dix : D ≠ i := fun z => by rw [z, upd_same] at hD; cases hD
  refine ⟨fun x o eo => ?_, by rw [upd_ne Dix]; exact upd_same, by rw [upd_ne (Ne.symm Dix)]; exact upd_same⟩
  by_cases hx : x = i
  · subst hx
    rw [upd_same]
    rw [hi] at eo
    exact eo
  · rw [upd_ne hx, upd_ne (fun z : x = D => by
      rw [upd_ne Dix, ← z, eo] at hD
      cases hD), upd_ne hx]
    exact eo
theorem ok_Base_look_held {P : Program} {w : World} {K : PySem.W.Frag} {mg : Str → Option Value} {base : Heap} (T : Tx K mg) : Df P w K mg base (fAd K ("Base", some "look_held")) 1 [] (sp_Base_look_held K) := by
  obtain ⟨fd, F⟩ := fn_Base_look_held T
  refine df1 F sc_Base_look_held (fun _ _ _ _ _ _ us hl => match us, hl with | [_], _ => rfl) fun self H Q h => ?_
  intro cdv A outer s E hr
  have hu := hu_of hr
  refine ⟨_, (pss_one (ps_if (PW.pt (pw_or (pt_cmp (pc_notN (pe_at (T.f_Base_own_vacuum) (pv 0))) rfl) (pw_or1 (pt_val (pe_callB (cr_anyK K rfl) (by rfl) (T.b_any) (by decide +kernel) (pa_cons (pe_lock (pe_lc (own := [("index", 1)]) (tt := tYes) rfl (sc_Base_look_held).nd (pi_values (pe_at (T.f_Base_own_indexes) (pv 0))) (blkOk_by (N := ["self", "index"]) (sc := defScope t_Base_look_held) (by decide +kernel)) (fun _ _ _ _ _ => (pg_name (i := 1) (sc_Base_look_held).nd rfl (.inl rfl))) (fun _ _ _ _ _ => pts_nil) (fun _ _ _ _ _ => pe_no))) pa_nil)))))) (pss_one ps_never) pss_nil)), ?_⟩
  obtain ⟨b, S, ex, hS, hv, q⟩ := h
  subst ex
  obtain ⟨dx, vc, e, e1⟩ := hS.ob
  have on := own_ne (sto_ne hS.nd).ow
  refine ⟨_, rfl, b, dx, _, _, rfl, e, rfl, _, rfl, ite2 (fun h => absurd h (by rw [hv]; simp)) fun _ => ?_⟩
  refine ⟨S.ix, _, hS.ix, True.intro, fun od => ?_⟩
  have e' : upd H S.ix (.frz od (.dK [])) b = some (Ob (ga K "Base") dx nsBase [vc, .ref S.l, .ref S.t, .ref S.ix, .ref S.cu, .int (S.opened : Int), .ref S.fi, .ref S.wr, S.vac]) := by
    rw [upd_ne on.b_ix]
    exact e
  refine ⟨_, rfl, b, dx, _, _, rfl, e', rfl, S.ix, od, [], rfl, upd_same, fun D hD => ?_⟩
  obtain ⟨l1, l2, l3⟩ := lock_same hS.ix hD
  refine lc_any (n := 0) (tt := tYes) (te := fun _ _ _ => False) (fun i H' => H' = upd (upd H S.ix (.frz od (.dK []))) D (.lst [])) rfl (fun i H' hi _ => absurd hi (Nat.not_lt_zero i)) (fun H' hh => ⟨by rw [hh]; exact l3, Nat.zero_le _⟩) (fun i H' x H2 hi _ _ => absurd hi (Nat.not_lt_zero i)) ?_
  rintro H4 rfl
  refine ⟨l3, D, [], rfl, SqL.of l2, _, rfl, iteF ?_⟩
  exact q _ l1
def sp_Base_vacuum (K : PySem.W.Frag) : Sp := s2 fun x y H Q => ∃ b S k, x = .ref b ∧ y = .int ((k : Nat) : Int) ∧ StoAt K H b S ∧ S.vac = .non ∧
  ∀ a nd H', H a = none → H nd = none → Chg (S.fp b) H H' → StoAt K H' b { S with vac := .ref a } → VacAt K H' a ⟨S.T.pages.length, k, 0, nd, [], "", "pruned"⟩ → Q .non H'
theorem okf_Base_vacuum {P : Program} {w : World} {K : PySem.W.Frag} {mg : Str → Option Value} {base : Heap} (T : Tx K mg) : ∃ fd, FnOk P w K mg base CX0 3 (fAd K ("Base", some "vacuum")) fd ["self", "memory"] (sp_Base_vacuum K) ∧ FunD K "vacuum" "Base.vacuum" (defArgs t_Base_vacuum) (defBody t_Base_vacuum) (defScope t_Base_vacuum) [.int 4] [] (fAd K ("Base", some "vacuum")) fd := by
  obtain ⟨fd, F⟩ := fn_Base_vacuum T
  refine ⟨fd, okn2 F sc_Base_vacuum fun self memory H Q h => ?_, F⟩
  intro cdv A outer s E hr
  have hu := hu_of hr
  refine ⟨_, (pss_cons (ps_expr (pe_mt0 (ok_Base_look_held T) (T.m_Base_look_held) (hr.mono (by decide)) (pv 0)))
    (pss_one (ps_put (T.f_Base_own_vacuum) (pv 0) (pe_mk (ok_Vacuum_init T) (T.k_Vacuum) (hr.mono (by decide)) rfl (T.g_Vacuum) (pa_cons (pe_mt0 (ok_Table_many T) (T.m_Table_many) (hr.mono (by decide)) (pe_at (T.f_Base_own_table) (pv 0))) (pa_cons (pv 1) pa_nil)))))), ?_⟩
  obtain ⟨b, S, kk, ex, ey, hS, hv, q⟩ := h
  subst ex ey
  obtain ⟨dx, vc, e, e1⟩ := hS.ob
  refine ⟨_, rfl, b, dx, _, rfl, e, _, rfl, b, S, rfl, hS, hv, fun H1 sm1 => ?_⟩
  have hS1 := hS.same sm1
  obtain ⟨dx1, vc1, f1, g1⟩ := hS1.ob
  obtain ⟨dt, et⟩ := hS1.tab.ob
  refine ⟨_, rfl, b, dx1, _, _, rfl, f1, rfl, S.t, dt, _, rfl, et, _, rfl, S.t, S.T, rfl, hS1.tab, _, rfl, fun a adx na nadx hne => ?_⟩
  have s2 := same_mk (o1 := .own a) (o2 := .ins (ga K "Vacuum") adx []) na nadx
  refine ⟨_, _, _, rfl, a, adx, S.T.pages.length, kk, rfl, upd_same, rfl, rfl, fun nd H2 c2 nnd hW => ⟨rfl, ?_⟩⟩
  have na0 := none_of sm1 na
  have nd0 := none_of (sm1.trans s2) nnd
  have sm2 : Same H1 H2 := same_of_chg s2 c2 fun x hx => by rw [List.mem_singleton.mp hx]; exact na
  have hS2 := hS1.same sm2
  obtain ⟨dx2, vc2, f2, g2⟩ := hS2.ob
  refine ⟨_, rfl, b, dx2, _, rfl, f2, Nat.le_of_ble_eq_true rfl, ?_⟩
  have hS3 := hS2.setB (n := S.opened) (w := .ref a) ⟨_, f2⟩ g2 (Nat.le_refl _)
  have c3 : Chg [b] H2 (upd H2 b (Ob (ga K "Base") dx2 nsBase [vc2, .ref S.l, .ref S.t, .ref S.ix, .ref S.cu, .int (S.opened : Int), .ref S.fi, .ref S.wr, .ref a])) := Chg.upd f2 (by simp)
  refine q a nd _ na0 nd0 ((Chg.of (sm1.trans sm2)).trans (c3.mono fun x hx => by rw [List.mem_singleton.mp hx]; exact fp_own mem_b)) hS3 (hW.chg c3 fun x hx hy => ?_)
  rw [List.mem_singleton.mp hx] at hy
  unfold Vac.fp at hy
  simp only [List.map_nil, List.mem_cons, List.not_mem_nil, or_false] at hy
  rcases hy with z | z
  · exact hS.there (fp_own (S := S) mem_b) (z ▸ na0)
  · exact hS.there (fp_own (S := S) mem_b) (z ▸ nd0)
theorem ok_Base_vacuum {P : Program} {w : World} {K : PySem.W.Frag} {mg : Str → Option Value} {base : Heap} (T : Tx K mg) : Df P w K mg base (fAd K ("Base", some "vacuum")) 3 [] (sp_Base_vacuum K) :=
  df_dfl (okf_Base_vacuum T) 2 1 (List.cons_ne_nil _ _) rfl fun T kV doc pm an cdv ct us its hu hi => match us, hu, its, hi with | [_, _], _, [_], _ => ⟨_, rfl, rfl⟩
theorem shaped_over : SeqAt.shaped overD = true := by decide +kernel
theorem shaped_word {w : Str} {x y : Nat} (h : w = "pruned" ∨ w = "freed") : SeqAt.shaped (wordD w x y) = true := by
  have h1 : PyData.strOk w = true := by
    rcases h with z | z
    · rw [z]; decide +kernel
    · rw [z]; decide +kernel
  simp [wordD, SeqAt.shaped, PyData.canLay0, PyData.canLayAll0, PyData.depth, PyData.depthAll, h1]
theorem eqv_word {w : Str} {x y : Nat} : PyData.eqv (wordD w x y) overD = false := by
  simp [wordD, overD, PyData.eqv, PyData.eqvAll]
theorem eqv_over : PyData.eqv overD overD = true := by decide +kernel
def sp_Base_step (K : PySem.W.Frag) : Sp := s1 fun x H Q => ∃ b S a W, x = .ref b ∧ StoAt K H b S ∧ S.vac = .ref a ∧ S.cs = [] ∧ VacAt K H a W ∧ Apart (W.fp a) (S.fp b) ∧ VOk S W ∧
  (∀ r H', Chg (S.fp b ++ W.fp a) H H' → StoAt K H' b { S with vac := .non } → Td K H' r overD → Q r H') ∧
  (∀ (r : V) (w : Str) (k1 k2 : Nat) (ps' : List Page) (W' : Vac) (H' : Hp), Chg (S.fp b ++ W.fp a) H H' → StoAt K H' b (S.wT ps') → VacAt K H' a W' → VOk (S.wT ps') W' → vacM W' < vacM W → PgStep (withS S.L.states .und) (withS S.L.states .com) S.T.pages ps' → (∀ x ∈ W'.fp a, x ∈ W.fp a ∨ H x = none) → (w = "pruned" ∨ w = "freed") → Td K H' r (wordD w k1 k2) → Q r H')
theorem ok_Base_step {P : Program} {w : World} {K : PySem.W.Frag} {mg : Str → Option Value} {base : Heap} (T : Tx K mg) : Df P w K mg base (fAd K ("Base", some "step")) 11 [] (sp_Base_step K) := by
  obtain ⟨fd, F⟩ := fn_Base_step T
  refine df1 F sc_Base_step (fun _ _ _ _ _ _ us hl => match us, hl with | [_], _ => rfl) fun self H Q h => ?_
  intro cdv A outer s E hr
  have hu := hu_of hr
  refine ⟨_, (pss_cons (ps_if (pt_cmp (pc_isN (pe_at (T.f_Base_own_vacuum) (pv 0))) rfl) (pss_one ps_never) pss_nil)
    (pss_cons (ps_set (i := 1) (sc_Base_step).nd rfl (.inl rfl) (pe_mt (ok_Vacuum_step T) (T.m_Vacuum_step) (hr.mono (by decide)) (pe_at (T.f_Base_own_vacuum) (pv 0)) (pa_cons (pv 0) pa_nil)))
    (pss_cons (ps_if (pt_cmpR (op_eqDK K hr.units) (pv 1) (pe_tupdK K (pa_cons (pe_gs rfl (T.g_OVER)) pa_nil)) (nomark _)) (pss_one (ps_put (T.f_Base_own_vacuum) (pv 0) pe_non)) pss_nil)
    (pss_one (ps_ret (pv 1)))))), ?_⟩
  obtain ⟨b, S, a, W, ex, hS, hv, hcs, hW, ap, ok, q1, q2⟩ := h
  subst ex
  obtain ⟨dx, vc, e, e1⟩ := hS.ob
  rw [hv] at e
  obtain ⟨da, ea⟩ := hW.ob
  refine ⟨_, rfl, b, dx, _, _, rfl, e, rfl, _, rfl, ite2 (fun h => absurd (of_decide_eq_true h) (fun z => nomatch z)) fun _ => ?_⟩
  refine ⟨_, rfl, b, dx, _, _, rfl, e, rfl, a, da, _, rfl, ea, _, rfl, _, _, rfl, a, W, b, S, rfl, rfl, hS, hcs, hW, ap, ok, fun r W' H1 c1 hS1 hW1 hr => ?_, fun r w k1 k2 ps' W' H1 c1 hS1 hW1 ok1 lt hst hnew hw hr => ?_⟩
  · refine ⟨_, rfl, _, Tds.cons (.str _) .nil, Nat.le_of_ble_eq_true rfl, fun v H2 sm2 hv2 => ?_⟩
    refine ⟨_, _, (hr.same sm2).dp, hv2.dp, shaped_over, shaped_over, _, rfl, ?_⟩
    rw [show PyData.eqv overD (.tuple [.str "over"]) = true from eqv_over]
    have hS2 := hS1.same sm2
    obtain ⟨dx2, vc2, f2, g2⟩ := hS2.ob
    refine iteT ⟨_, rfl, b, dx2, _, rfl, f2, Nat.le_of_ble_eq_true rfl, ?_⟩
    have hS3 := hS2.setB (n := S.opened) (w := .non) ⟨_, f2⟩ g2 (Nat.le_refl _)
    have c3 : Chg [b] H2 (upd H2 b (Ob (ga K "Base") dx2 nsBase [vc2, .ref S.l, .ref S.t, .ref S.ix, .ref S.cu, .int (S.opened : Int), .ref S.fi, .ref S.wr, .non])) := Chg.upd f2 (by simp)
    exact ⟨_, rfl, q1 r _ ((c1.trans (Chg.of sm2)).trans (c3.mono fun x hx => by rw [List.mem_singleton.mp hx]; exact List.mem_append_left _ (fp_own mem_b))) hS3 ((hr.same sm2).keep c3.tk)⟩
  · refine ⟨_, rfl, _, Tds.cons (.str _) .nil, Nat.le_of_ble_eq_true rfl, fun v H2 sm2 hv2 => ?_⟩
    refine ⟨_, _, (hr.same sm2).dp, hv2.dp, shaped_word hw, shaped_over, _, rfl, ?_⟩
    rw [show PyData.eqv (wordD w k1 k2) (.tuple [.str "over"]) = false from eqv_word]
    exact iteF ⟨_, rfl, q2 r w k1 k2 ps' W' H2 (c1.trans (Chg.of sm2)) (hS1.same sm2) (hW1.same sm2) ok1 lt hst hnew hw (hr.same sm2)⟩
def sp_Base_image (K : PySem.W.Frag) : Sp := s1 fun x H Q => ∃ b S, x = .ref b ∧ StoAt K H b S ∧ ∀ v d1 d3 d4 H', Same H H' → Td K H' v (.tuple [colsD, d1, .tuple (S.T.pages.map pgD), d3, d4]) → Q v H'
theorem int_list : ∀ {ns : List Int} {K : PySem.W.Frag} {H : Hp}, Tds K H (ns.map V.int) (ns.map PyData.int)
  | [], _, _ => .nil
  | n :: ns, _, _ => .cons (.int n) int_list
theorem ok_Base_image {P : Program} {w : World} {K : PySem.W.Frag} {mg : Str → Option Value} {base : Heap} (T : Tx K mg) : Df P w K mg base (fAd K ("Base", some "image")) 3 [] (sp_Base_image K) := by
  obtain ⟨fd, F⟩ := fn_Base_image T
  refine df1 F sc_Base_image (fun _ _ _ _ _ _ us hl => match us, hl with | [_], _ => rfl) fun self H Q h => ?_
  intro cdv A outer s E hr
  have hu := hu_of hr
  refine ⟨_, (pss_cons (ps_asg (pe_tup (pa_cons (pe_at (T.f_Base_own_ledger) (pv 0)) (pa_cons (pe_lst pa_nil) pa_nil))) (pg_tupK K (n := 2) (by rfl) (pgs_cons (pg_name (i := 3) (sc_Base_image).nd rfl (.inr rfl)) (pgs_cons (pg_name (i := 4) (sc_Base_image).nd rfl (.inl rfl)) pgs_nil))))
    (pss_cons (ps_setLc (i := 1) (own := [("number", 7)]) (tt := tYes) rfl (sc_Base_image).nd rfl rfl (sw_true rfl rfl rfl (by decide +kernel)) (pi_range2 (by rfl) (T.b_range) (pa_cons pe_int (pa_cons (pe_mt0 (ok_Ledger_following T) (T.m_Ledger_following) (hr.mono (by decide)) (pv 3)) pa_nil))) (blkOk_by (N := ["self", "numbers", "name", "ledger", "rows", "index", "entries", "number"]) (sc := defScope t_Base_image) (by decide +kernel)) (fun _ _ _ _ _ => (pg_name (i := 7) (sc_Base_image).nd rfl (.inl rfl))) (fun _ _ _ _ _ => pts_nil) (fun _ _ _ _ _ => (pe_tupdK K (pa_cons (pv 7) (pa_cons (pe_mt (ok_Ledger_owner_of T) (T.m_Ledger_owner_of) (hr.mono (by decide)) (pv 3) (pa_cons (pv 7) pa_nil)) (pa_cons (pe_mt (ok_Ledger_state T) (T.m_Ledger_state) (hr.mono (by decide)) (pv 3) (pa_cons (pv 7) pa_nil)) pa_nil))))))
    (pss_cons (ps_for PassesOwn.never rfl (pi_listK K (pe_mt0 (ok_Base_names T) (T.m_Base_names) (hr.mono (by decide)) (pv 0))) (pg_name (i := 2) (sc_Base_image).nd rfl (.inl rfl))
    (pss_cons ps_never (pss_cons ps_never (pss_one ps_never))))
    (pss_one (ps_ret (pe_tupdK K (pa_cons (pe_at (T.f_Base_own_columns) (pv 0)) (pa_cons (pe_callTy (call_tuple_ofK K) (by rfl) (T.b_tuple) (by decide +kernel) (pa_cons (pv 1) pa_nil)) (pa_cons (pe_mt0 (ok_Base_pages T) (T.m_Base_pages) (hr.mono (by decide)) (pv 0)) (pa_cons (pe_callTy (call_tuple_ofK K) (by rfl) (T.b_tuple) (by decide +kernel) (pa_cons (pe_mt0 (ok_Base_marked T) (T.m_Base_marked) (hr.mono (by decide)) (pv 0)) pa_nil)) (pa_cons (pe_callTy (call_tuple_ofK K) (by rfl) (T.b_tuple) (by decide +kernel) (pa_cons (pv 4) pa_nil)) pa_nil))))))))))), ?_⟩
  obtain ⟨b, S, ex, hS, q⟩ := h
  subst ex
  obtain ⟨dx, vc, e, e1⟩ := hS.ob
  refine ⟨_, rfl, b, dx, _, _, rfl, e, rfl, Nat.zero_le _, fun R nR => ⟨Nat.le_of_ble_eq_true rfl, fun t nt => ⟨t, _, rfl, .inl (.inl upd_same), rfl, _, _, rfl, _, _, rfl, rfl, ?_⟩⟩⟩
  have s0 : Same H (upd (upd H R (.lst [])) t (.tup [.ref S.l, .ref R])) := (same_new nR).trans (same_new nt)
  have tR : t ≠ R := fun z => by rw [z, upd_same] at nt; cases nt
  have hR0 : upd (upd H R (.lst [])) t (.tup [.ref S.l, .ref R]) R = some (.lst []) := by
    rw [upd_ne (Ne.symm tR)]
    exact upd_same
  generalize hH0 : upd (upd H R (.lst [])) t (.tup [.ref S.l, .ref R]) = H0 at s0 hR0
  have hS0 := hS.same s0
  obtain ⟨dl, el⟩ := hS0.led.ob
  have lo := hS.led.lo
  refine ⟨_, rfl, S.l, dl, _, rfl, el, _, rfl, S.l, S.L, rfl, hS0.led, 1, _, rfl, by omega, fun D hD => ?_⟩
  have en : (((S.L.owners.length + 1 : Nat) : Int) - 1).toNat = S.L.owners.length := by omega
  rw [en]
  refine in_list (n := S.L.owners.length) (fun i H' => ∃ acc ds, CmW H0 D acc H' ∧ Tds K H' acc ds ∧ acc.length ≤ i) ⟨[], [], .start hD, .nil, Nat.le_refl _⟩ (fun i H' hi _ => hi) (fun H' _ => Nat.le_refl _) ?_ ?_
  · rintro i H1 x H2 hi ⟨acc, ds, c, td, la⟩ ⟨eH, ex⟩
    subst eH ex
    have ei : (1 : Int) + ((i : Nat) : Int) = ((i + 1 : Nat) : Int) := by omega
    rw [ei]
    have hS1 := hS0.same c.sm
    obtain ⟨dl1, el1⟩ := hS1.led.ob
    have ls : i < S.L.states.length := by rw [← hS.led.ln]; exact hi
    refine ⟨rfl, ?_⟩
    unfold tYes
    refine iteT ⟨_, rfl, _, rfl, S.l, dl1, _, rfl, el1, _, rfl, _, _, rfl, S.l, S.L, i + 1, _, rfl, rfl, hS1.led, Nat.le_add_left _ _, List.getElem?_eq_getElem hi, ?_⟩
    refine ⟨_, rfl, S.l, dl1, _, rfl, el1, _, rfl, _, _, rfl, S.l, S.L, i + 1, _, rfl, rfl, hS1.led, Nat.le_add_left _ _, List.getElem?_eq_getElem ls, ?_⟩
    refine ⟨_, Tds.cons (.int _) (.cons (.int _) (.cons (.str _) .nil)), Nat.le_of_ble_eq_true rfl, fun v H3 sm3 hv => ?_⟩
    have c3 := c.same sm3
    have tk := tk_lst (o := .lst (acc ++ [v])) c3.at_
    exact ⟨acc, c3.at_, small1000 (by omega), acc ++ [v], _, c3.push hD v, ((td.same sm3).keep tk).app (.cons (hv.keep tk) .nil), by rw [List.length_append, List.length_singleton]; omega⟩
  · rintro H1 ⟨acc, ds, c, td, la⟩
    have hS1 := hS0.same c.sm
    obtain ⟨dx1, vc1, f1, _⟩ := hS1.ob
    refine ⟨_, rfl, b, dx1, _, rfl, f1, _, rfl, b, S, rfl, hS1, fun r H2 sm2 nr hr2 => ⟨r, rfl, ⟨_, SqL.of hr2⟩, ?_⟩⟩
    refine for_list (K := K) (a := r) (xs := []) (fun i σ' H' => H' = H2 ∧ σ'[0]? = some (some (.ref b)) ∧ σ'[1]? = some (some (.ref D)) ∧ σ'[4]? = some (some (.ref R))) ⟨rfl, rfl, rfl, rfl⟩ (fun i σ' H' _ hh => SqL.of (by rw [hh.1]; exact hr2)) (fun i x σ' H' hi _ => by cases hi) ?_
    rintro σ' H3 ⟨rfl, g0, g1, g4⟩
    have hS3 := hS1.same sm2
    obtain ⟨dx3, vc3, f3, f3c⟩ := hS3.ob
    refine ⟨_, g0, b, dx3, _, _, rfl, f3, rfl, _, g1, D, acc, rfl, .inl ⟨SqL.of (sm2 _ _ c.at_), fun r1 nr1 => ?_⟩⟩
    have s4 := same_new (o := .tup acc) nr1
    have hS4 := hS3.same s4
    obtain ⟨dx4, vc4, f4, _⟩ := hS4.ob
    refine ⟨_, g0, b, dx4, _, rfl, f4, _, rfl, b, S, rfl, hS4, fun pv H5 sm5 hpv => ?_⟩
    have hS5 := hS4.same sm5
    obtain ⟨dx5, vc5, f5, _⟩ := hS5.ob
    refine ⟨_, g0, b, dx5, _, rfl, f5, _, rfl, b, S, rfl, hS5, fun mr ns H6 sm6 hmr => ⟨mr, _, rfl, .inl ⟨SqL.of hmr, fun r2 nr2 => ?_⟩⟩⟩
    have s7 := same_new (o := .tup (ns.map V.int)) nr2
    have sAll := ((((c.sm.trans sm2).trans s4).trans sm5).trans sm6).trans s7
    refine ⟨_, g4, R, [], rfl, .inl ⟨SqL.of (sAll _ _ hR0), fun r3 nr3 => ?_⟩⟩
    have s8 := same_new (o := .tup []) nr3
    have t1 : Td K (upd (upd H6 r2 (.tup (ns.map V.int))) r3 (.tup [])) (.ref r1) (.tuple ds) := .tup (.inl (s8 _ _ (s7 _ _ (sm6 _ _ (sm5 _ _ upd_same))))) ((((((td.same sm2).same s4).same sm5).same sm6).same s7).same s8)
    have t3 : Td K (upd (upd H6 r2 (.tup (ns.map V.int))) r3 (.tup [])) (.ref r2) (.tuple (ns.map PyData.int)) := .tup (.inl (s8 _ _ upd_same)) int_list
    have t4 : Td K (upd (upd H6 r2 (.tup (ns.map V.int))) r3 (.tup [])) (.ref r3) (.tuple []) := .tup (.inl upd_same) .nil
    refine ⟨_, Tds.cons (((((f3c.same s4).same sm5).same sm6).same s7).same s8) (.cons t1 (.cons (((hpv.same sm6).same s7).same s8) (.cons t3 (.cons t4 .nil)))), Nat.le_of_ble_eq_true rfl, fun v H9 sm9 hv => ?_⟩
    exact q v _ _ _ H9 (((s0.trans sAll).trans s8).trans sm9) hv
end Rc


set_option Elab.async false
set_option linter.all false
set_option maxRecDepth 100000
set_option maxHeartbeats 4000000
/-! defs that make a lambda: their code object is known; new objects, gathered -/
namespace Rc
open PySem PySem.Spec PyProof.Rows L2 He
def refOf : Value → Option Addr
  | .ref c => some c
  | _ => none
theorem refOf_eq : ∀ {v : Value} {c : Addr}, refOf v = some c → v = .ref c := fun {v c} h => by
  unfold refOf at h
  split at h
  · cases h
    rfl
  · cases h
def codeAt (K : PySem.W.Frag) (f : Addr) : Option Addr := match K.lookup f with
  | some ⟨_, _, .func fd, _⟩ => refOf fd.code
  | _ => none
structure LamU (K : PySem.W.Frag) (mg : Str → Option Value) (base : Heap) (cU PU cF PF : Addr) : Prop where
  tbU : LamX.TabB base mg cU PU
  tbF : LamX.TabB base mg cF PF
  cdU : codeAt K (fAd K ("Base", some "undo")) = some cU
  cdF : codeAt K (fAd K ("Base", some "finish")) = some cF
  ne : PU ≠ PF
def TL (PU PF : Addr) : List (Addr × Str) := [(PU, ("Base.undo" ++ ".<locals>.") ++ "<lambda>"), (PF, ("Deals.finish" ++ ".<locals>.") ++ "<lambda>")]
section
variable {P : Program} {w : World} {K : PySem.W.Frag} {mg : Str → Option Value} {base : Heap} {x qual : Str} {params : Arguments} {body : List Stmt} {scope : Scope} {g c : Addr} {fd : FuncData} {N ps : List Str} {k : Nat} {sp : Sp} {dvs : List V}
def BdC (P : Program) (w : World) (K : PySem.W.Frag) (mg : Str → Option Value) (base : Heap) (qual : Str) (scope : Scope) (g : Addr) (N : List Str) (k : Nat) (c : Addr) (body : List Stmt) (vs : List V) (H : Hp) (Q : VK) : Prop :=
  ∀ (cdv : Value), cdv = .ref c → ∀ (A : Around) (outer : List Env) (s : Shared) (E : XK), Room k (A.deeper (envOfC qual scope s.heap.objs.size g cdv)) →
    ∃ t, PSs (cxOf CX0 P w K mg base N qual scope g cdv A outer s H E).nox body t ∧ t { nx := fun _ H' => Q .non H', rt := Q } (start N vs) H
theorem dfc_of (F : FunD K x qual params body scope [] [] g fd) (S : FnScope N ps scope) (bn : BindN x qual params body scope ps) (hc : codeAt K g = some c) (len : ∀ vs H Q E, sp vs H Q E → vs.length = ps.length)
    (hb : ∀ vs H Q E, sp vs H Q E → BdC P w K mg base qual scope g N k c body vs H Q) : Df P w K mg base g (k + 1) [] sp := by
  refine ⟨⟨fd, ps, [], ?_, F.bindsN bn, .nil⟩, F.kp⟩
  obtain ⟨oc, od, dV, kV, doc, pm, an, cdv, ct, osl, e, lk, hcd, _, _⟩ := F.ex
  have hcv : cdv = .ref c := by
    unfold codeAt at hc
    rw [lk, e] at hc
    exact refOf_eq hc
  subst e
  refine fn_of lk hcd S len fun A outer s H vs Q E hr h => ?_
  obtain ⟨t, h1, h2⟩ := hb vs H Q E h cdv hcv A outer s E hr
  exact ⟨t, PSs.nox h1, h2⟩
theorem dfc3 {p : V → V → V → Hp → VK → Prop} {a b d : Str} (F : FunD K x qual params body scope [] [] g fd) (S : FnScope N [a, b, d] scope) (bn : BindN x qual params body scope [a, b, d]) (hc : codeAt K g = some c)
    (hb : ∀ x y z H Q, p x y z H Q → BdC P w K mg base qual scope g N k c body [x, y, z] H Q) : Df P w K mg base g (k + 1) [] (s3 p) :=
  dfc_of F S bn hc (fun _ _ _ _ ⟨_, _, _, e, _⟩ => by rw [e]; rfl) fun _ _ _ _ ⟨_, _, _, e, h⟩ => by rw [e]; exact hb _ _ _ _ _ h
end
/-- the names that a lambda takes from its maker are cells there -/
def lamB (sc scope : Scope) : Bool := scope.names.all fun y => match y.2 with
  | .free => (match sc.names.lookup y.1 with
    | some .cell => true
    | _ => false)
  | _ => true
theorem lam_free {sc scope : Scope} {env : Env} (he : env.scope = sc) (h : lamB sc scope = true) : ∀ y ∈ scope.names, y.2 = .free → env.kindOf y.1 = some .cell := fun y hy e => by
  have := List.all_eq_true.mp h y hy
  rw [e] at this
  simp only at this
  unfold Env.kindOf
  rw [he]
  split at this
  · assumption
  · cases this
/-! ### new objects, gathered -/
structure FrAcc (a : Addr) (H : Hp) (acc : List Addr) (H' : Hp) : Prop where
  c : Chg [a] H H'
  nd : acc.Nodup
  am : a ∈ acc
  nt : ∀ x ∈ acc, NT (H' x)
  fr : ∀ x ∈ acc, x = a ∨ H x = none
theorem FrAcc.low {a : Addr} {H H' : Hp} {acc : List Addr} (f : FrAcc a H acc H') {y : Addr} (n : H' y = none) : H y = none ∧ y ∉ acc := by
  have hy : y ∉ acc := fun z => (f.nt y z).not n
  refine ⟨?_, hy⟩
  cases e : H y with
  | none => rfl
  | some o =>
    have := f.c.keep _ _ e fun z => hy (by rw [List.mem_singleton.mp z]; exact f.am)
    rw [n] at this
    cases this
theorem FrAcc.many {a : Addr} {H H' H2 : Hp} {acc nw : List Addr} (f : FrAcc a H acc H') (s : Same H' H2) (n : ∀ x ∈ nw, H' x = none) (nt : ∀ x ∈ nw, NT (H2 x)) (nd : nw.Nodup) : FrAcc a H (acc ++ nw) H2 := by
  refine ⟨f.c.trans (Chg.of s), ?_, List.mem_append_left _ f.am, fun x hx => ?_, fun x hx => ?_⟩
  · rw [List.nodup_append]
    exact ⟨f.nd, nd, fun x hx y hy z => (f.low (n y hy)).2 (z ▸ hx)⟩
  · rcases List.mem_append.mp hx with z | z
    · obtain ⟨o, e, h⟩ := f.nt x z
      exact ⟨o, s _ _ e, h⟩
    · exact nt x z
  · rcases List.mem_append.mp hx with z | z
    · exact f.fr x z
    · exact .inr (f.low (n x z)).1
theorem FrAcc.new {a : Addr} {H H' : Hp} {acc : List Addr} (f : FrAcc a H acc H') {y : Addr} {o : HO} (n : H' y = none) (no : Im o = false := by rfl) : FrAcc a H (acc ++ [y]) (upd H' y o) :=
  f.many (same_new n) (fun x hx => by rw [List.mem_singleton.mp hx]; exact n) (fun x hx => by rw [List.mem_singleton.mp hx]; exact NT.of upd_same no) (by simp)
theorem FrAcc.setA {a : Addr} {H H' : Hp} {acc : List Addr} (f : FrAcc a H acc H') {u o : HO} (e : H' a = some u) (nu : Im u = false := by rfl) (no : Im o = false := by rfl) : FrAcc a H acc (upd H' a o) := by
  have c : Chg [a] H' (upd H' a o) := Chg.upd e (by simp) nu no
  exact ⟨f.c.trans c, f.nd, f.am, fun x hx => c.live x (f.nt x hx), f.fr⟩
end Rc

set_option Elab.async false
set_option linter.all false
set_option maxRecDepth 100000
set_option maxHeartbeats 4000000
namespace Rc
open PySem PySem.Spec PyProof.Rows L2 He
abbrev baseOb (K : PySem.W.Frag) (dx : Addr) (vc : V) (l t ix cu fi wr : Addr) : HO := Ob (ga K "Base") dx nsBase [vc, .ref l, .ref t, .ref ix, .ref cu, .int 0, .ref fi, .ref wr]
def sp_Deals_init (K : PySem.W.Frag) : Sp := s2 fun x y H Q => ∃ (a dx : Addr), x = .ref a ∧ H a = some (Ob (ga K "Base") dx nsBase []) ∧ Td K H y colsD ∧
  ∀ vc l de ow st t P M ix cu fi wr H', FrAcc a H ([a] ++ [l, de, ow, st] ++ [t, P, M] ++ [ix] ++ [cu] ++ [fi] ++ [wr]) H' → H' a = some (baseOb K dx vc l t ix cu fi wr) → Td K H' vc colsD → LedAt K H' l ⟨de, ow, st, [], [], [], []⟩ → TbAt K H' t ⟨P, M, []⟩ →
    H' ix = some (.dK []) → H' cu = some (.dK []) → H' fi = some (.dK []) → H' wr = some (.dK []) → Q .non H'
theorem ok_Deals_init {P : Program} {w : World} {K : PySem.W.Frag} {mg : Str → Option Value} {base : Heap} (T : Tx K mg) : Df P w K mg base (fAd K ("Deals", some "__init__")) 3 [] (sp_Deals_init K) := by
  obtain ⟨fd, F⟩ := fn_Deals_init T
  refine df2 F sc_Deals_init (fun _ _ _ _ _ _ us hl => match us, hl with | [_, _], _ => rfl) fun self columns H Q h => ?_
  intro cdv A outer s E hr
  have hu := hu_of hr
  refine ⟨_, (pss_cons (ps_new (T.f_Base_own_columns) (pv 0) (pe_callTy (call_tuple_ofK K) (by rfl) (T.b_tuple) (by decide +kernel) (pa_cons (pv 1) pa_nil)))
    (pss_cons (ps_new (T.f_Base_own_ledger) (pv 0) (pe_mk0 (ok_Ledger_init T) (T.k_Ledger) (hr.mono (by decide)) rfl (T.g_Ledger)))
    (pss_cons (ps_new (T.f_Base_own_table) (pv 0) (pe_mk0 (ok_Table_init T) (T.k_Table) (hr.mono (by decide)) rfl (T.g_Table)))
    (pss_cons (ps_new (T.f_Base_own_indexes) (pv 0) pe_dnewK)
    (pss_cons (ps_new (T.f_Base_own_cursors) (pv 0) pe_dnewK)
    (pss_cons (ps_new (T.f_Base_own_opened) (pv 0) pe_int)
    (pss_cons (ps_new (T.f_Base_own_firsts) (pv 0) pe_dnewK)
    (pss_one (ps_new (T.f_Base_own_writers) (pv 0) pe_dnewK))))))))), ?_⟩
  obtain ⟨a, dx, ex, e, hy, q⟩ := h
  subst ex
  obtain ⟨ca, cxs, ec, cq, cr⟩ := hy.tup_eq
  subst ec
  have f0 : FrAcc a H [a] H := ⟨.refl H, by simp, by simp, fun x hx => by rw [List.mem_singleton.mp hx]; exact NT.of e rfl, fun x hx => .inl (List.mem_singleton.mp hx)⟩
  refine ⟨_, rfl, ca, cxs, rfl, .inr ⟨cq.t, _, rfl, a, dx, _, rfl, e, rfl, ?_⟩⟩
  have f1 := f0.setA (o := Ob (ga K "Base") dx nsBase ([] ++ [.ref ca])) e
  have e1 : upd H a (Ob (ga K "Base") dx nsBase ([] ++ [.ref ca])) a = some (Ob (ga K "Base") dx nsBase [.ref ca]) := upd_same
  generalize hH1 : upd H a (Ob (ga K "Base") dx nsBase ([] ++ [.ref ca])) = H1 at f1 e1
  refine fun l ldx nl nldx lne => ⟨_, rfl, l, ldx, rfl, upd_same, fun de ow st H2 c2 nde now nst hL => ⟨rfl, ?_⟩⟩
  have s2 := same_mk (o1 := .own l) (o2 := .ins (ga K "Ledger") ldx []) nl nldx
  have sm2 : Same H1 H2 := same_of_chg s2 c2 fun x hx => by rw [List.mem_singleton.mp hx]; exact nl
  have f2 := f1.many (nw := [l, de, ow, st]) sm2 (fun x hx => by
    simp only [List.mem_cons, List.not_mem_nil, or_false] at hx
    rcases hx with z | z | z | z
    · rw [z]; exact nl
    · rw [z]; exact none_of s2 nde
    · rw [z]; exact none_of s2 now
    · rw [z]; exact none_of s2 nst) (fun x hx => hL.nt x (by simpa [Led.fp] using hx)) (by have := hL.nd; simpa [Led.fp] using this)
  have e2 := sm2 _ _ e1
  refine ⟨_, rfl, a, dx, _, rfl, e2, rfl, ?_⟩
  have f3 := f2.setA (o := Ob (ga K "Base") dx nsBase ([.ref ca] ++ [.ref l])) e2
  have e3 : upd H2 a (Ob (ga K "Base") dx nsBase ([.ref ca] ++ [.ref l])) a = some (Ob (ga K "Base") dx nsBase [.ref ca, .ref l]) := upd_same
  have aL : ∀ x ∈ [a], x ∉ Led.fp l ⟨de, ow, st, [], [], [], []⟩ := fun x hx hm => by
    have nd := f2.nd
    rw [List.mem_singleton.mp hx] at hm
    exact (List.nodup_append.mp nd).2.2 a (by simp) a (by simpa [Led.fp] using hm) rfl
  have hL3 : LedAt K (upd H2 a (Ob (ga K "Base") dx nsBase ([.ref ca] ++ [.ref l]))) l ⟨de, ow, st, [], [], [], []⟩ := hL.chg (Chg.upd (fp := [a]) e2 (by simp)) aL
  generalize hH3 : upd H2 a (Ob (ga K "Base") dx nsBase ([.ref ca] ++ [.ref l])) = H3 at f3 e3 hL3
  refine fun t tdx nt ntdx tne => ⟨_, rfl, t, tdx, rfl, upd_same, fun P M H4 c4 nP nM hT => ⟨rfl, ?_⟩⟩
  have s4 := same_mk (o1 := .own t) (o2 := .ins (ga K "Table") tdx []) nt ntdx
  have sm4 : Same H3 H4 := same_of_chg s4 c4 fun x hx => by rw [List.mem_singleton.mp hx]; exact nt
  have f4 := f3.many (nw := [t, P, M]) sm4 (fun x hx => by
    simp only [List.mem_cons, List.not_mem_nil, or_false] at hx
    rcases hx with z | z | z
    · rw [z]; exact nt
    · rw [z]; exact none_of s4 nP
    · rw [z]; exact none_of s4 nM) (fun x hx => hT.nt x (by simpa [Tab.fp] using hx)) (by have := hT.nd; simpa [Tab.fp] using this)
  have e4 := sm4 _ _ e3
  have aT : ∀ x ∈ [a], x ∉ Tab.fp t ⟨P, M, []⟩ := fun x hx hm => by
    have nd := f4.nd
    rw [List.mem_singleton.mp hx] at hm
    exact (List.nodup_append.mp nd).2.2 a (by simp) a (by simpa [Tab.fp] using hm) rfl
  refine ⟨_, rfl, a, dx, _, rfl, e4, rfl, ?_⟩
  have f5 := f4.setA (o := Ob (ga K "Base") dx nsBase ([.ref ca, .ref l] ++ [.ref t])) e4
  have e5 : upd H4 a (Ob (ga K "Base") dx nsBase ([.ref ca, .ref l] ++ [.ref t])) a = some (Ob (ga K "Base") dx nsBase [.ref ca, .ref l, .ref t]) := upd_same
  have hL5 : LedAt K (upd H4 a (Ob (ga K "Base") dx nsBase ([.ref ca, .ref l] ++ [.ref t]))) l ⟨de, ow, st, [], [], [], []⟩ := (hL3.same sm4).chg (Chg.upd (fp := [a]) e4 (by simp)) aL
  have hT5 : TbAt K (upd H4 a (Ob (ga K "Base") dx nsBase ([.ref ca, .ref l] ++ [.ref t]))) t ⟨P, M, []⟩ := hT.chg (Chg.upd (fp := [a]) e4 (by simp)) aT
  generalize hH5 : upd H4 a (Ob (ga K "Base") dx nsBase ([.ref ca, .ref l] ++ [.ref t])) = H5 at f5 e5 hL5 hT5
  refine fun ix nix => ?_
  have f6 := f5.new (o := .dK []) nix
  have ixa : ix ≠ a := fun z => (f5.low nix).2 (z ▸ f5.am)
  have s6 := same_new (o := .dK []) nix
  refine ⟨_, rfl, a, dx, _, rfl, s6 _ _ e5, rfl, ?_⟩
  have f7 := f6.setA (o := Ob (ga K "Base") dx nsBase ([.ref ca, .ref l, .ref t] ++ [.ref ix])) (s6 _ _ e5)
  have c7 : Chg [a] (upd H5 ix (.dK [])) (upd (upd H5 ix (.dK [])) a (Ob (ga K "Base") dx nsBase ([.ref ca, .ref l, .ref t] ++ [.ref ix]))) := Chg.upd (s6 _ _ e5) (by simp)
  have e7 : upd (upd H5 ix (.dK [])) a (Ob (ga K "Base") dx nsBase ([.ref ca, .ref l, .ref t] ++ [.ref ix])) a = some (Ob (ga K "Base") dx nsBase [.ref ca, .ref l, .ref t, .ref ix]) := upd_same
  have hL7 := (hL5.same s6).chg c7 aL
  have hT7 := (hT5.same s6).chg c7 aT
  have i7 := c7.keep _ _ (upd_same (H := H5) (a := ix) (o := .dK [])) (by simp [ixa])
  generalize hH7 : upd (upd H5 ix (.dK [])) a (Ob (ga K "Base") dx nsBase ([.ref ca, .ref l, .ref t] ++ [.ref ix])) = H7 at f7 e7 hL7 hT7 i7
  refine fun cu ncu => ?_
  have f8 := f7.new (o := .dK []) ncu
  have cua : cu ≠ a := fun z => (f7.low ncu).2 (z ▸ f7.am)
  have s8 := same_new (o := .dK []) ncu
  refine ⟨_, rfl, a, dx, _, rfl, s8 _ _ e7, rfl, ?_⟩
  have f9 := f8.setA (o := Ob (ga K "Base") dx nsBase ([.ref ca, .ref l, .ref t, .ref ix] ++ [.ref cu])) (s8 _ _ e7)
  have c9 : Chg [a] (upd H7 cu (.dK [])) (upd (upd H7 cu (.dK [])) a (Ob (ga K "Base") dx nsBase ([.ref ca, .ref l, .ref t, .ref ix] ++ [.ref cu]))) := Chg.upd (s8 _ _ e7) (by simp)
  have e9 : upd (upd H7 cu (.dK [])) a (Ob (ga K "Base") dx nsBase ([.ref ca, .ref l, .ref t, .ref ix] ++ [.ref cu])) a = some (Ob (ga K "Base") dx nsBase [.ref ca, .ref l, .ref t, .ref ix, .ref cu]) := upd_same
  have hL9 := (hL7.same s8).chg c9 aL
  have hT9 := (hT7.same s8).chg c9 aT
  have i9 := c9.keep _ _ (s8 _ _ i7) (by simp [ixa])
  have j9 := c9.keep _ _ (upd_same (H := H7) (a := cu) (o := .dK [])) (by simp [cua])
  generalize hH9 : upd (upd H7 cu (.dK [])) a (Ob (ga K "Base") dx nsBase ([.ref ca, .ref l, .ref t, .ref ix] ++ [.ref cu])) = H9 at f9 e9 hL9 hT9 i9 j9
  refine ⟨_, rfl, a, dx, _, rfl, e9, rfl, ?_⟩
  have fA := f9.setA (o := Ob (ga K "Base") dx nsBase ([.ref ca, .ref l, .ref t, .ref ix, .ref cu] ++ [.int 0])) e9
  have cA : Chg [a] H9 (upd H9 a (Ob (ga K "Base") dx nsBase ([.ref ca, .ref l, .ref t, .ref ix, .ref cu] ++ [.int 0]))) := Chg.upd e9 (by simp)
  have eA : upd H9 a (Ob (ga K "Base") dx nsBase ([.ref ca, .ref l, .ref t, .ref ix, .ref cu] ++ [.int 0])) a = some (Ob (ga K "Base") dx nsBase [.ref ca, .ref l, .ref t, .ref ix, .ref cu, .int 0]) := upd_same
  have hLA := hL9.chg cA aL
  have hTA := hT9.chg cA aT
  have iA := cA.keep _ _ i9 (by simp [ixa])
  have jA := cA.keep _ _ j9 (by simp [cua])
  generalize hHA : upd H9 a (Ob (ga K "Base") dx nsBase ([.ref ca, .ref l, .ref t, .ref ix, .ref cu] ++ [.int 0])) = HA at fA eA hLA hTA iA jA
  refine fun fi nfi => ?_
  have fB := fA.new (o := .dK []) nfi
  have fia : fi ≠ a := fun z => (fA.low nfi).2 (z ▸ fA.am)
  have sB := same_new (o := .dK []) nfi
  refine ⟨_, rfl, a, dx, _, rfl, sB _ _ eA, rfl, ?_⟩
  have fC := fB.setA (o := Ob (ga K "Base") dx nsBase ([.ref ca, .ref l, .ref t, .ref ix, .ref cu, .int 0] ++ [.ref fi])) (sB _ _ eA)
  have cC : Chg [a] (upd HA fi (.dK [])) (upd (upd HA fi (.dK [])) a (Ob (ga K "Base") dx nsBase ([.ref ca, .ref l, .ref t, .ref ix, .ref cu, .int 0] ++ [.ref fi]))) := Chg.upd (sB _ _ eA) (by simp)
  have eC : upd (upd HA fi (.dK [])) a (Ob (ga K "Base") dx nsBase ([.ref ca, .ref l, .ref t, .ref ix, .ref cu, .int 0] ++ [.ref fi])) a = some (Ob (ga K "Base") dx nsBase [.ref ca, .ref l, .ref t, .ref ix, .ref cu, .int 0, .ref fi]) := upd_same
  have hLC := (hLA.same sB).chg cC aL
  have hTC := (hTA.same sB).chg cC aT
  have iC := cC.keep _ _ (sB _ _ iA) (by simp [ixa])
  have jC := cC.keep _ _ (sB _ _ jA) (by simp [cua])
  have kC := cC.keep _ _ (upd_same (H := HA) (a := fi) (o := .dK [])) (by simp [fia])
  generalize hHC : upd (upd HA fi (.dK [])) a (Ob (ga K "Base") dx nsBase ([.ref ca, .ref l, .ref t, .ref ix, .ref cu, .int 0] ++ [.ref fi])) = HC at fC eC hLC hTC iC jC kC
  refine fun wr nwr => ?_
  have fD := fC.new (o := .dK []) nwr
  have wra : wr ≠ a := fun z => (fC.low nwr).2 (z ▸ fC.am)
  have sD := same_new (o := .dK []) nwr
  refine ⟨_, rfl, a, dx, _, rfl, sD _ _ eC, rfl, ?_⟩
  have fE := fD.setA (o := Ob (ga K "Base") dx nsBase ([.ref ca, .ref l, .ref t, .ref ix, .ref cu, .int 0, .ref fi] ++ [.ref wr])) (sD _ _ eC)
  have cE : Chg [a] (upd HC wr (.dK [])) (upd (upd HC wr (.dK [])) a (Ob (ga K "Base") dx nsBase ([.ref ca, .ref l, .ref t, .ref ix, .ref cu, .int 0, .ref fi] ++ [.ref wr]))) := Chg.upd (sD _ _ eC) (by simp)
  exact q (.ref ca) l de ow st t P M ix cu fi wr _ fE upd_same ((Td.tup cq cr).keep fE.c.tk) ((hLC.same sD).chg cE aL) ((hTC.same sD).chg cE aT) (cE.keep _ _ (sD _ _ iC) (by simp [ixa])) (cE.keep _ _ (sD _ _ jC) (by simp [cua])) (cE.keep _ _ (sD _ _ kC) (by simp [fia])) (cE.keep _ _ (upd_same (H := HC) (a := wr) (o := .dK [])) (by simp [wra]))
structure Sto0 (S : Sto) : Prop where
  ow : S.L.owners = []
  st : S.L.states = []
  kv : S.L.kvs = []
  ac : S.L.act = []
  pg : S.T.pages = []
  op : S.opened = 0
  cs : S.cs = []
  va : S.vac = .non
def sp_Base_init (K : PySem.W.Frag) : Sp := s2 fun x y H Q => ∃ (a dx : Addr), x = .ref a ∧ H a = some (Ob (ga K "Base") dx nsBase []) ∧ Td K H y colsD ∧
  ∀ S H', Chg [a] H H' → StoAt K H' a S → Sto0 S → (∀ x ∈ S.fp a, x = a ∨ H x = none) → Q .non H'
theorem ok_Base_init {P : Program} {w : World} {K : PySem.W.Frag} {mg : Str → Option Value} {base : Heap} (T : Tx K mg) : Df P w K mg base (fAd K ("Base", some "__init__")) 4 [] (sp_Base_init K) := by
  obtain ⟨fd, F⟩ := fn_Base_init T
  refine df2 F sc_Base_init (fun _ _ _ _ _ _ us hl => match us, hl with | [_, _], _ => rfl) fun self columns H Q h => ?_
  intro cdv A outer s E hr
  have hu := hu_of hr
  refine ⟨_, (pss_cons (ps_expr (pe_cls (ok_Deals_init T) (hr.mono (by decide)) rfl (T.g_Deals) T.rdD (pa_cons (pv 0) (pa_cons (pv 1) pa_nil))))
    (pss_one (ps_new (T.f_Base_own_vacuum) (pv 0) pe_non))), ?_⟩
  obtain ⟨a, dx, ex, e, hy, q⟩ := h
  subst ex
  refine ⟨_, rfl, _, rfl, _, _, rfl, a, dx, rfl, e, hy, fun vc l de ow st t P M ix cu fi wr H1 f1 e1 hv hL hT i1 j1 k1 w1 => ?_⟩
  refine ⟨_, rfl, a, dx, _, rfl, e1, rfl, ?_⟩
  have c2 : Chg [a] H1 (upd H1 a (Ob (ga K "Base") dx nsBase ([vc, .ref l, .ref t, .ref ix, .ref cu, .int 0, .ref fi, .ref wr] ++ [.non]))) := Chg.upd e1 (by simp)
  obtain ⟨S, eS⟩ : ∃ S : Sto, S = ⟨l, ⟨de, ow, st, [], [], [], []⟩, t, ⟨P, M, []⟩, ix, cu, fi, wr, 0, [], .non⟩ := ⟨_, rfl⟩
  have nd := f1.nd
  have efp : S.fp a = [a] ++ ([ix] ++ [cu] ++ [fi] ++ [wr]) ++ ([l, de, ow, st] ++ [t, P, M]) := by rw [eS]; rfl
  have prm : ([a] ++ [l, de, ow, st] ++ [t, P, M] ++ [ix] ++ [cu] ++ [fi] ++ [wr]).Perm (S.fp a) := by
    rw [efp]
    have h1 : ([a] ++ [l, de, ow, st] ++ [t, P, M] ++ [ix] ++ [cu] ++ [fi] ++ [wr]) = [a] ++ (([l, de, ow, st] ++ [t, P, M]) ++ ([ix] ++ [cu] ++ [fi] ++ [wr])) := rfl
    rw [h1, List.append_assoc [a]]
    exact List.perm_append_comm.append_left [a]
  have hnd : (S.fp a).Nodup := prm.nodup_iff.mp nd
  have ne := List.nodup_append.mp hnd
  have an : ∀ {y : Addr}, y ∈ S.fp a → y ≠ a → y ∉ [a] := fun {y} _ h => by simp [h]
  have neq : ∀ {y : Addr}, y ∈ [l, de, ow, st] ++ [t, P, M] ++ [ix] ++ [cu] ++ [fi] ++ [wr] → y ≠ a := fun {y} hy z => by
    have h1 : ([a] ++ [l, de, ow, st] ++ [t, P, M] ++ [ix] ++ [cu] ++ [fi] ++ [wr]) = a :: ([l, de, ow, st] ++ [t, P, M] ++ [ix] ++ [cu] ++ [fi] ++ [wr]) := rfl
    rw [h1] at nd
    exact (List.nodup_cons.mp nd).1 (z ▸ hy)
  have aL : ∀ x ∈ [a], x ∉ Led.fp l ⟨de, ow, st, [], [], [], []⟩ := fun x hx hm => by
    rw [List.mem_singleton.mp hx] at hm
    have hm2 : a ∈ [l, de, ow, st] := by simpa [Led.fp] using hm
    exact neq (y := a) (by simp only [List.mem_append]; exact .inl (.inl (.inl (.inl (.inl hm2))))) rfl
  have aT : ∀ x ∈ [a], x ∉ Tab.fp t ⟨P, M, []⟩ := fun x hx hm => by
    rw [List.mem_singleton.mp hx] at hm
    have hm2 : a ∈ [t, P, M] := by simpa [Tab.fp] using hm
    exact neq (y := a) (by simp only [List.mem_append]; exact .inl (.inl (.inl (.inl (.inr hm2))))) rfl
  refine q S _ (f1.c.trans c2) ?_ (by rw [eS]; exact ⟨rfl, rfl, rfl, rfl, rfl, rfl, rfl, rfl⟩) fun x hx => f1.fr x (prm.mem_iff.mpr hx)
  rw [eS] at hnd ⊢
  exact ⟨⟨dx, vc, upd_same, hv.keep c2.tk⟩, hL.chg c2 aL, hT.chg c2 aT, c2.keep _ _ i1 (by simpa using neq (y := ix) (by simp)), c2.keep _ _ j1 (by simpa using neq (y := cu) (by simp)), c2.keep _ _ k1 (by simpa using neq (y := fi) (by simp)), ⟨[], c2.keep _ _ w1 (by simpa using neq (y := wr) (by simp)), List.nodup_nil, nofun⟩, hnd, List.nodup_nil, nofun, Nat.zero_le _⟩
end Rc


set_option Elab.async false
set_option linter.all false
set_option maxRecDepth 100000
set_option maxHeartbeats 4000000
namespace Rc
open PySem PySem.Spec PyProof.Rows L2 He
def sp_Base_close_where (K : PySem.W.Frag) : Sp := s2 fun x y H Q => ∃ b S, x = .ref b ∧ StoAt K H b S ∧ S.cs = [] ∧
  ∀ cu H', Chg (S.fp b) H H' → H cu = none → StoAt K H' b { S with cu := cu, cs := [] } → Q .non H'
theorem ok_Base_close_where {P : Program} {w : World} {K : PySem.W.Frag} {mg : Str → Option Value} {base : Heap} (T : Tx K mg) : Df P w K mg base (fAd K ("Base", some "close_where")) 1 [] (sp_Base_close_where K) := by
  obtain ⟨fd, F⟩ := fn_Base_close_where T
  refine df2 F sc_Base_close_where (fun _ _ _ _ _ _ us hl => match us, hl with | [_, _], _ => rfl) fun self is_meant H Q h => ?_
  intro cdv A outer s E hr
  have hu := hu_of hr
  refine ⟨_, (pss_one (ps_put (T.f_Base_own_cursors) (pv 0) (pe_lock (pe_dc (own := [("c", 2), ("cursor", 3)]) rfl (sc_Base_close_where).nd (pi_items (pe_at (T.f_Base_own_cursors) (pv 0))) (blkOk_by (N := ["self", "is_meant", "c", "cursor"]) (sc := defScope t_Base_close_where) (by decide +kernel)) (fun _ _ _ _ _ => (pg_tupK K (n := 2) (by rfl) (pgs_cons (pg_name (i := 2) (sc_Base_close_where).nd rfl (.inl rfl)) (pgs_cons (pg_name (i := 3) (sc_Base_close_where).nd rfl (.inl rfl)) pgs_nil)))) (fun _ _ _ _ _ => (pts_one pt_no)) (fun _ _ _ _ _ => (pv 2)) (fun _ _ _ _ _ => (pv 3)))))), ?_⟩
  obtain ⟨b, S, ex, hS, hcs, q⟩ := h
  subst ex
  obtain ⟨dx, vc, e, e1⟩ := hS.ob
  have on := own_ne (sto_ne hS.nd).ow
  have hcu := hS.cu
  have ecu : dealK S.cs = [] := by rw [hcs]; rfl
  rw [ecu] at hcu
  refine ⟨S.cu, _, hcu, True.intro, fun od => ?_⟩
  have e' : upd H S.cu (.frz od (.dK [])) b = some (Ob (ga K "Base") dx nsBase [vc, .ref S.l, .ref S.t, .ref S.ix, .ref S.cu, .int (S.opened : Int), .ref S.fi, .ref S.wr, S.vac]) := by
    rw [upd_ne on.b_cu]
    exact e
  refine ⟨_, rfl, b, dx, _, _, rfl, e', rfl, S.cu, od, [], rfl, upd_same, fun D hD => ?_⟩
  have Dcu : D ≠ S.cu := fun z => by rw [z, upd_same] at hD; cases hD
  have nD : H D = none := by rw [upd_ne Dcu] at hD; exact hD
  refine in_list (n := 0) (fun i H' => H' = upd (upd H S.cu (.frz od (.dK []))) D (.dK [])) rfl (fun i H' hi _ => absurd hi (Nat.not_lt_zero i)) (fun H' hh => ⟨by rw [hh, upd_ne (Ne.symm Dcu)]; exact upd_same, Nat.zero_le _⟩) (fun i H' x H2 hi _ _ => absurd hi (Nat.not_lt_zero i)) ?_
  rintro H1 rfl
  refine ⟨by rw [upd_ne (Ne.symm Dcu)]; exact upd_same, ?_⟩
  have sm : Same H (upd (upd (upd H S.cu (.frz od (.dK []))) D (.dK [])) S.cu (.dK [])) := fun x o eo => by
    by_cases hx : x = S.cu
    · subst hx
      rw [upd_same]
      rw [hcu] at eo
      exact eo
    · rw [upd_ne hx, upd_ne (ne_of_none eo nD), upd_ne hx]
      exact eo
  have hDd : upd (upd (upd H S.cu (.frz od (.dK []))) D (.dK [])) S.cu (.dK []) D = some (.dK []) := by
    rw [upd_ne Dcu]
    exact upd_same
  generalize hH1 : upd (upd (upd H S.cu (.frz od (.dK []))) D (.dK [])) S.cu (.dK []) = H1 at sm hDd
  have hS1 := hS.same sm
  obtain ⟨dx1, vc1, f1, g1⟩ := hS1.ob
  refine ⟨_, rfl, b, dx1, _, rfl, f1, Nat.le_of_ble_eq_true rfl, ?_⟩
  exact q D _ ((Chg.of sm).trans (Chg.upd f1 (fp_own mem_b))) nD (hS1.newCu hDd (fun z => hS.there z nD) f1 g1)
/-- finished: the deal's running parts have the state s, the deal is no longer told -/
def Led.fin (L : Led) (l1 : List Dl) (d : Dl) (l2 : List Dl) (s : Sta) : Led := { L with states := setL (runP L d) s L.states, act := l1 ++ l2 }
theorem LedAt.dropD {K : PySem.W.Frag} {H : Hp} {l : Addr} {L : Led} {l1 l2 : List Dl} {d : Dl} (h : LedAt K H l L) (ea : L.act = l1 ++ d :: l2) : LedAt K H l { L with act := l1 ++ l2 } := by
  have sub : ∀ x ∈ l1 ++ l2, x ∈ L.act := fun x hx => by
    rw [ea]
    simp only [List.mem_append, List.mem_cons] at hx ⊢
    rcases hx with z | z
    · exact .inl z
    · exact .inr (.inr z)
  refine ⟨h.ob, h.de, h.ow, h.st, fun x hx => h.act x (sub x hx), ?_, h.kn, h.ln, h.kl, h.lo, fun x hx => h.pp x (sub x hx)⟩
  have nd := h.nd
  unfold Led.fp at nd ⊢
  rw [ea] at nd
  refine nd.sublist ?_
  refine List.Sublist.cons_cons _ (List.Sublist.cons_cons _ (List.Sublist.cons_cons _ (List.Sublist.cons_cons _ ?_)))
  show ((l1 ++ l2).flatMap fun d => [d.a, d.p]).Sublist ((l1 ++ d :: l2).flatMap fun d => [d.a, d.p])
  rw [List.flatMap_append, List.flatMap_append, List.flatMap_cons]
  exact List.Sublist.append (List.Sublist.refl _) (List.sublist_append_right _ _)
theorem fin_fp {L : Led} {l : Addr} {l1 l2 : List Dl} {d : Dl} {s : Sta} (ea : L.act = l1 ++ d :: l2) : ∀ a ∈ (L.fin l1 d l2 s).fp l, a ∈ L.fp l := fun a ha => by
  unfold Led.fin Led.fp at ha
  unfold Led.fp
  rw [ea]
  simp only [List.mem_cons, List.flatMap_append, List.mem_append, List.flatMap_cons] at ha ⊢
  rcases ha with z | z | z | z | z | z
  · exact .inl z
  · exact .inr (.inl z)
  · exact .inr (.inr (.inl z))
  · exact .inr (.inr (.inr (.inl z)))
  · exact .inr (.inr (.inr (.inr (.inl z))))
  · exact .inr (.inr (.inr (.inr (.inr (.inr z)))))
theorem mkE {α : Type} (a : α) : ∃ x, x = a := ⟨a, rfl⟩
def Sto.fin (S : Sto) (l1 : List Dl) (d : Dl) (l2 : List Dl) (s : Sta) (cu : Addr) : Sto := { S with L := S.L.fin l1 d l2 s, cu := cu, cs := [] }
def sp_Base_finish (PU PF : Addr) (K : PySem.W.Frag) : Sp := s3 fun x y z H Q => ∃ b S l1 d l2 s, x = .ref b ∧ y = .int ((d.n : Nat) : Int) ∧ z = .str (staS s) ∧ StoAt K H b S ∧ S.cs = [] ∧ RunD S.L l1 d l2 ∧ LamX.Tabs (TL PU PF) H ∧
  ∀ cu H', ChT (S.fp b) H H' → ¬ NT (H cu) → LamX.Tabs (TL PU PF) H' → StoAt K H' b (S.fin l1 d l2 s cu) → Q .non H'
theorem ext_sto {K : PySem.W.Frag} {H H1 : Hp} {b : Addr} {S : Sto} (h : StoAt K H b S) (e : LamX.ExtN H H1) : StoAt K H1 b S := h.cht (ext_t (fp := []) e) nofun
theorem ok_Base_finish {P : Program} {w : World} {K : PySem.W.Frag} {mg : Str → Option Value} {base : Heap} (T : Tx K mg) {cU PU cF PF : Addr} (U : LamU K mg base cU PU cF PF) : Df P w K mg base (fAd K ("Base", some "finish")) 4 [] (sp_Base_finish PU PF K) := by
  obtain ⟨fd, F⟩ := fn_Base_finish T
  refine dfc3 F sc_Base_finish (fun _ _ _ _ _ _ us hl => match us, hl with | [_, _, _], _ => rfl) U.cdF fun self t state H Q h => ?_
  intro cdv hcd A outer s E hr
  have hu := hu_of hr
  refine ⟨_, (pss_cons (ps_expr (pe_mt (ok_Ledger_look_running T) (T.m_Ledger_look_running) (hr.mono (by decide)) (pe_at (T.f_Base_own_ledger) (pv 0)) (pa_cons (pv 1) pa_nil)))
    (pss_cons (ps_expr (pe_mt (ok_Ledger_finish T) (T.m_Ledger_finish) (hr.mono (by decide)) (pe_at (T.f_Base_own_ledger) (pv 0)) (pa_cons (pv 1) (pa_cons (pv 2) pa_nil))))
    (pss_cons (ps_expr (pe_mt (ok_Base_close_where T) (T.m_Base_close_where) (hr.mono (by decide)) (pv 0) (pa_cons (pe_lam (T := TL PU PF) U.tbF hcd (List.mem_cons_of_mem _ List.mem_cons_self) (fun p hp e => by rcases List.mem_cons.mp hp with z | z; exact absurd (by rw [z] at e; exact e) U.ne; rw [List.mem_singleton.mp z]; rfl) rfl (lam_free (sc := defScope t_Base_finish) rfl (by decide +kernel))) pa_nil)))
    (pss_cons (ps_expr (pe_dpop2 (pe_at (T.f_Base_own_firsts) (pv 0)) (pv 1) pe_non ⟨rfl, rfl, rfl, rfl⟩))
    (pss_one (ps_expr (pe_dpop2 (pe_at (T.f_Base_own_writers) (pv 0)) (pv 1) pe_non ⟨rfl, rfl, rfl, rfl⟩))))))), ?_⟩
  obtain ⟨b, S, l1, d, l2, st, ex, ey, ez, hS, hcs, rd, htab, q⟩ := h
  subst ex ey ez
  obtain ⟨dx, vc, e, e1⟩ := hS.ob
  obtain ⟨dl, el⟩ := hS.led.ob
  refine ⟨_, rfl, b, dx, _, _, rfl, e, rfl, S.l, dl, _, rfl, el, _, rfl, _, _, rfl, S.l, S.L, d.n, d.a, rfl, rfl, hS.led, act_kv hS.led rd.ac, rd.n1, rd.ru, ?_⟩
  refine ⟨_, rfl, b, dx, _, _, rfl, e, rfl, S.l, dl, _, rfl, el, _, rfl, _, rfl, _, _, _, rfl, S.l, S.L, l1, d, l2, st, rfl, rfl, rfl, hS.led, rd.ac, fun H1 c1 hl1 => ?_⟩
  have hl1' : LedAt K H1 S.l (S.L.fin l1 d l2 st) := hl1.dropD (L := S.L.setS (runP S.L d) st) rd.ac
  have sub : ∀ a ∈ [S.L.st], a ∈ S.L.fp S.l := fun a ha => by
    rw [List.mem_singleton.mp ha]
    simp [Led.fp]
  have hS1 : StoAt K H1 b { S with L := S.L.fin l1 d l2 st } := hS.setL c1 sub hl1' fun a ha => .inl (fin_fp rd.ac a ha)
  have c1' : Chg (S.fp b) H H1 := c1.mono fun a ha => fp_L (sub a ha)
  have t1 := tabs_keep htab c1'
  have fpsub : ∀ a ∈ Sto.fp b { S with L := S.L.fin l1 d l2 st }, a ∈ S.fp b := fun a ha => by
    rcases List.mem_append.mp ha with z | z
    · exact fp_own z
    · rcases List.mem_append.mp z with z | z
      · exact fp_L (fin_fp rd.ac a z)
      · exact fp_T z
  obtain ⟨dx1, vc1, f1, _⟩ := hS1.ob
  refine ⟨_, rfl, b, dx1, _, rfl, f1, ?_⟩
  refine ⟨t1, fun lf H2 ex2 t2 => ?_⟩
  have hS2 := ext_sto hS1 ex2
  have c2 : ChT (S.fp b) H1 H2 := ext_t ex2
  refine ⟨_, _, rfl, b, _, rfl, hS2, hcs, fun cu H3 c3 ncu hS3 => ?_⟩
  have c3' : Chg (S.fp b) H2 H3 := c3.mono fpsub
  have t3 := tabs_keep t2 c3'
  have ncu0 : ¬ NT (H cu) := fun z => by
    obtain ⟨o', h1, h2⟩ := c2.live _ (c1'.live _ z)
    rw [ncu] at h1
    cases h1
  obtain ⟨dx3, vc3, f3, _⟩ := hS3.ob
  refine ⟨_, rfl, b, dx3, _, _, rfl, f3, rfl, S.fi, rfl, .inl ⟨_, .inl hS3.fi⟩, _, rfl, _, .inl ((d.n : Nat) : Int), hS3.fi, rfl, nofun, fun _ => ?_⟩
  obtain ⟨ws, hw, wn, wk⟩ := hS3.wr
  refine ⟨_, rfl, b, dx3, _, _, rfl, f3, rfl, S.wr, rfl, .inl ⟨_, .inl hw⟩, _, rfl, _, .inl ((d.n : Nat) : Int), hw, rfl, fun _ _ => ?_, fun _ => ?_⟩
  · rw [drop_mark]
    have c4 : Chg (S.fp b) H3 (upd H3 S.wr (.dK (markK (ws.filter fun k => decide (k ≠ d.n))))) := Chg.upd hw (fp_own mem_wr)
    exact q cu _ (((c1'.t.trans c2).trans c3'.t).trans c4.t) ncu0 (tabs_keep t3 c4) (hS3.setWr (wn.filter _) fun k hk => wk k (List.mem_filter.mp hk).1)
  · exact q cu H3 ((c1'.t.trans c2).trans c3'.t) ncu0 t3 hS3
def Led.undo (L : Led) (d : Dl) (n : Nat) : Led := { L with states := setL (goneP L d n) .und L.states }
def Sto.undo (S : Sto) (d : Dl) (n : Nat) (cu : Addr) : Sto := { S with L := S.L.undo d n, cu := cu, cs := [] }
def sp_Base_undo (PU PF : Addr) (K : PySem.W.Frag) : Sp := s3 fun x y z H Q => ∃ b S l1 d l2 n, x = .ref b ∧ y = .int ((d.n : Nat) : Int) ∧ z = .int ((n : Nat) : Int) ∧ StoAt K H b S ∧ S.cs = [] ∧ RunD S.L l1 d l2 ∧ n ∈ d.parts.drop 1 ∧ S.L.states[n - 1]? = some .runs ∧ LamX.Tabs (TL PU PF) H ∧
  ∀ cu H', ChT (S.fp b) H H' → ¬ NT (H cu) → LamX.Tabs (TL PU PF) H' → StoAt K H' b (S.undo d n cu) → Q .non H'
theorem ok_Base_undo {P : Program} {w : World} {K : PySem.W.Frag} {mg : Str → Option Value} {base : Heap} (T : Tx K mg) {cU PU cF PF : Addr} (U : LamU K mg base cU PU cF PF) : Df P w K mg base (fAd K ("Base", some "undo")) 4 [] (sp_Base_undo PU PF K) := by
  obtain ⟨fd, F⟩ := fn_Base_undo T
  refine dfc3 F sc_Base_undo (fun _ _ _ _ _ _ us hl => match us, hl with | [_, _, _], _ => rfl) U.cdU fun self t part H Q h => ?_
  intro cdv hcd A outer s E hr
  have hu := hu_of hr
  refine ⟨_, (pss_cons (ps_expr (pe_mt (ok_Ledger_look_running T) (T.m_Ledger_look_running) (hr.mono (by decide)) (pe_at (T.f_Base_own_ledger) (pv 0)) (pa_cons (pv 1) pa_nil)))
    (pss_cons (ps_set (i := 3) (sc_Base_undo).nd rfl (.inr rfl) (pe_mt (ok_Ledger_undo T) (T.m_Ledger_undo) (hr.mono (by decide)) (pe_at (T.f_Base_own_ledger) (pv 0)) (pa_cons (pv 1) (pa_cons (pv 2) pa_nil))))
    (pss_one (ps_expr (pe_mt (ok_Base_close_where T) (T.m_Base_close_where) (hr.mono (by decide)) (pv 0) (pa_cons (pe_lam (T := TL PU PF) U.tbU hcd List.mem_cons_self (fun p hp e => by rcases List.mem_cons.mp hp with z | z; rw [z]; rfl; exact absurd (by rw [List.mem_singleton.mp z] at e; exact e.symm) U.ne) rfl (lam_free (sc := defScope t_Base_undo) rfl (by decide +kernel))) pa_nil)))))), ?_⟩
  obtain ⟨b, S, l1, d, l2, n, ex, ey, ez, hS, hcs, rd, hn, hrun, htab, q⟩ := h
  subst ex ey ez
  obtain ⟨dx, vc, e, e1⟩ := hS.ob
  obtain ⟨dl, el⟩ := hS.led.ob
  refine ⟨_, rfl, b, dx, _, _, rfl, e, rfl, S.l, dl, _, rfl, el, _, rfl, _, _, rfl, S.l, S.L, d.n, d.a, rfl, rfl, hS.led, act_kv hS.led rd.ac, rd.n1, rd.ru, ?_⟩
  refine ⟨_, rfl, b, dx, _, _, rfl, e, rfl, S.l, dl, _, rfl, el, _, rfl, _, rfl, _, _, _, rfl, S.l, S.L, l1, d, l2, n, rfl, rfl, rfl, hS.led, rd.ac, hn, hrun, fun r H1 c1 nr hr hl1 => ?_⟩
  have sub : ∀ a ∈ [S.L.st], a ∈ S.L.fp S.l := fun a ha => by
    rw [List.mem_singleton.mp ha]
    simp [Led.fp]
  have hS1 : StoAt K H1 b { S with L := S.L.undo d n } := hS.setL c1 sub hl1 fun a ha => .inl ha
  have c1' : Chg (S.fp b) H H1 := c1.mono fun a ha => fp_L (sub a ha)
  have t1 := tabs_keep htab c1'
  obtain ⟨dx1, vc1, f1, _⟩ := hS1.ob
  refine ⟨_, rfl, b, dx1, _, rfl, f1, ?_⟩
  refine ⟨t1, fun lf H2 ex2 t2 => ?_⟩
  have hS2 := ext_sto hS1 ex2
  have c2 : ChT (S.fp b) H1 H2 := ext_t ex2
  refine ⟨_, _, rfl, b, _, rfl, hS2, hcs, fun cu H3 c3 ncu hS3 => ?_⟩
  have c3' : Chg (S.fp b) H2 H3 := c3
  have t3 := tabs_keep t2 c3'
  have ncu0 : ¬ NT (H cu) := fun z => by
    obtain ⟨o', h1, h2⟩ := c2.live _ (c1'.live _ z)
    rw [ncu] at h1
    cases h1
  exact q cu H3 ((c1'.t.trans c2).trans c3'.t) ncu0 t3 hS3
def sp_Base_commit (PU PF : Addr) (s : Sta) (K : PySem.W.Frag) : Sp := s2 fun x y H Q => ∃ b S l1 d l2, x = .ref b ∧ y = .int ((d.n : Nat) : Int) ∧ StoAt K H b S ∧ S.cs = [] ∧ RunD S.L l1 d l2 ∧ LamX.Tabs (TL PU PF) H ∧
  ∀ cu H', ChT (S.fp b) H H' → ¬ NT (H cu) → LamX.Tabs (TL PU PF) H' → StoAt K H' b (S.fin l1 d l2 s cu) → Q .non H'
theorem ok_Base_commit {P : Program} {w : World} {K : PySem.W.Frag} {mg : Str → Option Value} {base : Heap} (T : Tx K mg) {cU PU cF PF : Addr} (U : LamU K mg base cU PU cF PF) : Df P w K mg base (fAd K ("Base", some "commit")) 5 [] (sp_Base_commit PU PF .com K) := by
  obtain ⟨fd, F⟩ := fn_Base_commit T
  refine df2 F sc_Base_commit (fun _ _ _ _ _ _ us hl => match us, hl with | [_, _], _ => rfl) fun self t H Q h => ?_
  intro cdv A outer s E hr
  have hu := hu_of hr
  refine ⟨_, (pss_one (ps_expr (pe_mt (ok_Base_finish T U) (T.m_Base_finish) (hr.mono (by decide)) (pv 0) (pa_cons (pv 1) (pa_cons (pe_gs rfl (T.g_COMMITTED)) pa_nil))))), ?_⟩
  obtain ⟨b, S, l1, d, l2, ex, ey, hS, hcs, rd, htab, q⟩ := h
  subst ex ey
  obtain ⟨dx, vc, e, e1⟩ := hS.ob
  exact ⟨_, rfl, b, dx, _, rfl, e, _, rfl, _, _, _, rfl, b, S, l1, d, l2, .com, rfl, rfl, rfl, hS, hcs, rd, htab, q⟩

theorem ok_Base_abort {P : Program} {w : World} {K : PySem.W.Frag} {mg : Str → Option Value} {base : Heap} (T : Tx K mg) {cU PU cF PF : Addr} (U : LamU K mg base cU PU cF PF) : Df P w K mg base (fAd K ("Base", some "abort")) 5 [] (sp_Base_commit PU PF .und K) := by
  obtain ⟨fd, F⟩ := fn_Base_abort T
  refine df2 F sc_Base_abort (fun _ _ _ _ _ _ us hl => match us, hl with | [_, _], _ => rfl) fun self t H Q h => ?_
  intro cdv A outer s E hr
  have hu := hu_of hr
  refine ⟨_, (pss_one (ps_expr (pe_mt (ok_Base_finish T U) (T.m_Base_finish) (hr.mono (by decide)) (pv 0) (pa_cons (pv 1) (pa_cons (pe_gs rfl (T.g_UNDONE)) pa_nil))))), ?_⟩
  obtain ⟨b, S, l1, d, l2, ex, ey, hS, hcs, rd, htab, q⟩ := h
  subst ex ey
  obtain ⟨dx, vc, e, e1⟩ := hS.ob
  exact ⟨_, rfl, b, dx, _, rfl, e, _, rfl, _, _, _, rfl, b, S, l1, d, l2, .und, rfl, rfl, rfl, hS, hcs, rd, htab, q⟩
end Rc


set_option Elab.async false
set_option linter.all false
set_option maxRecDepth 100000
set_option maxHeartbeats 1000000
/-! what can be seen, and what each step does to it (no program in sight) -/
namespace Rc
open PySem
abbrev Row := Int × PyData
def visU (U : Nat → Bool) (v : Ver) : Bool := !U v.mkr && (match v.en with
  | none => true
  | some (e, _) => U e)
def sv (f : Ver → Bool) : Slot → List Row
  | .row v => if f v = true then [(v.id, v.kd)] else []
  | _ => []
def pgv (f : Ver → Bool) (p : Page) : List Row := p.flatMap (sv f)
def vl (f : Ver → Bool) (ps : List Page) : List Row := ps.flatMap (pgv f)
def cellsN (x : Note) : Row := (x.2.2.1, x.2.2.2)
theorem range_get {α β : Type} (g : Option α → List β) : ∀ (xs : List α), (List.range xs.length).flatMap (fun i => g xs[i]?) = xs.flatMap fun x => g (some x)
  | [] => rfl
  | x :: xs => by
    rw [List.length_cons, List.range_succ_eq_map, List.flatMap_cons, List.flatMap_cons, List.flatMap_map]
    congr 1
    exact range_get g xs
theorem filterMap_flat {α β : Type} (f : α → Option β) : ∀ (xs : List α), xs.filterMap f = xs.flatMap fun x => (f x).toList
  | [] => rfl
  | x :: xs => by
    rw [List.flatMap_cons, ← filterMap_flat f xs]
    cases e : f x <;> simp [e]
theorem map_flat {α β γ : Type} (h : β → γ) (g : α → List β) : ∀ (xs : List α), (xs.flatMap g).map h = xs.flatMap fun x => (g x).map h
  | [] => rfl
  | x :: xs => by
    rw [List.flatMap_cons, List.flatMap_cons, List.map_append, map_flat h g xs]
theorem pg_cells (f : Ver → Bool) (a : Nat) (p : Page) : (pgVis f a p).map cellsN = pgv f p := by
  unfold pgVis
  rw [filterMap_flat, map_flat]
  have e : (fun x => ((visAt f a p x).toList).map cellsN) = fun i => (fun o : Option Slot => match o with
    | some s => sv f s
    | none => []) p[i]? := by
    funext i
    unfold visAt
    cases e : p[i]? with
    | none => rfl
    | some s =>
      cases s with
      | row v =>
        show (if f v = true then some (a, i, v.id, v.kd) else none).toList.map cellsN = if f v = true then [(v.id, v.kd)] else []
        split <;> rfl
      | un => rfl
      | dead => rfl
      | red n => rfl
  rw [e, range_get (fun o : Option Slot => match o with
    | some s => sv f s
    | none => [])]
  rfl
theorem all_cells (f : Ver → Bool) (ps : List Page) : (allVis ps f).map cellsN = vl f ps := by
  unfold allVis vl
  rw [map_flat]
  have e : (fun x => (pgVis f x (ps.getD x [])).map cellsN) = fun i => (fun o : Option Page => pgv f (o.getD [])) ps[i]? := by
    funext i
    rw [pg_cells, List.getD_eq_getElem?_getD]
  rw [e, range_get (fun o : Option Page => pgv f (o.getD []))]
  rfl
/-! ### a slot, a page is written -/
theorem flat_set {α β : Type} (g : α → List β) : ∀ {xs : List α} {n : Nat} {x y : α}, xs[n]? = some x → (g x ++ (xs.set n y).flatMap g).Perm (g y ++ xs.flatMap g)
  | [], _, _, _, h => by simp at h
  | z :: zs, 0, x, y, h => by
    simp at h
    subst h
    show (g z ++ (g y ++ zs.flatMap g)).Perm (g y ++ (g z ++ zs.flatMap g))
    rw [← List.append_assoc, ← List.append_assoc]
    exact List.perm_append_comm.append_right _
  | z :: zs, n + 1, x, y, h => by
    have ih := flat_set g (xs := zs) (n := n) (x := x) (y := y) (by simpa using h)
    show (g x ++ (g z ++ (zs.set n y).flatMap g)).Perm (g y ++ (g z ++ zs.flatMap g))
    have h1 : (g x ++ (g z ++ (zs.set n y).flatMap g)).Perm (g z ++ (g x ++ (zs.set n y).flatMap g)) := by
      rw [← List.append_assoc, ← List.append_assoc]
      exact List.perm_append_comm.append_right _
    have h2 : (g z ++ (g y ++ zs.flatMap g)).Perm (g y ++ (g z ++ zs.flatMap g)) := by
      rw [← List.append_assoc, ← List.append_assoc]
      exact List.perm_append_comm.append_right _
    exact (h1.trans (ih.append_left (g z))).trans h2
/-- the slot at (a, b): none where the page or the slot is new -/
def slotOf (ps : List Page) (a b : Nat) : Option Slot := (ps[a]?).bind fun p => p[b]?
def svO (f : Ver → Bool) : Option Slot → List Row
  | some s => sv f s
  | none => []
theorem setAt_pv (f : Ver → Bool) {p : Page} {n : Nat} (s : Slot) (h : n ≤ p.length) : (svO f p[n]? ++ pgv f (setAt p n s)).Perm (sv f s ++ pgv f p) := by
  by_cases hn : n < p.length
  · rw [setAt_lt s hn, List.getElem?_eq_getElem hn]
    exact flat_set (sv f) (List.getElem?_eq_getElem hn)
  · have e : n = p.length := by omega
    subst e
    have e1 : p[p.length]? = none := List.getElem?_eq_none (Nat.le_refl _)
    have e2 : setAt p p.length s = p ++ [s] := by
      unfold setAt
      rw [List.take_length, List.drop_of_length_le (by omega)]
    rw [e1, e2]
    show (pgv f (p ++ [s])).Perm _
    unfold pgv
    rw [List.flatMap_append, List.flatMap_singleton]
    exact List.perm_append_comm
theorem putPg_vl (f : Ver → Bool) {ps : List Page} {a b : Nat} (s : Slot) (ha : a ≤ ps.length) (hb : ∀ p, ps[a]? = some p → b ≤ p.length) (hb0 : a = ps.length → b = 0) : (svO f (slotOf ps a b) ++ vl f (putPg ps a b s)).Perm (sv f s ++ vl f ps) := by
  unfold putPg
  by_cases h : a = ps.length
  · rw [if_pos h]
    have e1 : slotOf ps a b = none := by
      unfold slotOf
      rw [h, List.getElem?_eq_none (Nat.le_refl _)]
      rfl
    rw [e1]
    have hb0 := hb0 h
    subst hb0
    show (vl f (ps ++ [[s]])).Perm _
    unfold vl
    rw [List.flatMap_append, List.flatMap_singleton]
    have e2 : pgv f [s] = sv f s := by
      unfold pgv
      rw [List.flatMap_singleton]
    rw [e2]
    exact List.perm_append_comm
  · rw [if_neg h]
    have lt : a < ps.length := by omega
    have hp : ps[a]? = some ps[a] := List.getElem?_eq_getElem lt
    have eg : ps.getD a [] = ps[a] := by
      rw [List.getD_eq_getElem?_getD, hp]
      rfl
    rw [eg]
    have h1 := flat_set (pgv f) (y := setAt ps[a] b s) hp
    have h2 := setAt_pv f s (hb _ hp)
    have e1 : slotOf ps a b = ps[a][b]? := by
      unfold slotOf
      rw [hp]
      rfl
    rw [e1]
    have h3 : (pgv f ps[a] ++ (svO f ps[a][b]? ++ vl f (ps.set a (setAt ps[a] b s)))).Perm (pgv f ps[a] ++ (sv f s ++ vl f ps)) := by
      have q1 : (pgv f ps[a] ++ (svO f ps[a][b]? ++ vl f (ps.set a (setAt ps[a] b s)))).Perm (svO f ps[a][b]? ++ (pgv f ps[a] ++ vl f (ps.set a (setAt ps[a] b s)))) := by
        rw [← List.append_assoc, ← List.append_assoc]
        exact List.perm_append_comm.append_right _
      have q2 : (svO f ps[a][b]? ++ (pgv f ps[a] ++ vl f (ps.set a (setAt ps[a] b s)))).Perm (svO f ps[a][b]? ++ (pgv f (setAt ps[a] b s) ++ vl f ps)) := h1.append_left _
      have q3 : (svO f ps[a][b]? ++ (pgv f (setAt ps[a] b s) ++ vl f ps)).Perm ((sv f s ++ pgv f ps[a]) ++ vl f ps) := by
        rw [← List.append_assoc]
        exact h2.append_right _
      have q4 : ((sv f s ++ pgv f ps[a]) ++ vl f ps).Perm (pgv f ps[a] ++ (sv f s ++ vl f ps)) := by
        rw [← List.append_assoc]
        exact List.perm_append_comm.append_right _
      exact ((q1.trans q2).trans q3).trans q4
    exact (List.perm_append_left_iff _).mp h3
/-! ### pruned, freed -/
theorem flat_pt {α β : Type} (g : α → List β) : ∀ {p q : List α}, q.length = p.length → (∀ (i : Nat) (s : α), p[i]? = some s → ∃ s' : α, q[i]? = some s' ∧ g s' = g s) → q.flatMap g = p.flatMap g
  | [], [], _, _ => rfl
  | [], _ :: _, h, _ => by cases h
  | _ :: _, [], h, _ => by cases h
  | s :: p, t :: q, h, hi => by
    obtain ⟨s', h1, h2⟩ := hi 0 s rfl
    have e : t = s' := by simpa using h1
    rw [List.flatMap_cons, List.flatMap_cons, e, h2]
    congr 1
    exact flat_pt g (by simpa using h) fun i s hs => by
      obtain ⟨s', h1, h2⟩ := hi (i + 1) s (by simpa using hs)
      exact ⟨s', by simpa using h1, h2⟩
theorem sv_norow {f : Ver → Bool} {s : Slot} (h : s.isRow = false) : sv f s = [] := by
  cases s with
  | row v => cases h
  | un => rfl
  | dead => rfl
  | red n => rfl
theorem PrS.pgv {us ss : List Nat} {p q : Page} (h : PrS us ss p q) {f : Ver → Bool} (hf : ∀ v, Slot.row v ∈ p → deadV us ss v = true → f v = false) : Rc.pgv f q = Rc.pgv f p := by
  refine flat_pt _ h.ln fun i s hs => ?_
  obtain ⟨s', h1, h2⟩ := h.at_ i s hs
  refine ⟨s', h1, ?_⟩
  rcases h2 with h2 | ⟨h2, h3⟩
  · rw [h2]
  · rw [sv_norow h3]
    cases s with
    | row v =>
      show [] = if f v = true then [(v.id, v.kd)] else []
      rw [hf v (List.mem_of_getElem? hs) h2]
      rfl
    | un => rfl
    | dead => rfl
    | red n => rfl
theorem PrF.pgv {p q : Page} (h : PrF p q) (f : Ver → Bool) : Rc.pgv f q = Rc.pgv f p := by
  refine flat_pt _ h.ln fun i s hs => ?_
  obtain ⟨s', h1, h2⟩ := h.at_ i s hs
  refine ⟨s', h1, ?_⟩
  rcases h2 with h2 | ⟨h2, h3⟩
  · rw [h2]
  · rw [h2, h3]
    rfl
theorem set_vl {f : Ver → Bool} : ∀ {ps : List Page} {n : Nat} {p q : Page}, ps[n]? = some p → pgv f q = pgv f p → vl f (ps.set n q) = vl f ps
  | [], _, _, _, h, _ => by simp at h
  | r :: rs, 0, p, q, h, e => by
    simp at h
    subst h
    show pgv f q ++ vl f rs = pgv f r ++ vl f rs
    rw [e]
  | r :: rs, n + 1, p, q, h, e => by
    show pgv f r ++ vl f (rs.set n q) = pgv f r ++ vl f rs
    rw [set_vl (by simpa using h) e]
/-! ### how many slots are used -/
def usedT (ps : List Page) : Nat := (ps.map usedN).sum
theorem usedN_eq (p : Page) : usedN p = (p.flatMap fun s => if s.isUn = true then [] else [()]).length := by
  unfold usedN
  induction p with
  | nil => rfl
  | cons s p ih =>
    rw [List.countP_cons, List.flatMap_cons, List.length_append, ih]
    cases s.isUn <;> simp <;> omega
theorem sum_set : ∀ {ps : List Page} {n : Nat} {p q : Page}, ps[n]? = some p → usedT (ps.set n q) + usedN p = usedT ps + usedN q
  | [], _, _, _, h => by simp at h
  | r :: rs, 0, p, q, h => by
    simp at h
    subst h
    show (usedN q + usedT rs) + usedN r = (usedN r + usedT rs) + usedN q
    omega
  | r :: rs, n + 1, p, q, h => by
    have := sum_set (ps := rs) (n := n) (q := q) (by simpa using h)
    show (usedN r + usedT (rs.set n q)) + usedN p = (usedN r + usedT rs) + usedN q
    omega
theorem le_used : ∀ {ps : List Page}, (∀ p ∈ ps, 3 ≤ usedN p) → 3 * ps.length ≤ usedT ps
  | [], _ => Nat.zero_le _
  | p :: ps, h => by
    have h1 := h p List.mem_cons_self
    have h2 := le_used (ps := ps) fun q hq => h q (List.mem_cons_of_mem _ hq)
    show 3 * (ps.length + 1) ≤ usedN p + usedT ps
    omega
theorem used_pt : ∀ {p q : Page}, q.length = p.length → (∀ (i : Nat) (s : Slot), p[i]? = some s → ∃ s' : Slot, q[i]? = some s' ∧ (s.isUn = true → s'.isUn = true)) → usedN q ≤ usedN p
  | [], [], _, _ => Nat.le_refl _
  | [], _ :: _, h, _ => by cases h
  | _ :: _, [], h, _ => by cases h
  | s :: p, t :: q, h, hi => by
    have ih := used_pt (p := p) (q := q) (by simpa using h) fun i s hs => by
      obtain ⟨s', h1, h2⟩ := hi (i + 1) s (by simpa using hs)
      exact ⟨s', by simpa using h1, h2⟩
    obtain ⟨s', h1, h2⟩ := hi 0 s rfl
    have e : t = s' := by simpa using h1
    subst e
    unfold usedN at ih ⊢
    rw [List.countP_cons, List.countP_cons]
    cases es : s.isUn with
    | true =>
      rw [h2 es]
      simp
      omega
    | false => cases t.isUn <;> simp <;> omega
theorem PrS.used {us ss : List Nat} {p q : Page} (h : PrS us ss p q) : usedN q ≤ usedN p := used_pt h.ln fun i s hs => by
  obtain ⟨s', h1, h2⟩ := h.at_ i s hs
  refine ⟨s', h1, fun hu => ?_⟩
  rcases h2 with h2 | ⟨h2, _⟩
  · rw [h2]
    exact hu
  · cases s with
    | un => cases h2
    | dead => cases hu
    | red n => cases hu
    | row v => cases hu
theorem PrF.used {p q : Page} (h : PrF p q) : usedN q ≤ usedN p := used_pt h.ln fun i s hs => by
  obtain ⟨s', h1, h2⟩ := h.at_ i s hs
  refine ⟨s', h1, fun hu => ?_⟩
  rcases h2 with h2 | ⟨h2, h3⟩
  · rw [h2]
    exact hu
  · rw [h3]
    rfl
theorem setAt_used {p : Page} {n : Nat} (s : Slot) (h : n ≤ p.length) : usedN (setAt p n s) ≤ usedN p + 1 := by
  unfold setAt usedN
  rw [List.countP_append, List.countP_cons]
  have e : p.countP (fun s => !s.isUn) = (p.take n).countP (fun s => !s.isUn) + (p.drop n).countP (fun s => !s.isUn) := by
    rw [← List.countP_append, List.take_append_drop]
  have e2 : (p.drop (n + 1)).countP (fun s => !s.isUn) ≤ (p.drop n).countP (fun s => !s.isUn) := by
    have : p.drop (n + 1) = (p.drop n).drop 1 := by rw [List.drop_drop]
    rw [this]
    exact (List.drop_sublist 1 _).countP_le
  split <;> omega
/-- at most so many writes; the pages that they took -/
structure PgB (ps : List Page) (w : Nat) : Prop where
  us : usedT ps ≤ w
  ln : 3 * ps.length ≤ w + 3
end Rc

set_option Elab.async false
set_option linter.all false
set_option maxRecDepth 100000
set_option maxHeartbeats 1000000
/-! the record that the store shows, step by step (no program in sight) -/
namespace Rc
open PySem
def undB (L : Led) (m : Nat) : Bool := decide (m ∈ withS L.states .und)
/-- what is seen once all numbers from q on are undone -/
def fU (U : Nat → Bool) (q : Nat) (v : Ver) : Bool := visU (fun m => U m || decide (q ≤ m)) v
def Rep (U : Nat → Bool) (ps : List Page) (q : Nat) (M : List Row) : Prop := (vl (fU U q) ps).Perm M
def RowsAll (Pn : Nat → Nat → Prop) (ps : List Page) : Prop := ∀ p ∈ ps, ∀ v, Slot.row v ∈ p → Pn v.mkr v.mde ∧ ∀ e c, v.en = some (e, c) → Pn e c
theorem RowsAll.mono {A B : Nat → Nat → Prop} {ps : List Page} (h : RowsAll A ps) (w : ∀ m c, A m c → B m c) : RowsAll B ps := fun p hp v hv => ⟨w _ _ (h p hp v hv).1, fun e c he => w _ _ ((h p hp v hv).2 e c he)⟩
theorem pv_congr {f g : Ver → Bool} {p : Page} (h : ∀ v, Slot.row v ∈ p → f v = g v) : pgv f p = pgv g p := by
  unfold pgv
  induction p with
  | nil => rfl
  | cons s p ih =>
    rw [List.flatMap_cons, List.flatMap_cons, ih fun v hv => h v (List.mem_cons_of_mem _ hv)]
    congr 1
    cases s with
    | row v =>
      show (if f v = true then _ else _) = if g v = true then _ else _
      rw [h v List.mem_cons_self]
    | un => rfl
    | dead => rfl
    | red n => rfl
theorem vl_congr {f g : Ver → Bool} : ∀ {ps : List Page}, (∀ p ∈ ps, ∀ v, Slot.row v ∈ p → f v = g v) → vl f ps = vl g ps
  | [], _ => rfl
  | p :: ps, h => by
    show pgv f p ++ vl f ps = pgv g p ++ vl g ps
    rw [pv_congr (h p List.mem_cons_self), vl_congr fun q hq => h q (List.mem_cons_of_mem _ hq)]
theorem visU_congr {U W : Nat → Bool} {v : Ver} (h1 : U v.mkr = W v.mkr) (h2 : ∀ e c, v.en = some (e, c) → U e = W e) : visU U v = visU W v := by
  unfold visU
  rw [h1]
  cases e : v.en with
  | none => rfl
  | some ec =>
    obtain ⟨en, c⟩ := ec
    show (!W v.mkr && U en) = (!W v.mkr && W en)
    rw [h2 en c e]
theorem Rep.congr {U W : Nat → Bool} {ps : List Page} {q r : Nat} {M : List Row} {Pn : Nat → Nat → Prop} (h : Rep U ps q M) (ro : RowsAll Pn ps) (e : ∀ m c, Pn m c → (W m || decide (r ≤ m)) = (U m || decide (q ≤ m))) : Rep W ps r M := by
  unfold Rep at h ⊢
  rw [vl_congr (f := fU W r) (g := fU U q) fun p hp v hv => visU_congr (e _ _ (ro p hp v hv).1) fun en c he => e _ _ ((ro p hp v hv).2 en c he)]
  exact h
/-! ### the rows after a write -/
theorem mem_setAt {p : Page} {n : Nat} {s t : Slot} (h : t ∈ setAt p n s) : t = s ∨ t ∈ p := by
  unfold setAt at h
  rcases List.mem_append.mp h with z | z
  · exact .inr (List.mem_of_mem_take z)
  · rcases List.mem_cons.mp z with z | z
    · exact .inl z
    · exact .inr (List.mem_of_mem_drop z)
theorem mem_putPg {ps : List Page} {a b : Nat} {s t : Slot} {p : Page} (hp : p ∈ putPg ps a b s) (h : t ∈ p) : t = s ∨ ∃ q ∈ ps, t ∈ q := by
  unfold putPg at hp
  split at hp
  · rcases List.mem_append.mp hp with z | z
    · exact .inr ⟨p, z, h⟩
    · rw [List.mem_singleton.mp z] at h
      rcases mem_setAt h with y | y
      · exact .inl y
      · cases y
  · rcases List.mem_or_eq_of_mem_set hp with z | z
    · exact .inr ⟨p, z, h⟩
    · rw [z] at h
      rcases mem_setAt h with y | y
      · exact .inl y
      · rename_i hne
        by_cases lt : a < ps.length
        · rw [List.getD_eq_getElem?_getD, List.getElem?_eq_getElem lt] at y
          exact .inr ⟨_, List.getElem_mem lt, y⟩
        · rw [List.getD_eq_getElem?_getD, List.getElem?_eq_none (by omega)] at y
          cases y
theorem RowsAll.put {Pn : Nat → Nat → Prop} {ps : List Page} (h : RowsAll Pn ps) {a b : Nat} {s : Slot} (hs : ∀ v, s = .row v → Pn v.mkr v.mde ∧ ∀ e c, v.en = some (e, c) → Pn e c) : RowsAll Pn (putPg ps a b s) := fun p hp v hv => by
  rcases mem_putPg hp hv with z | ⟨q, hq, z⟩
  · exact hs v z.symm
  · exact h q hq v z
theorem RowsAll.setPg {Pn : Nat → Nat → Prop} {ps : List Page} (h : RowsAll Pn ps) {n : Nat} {p q : Page} (hp : ps[n]? = some p) (hq : ∀ v, Slot.row v ∈ q → Slot.row v ∈ p) : RowsAll Pn (ps.set n q) := fun r hr v hv => by
  rcases List.mem_or_eq_of_mem_set hr with z | z
  · exact h r z v hv
  · rw [z] at hv
    exact h p (List.mem_of_getElem? hp) v (hq v hv)
theorem PrS.rows {us ss : List Nat} {p q : Page} (h : PrS us ss p q) {v : Ver} (hv : Slot.row v ∈ q) : Slot.row v ∈ p := by
  obtain ⟨i, hi, e⟩ := List.mem_iff_getElem.mp hv
  have hl : i < p.length := by rw [← h.ln]; exact hi
  obtain ⟨s', h1, h2⟩ := h.at_ i _ (List.getElem?_eq_getElem hl)
  rw [List.getElem?_eq_getElem hi, e] at h1
  cases h1
  rcases h2 with h2 | h2
  · rw [h2]
    exact List.getElem_mem hl
  · cases h2.2
theorem PrF.rows {p q : Page} (h : PrF p q) {v : Ver} (hv : Slot.row v ∈ q) : Slot.row v ∈ p := by
  obtain ⟨i, hi, e⟩ := List.mem_iff_getElem.mp hv
  have hl : i < p.length := by rw [← h.ln]; exact hi
  obtain ⟨s', h1, h2⟩ := h.at_ i _ (List.getElem?_eq_getElem hl)
  rw [List.getElem?_eq_getElem hi, e] at h1
  cases h1
  rcases h2 with h2 | h2
  · rw [h2]
    exact List.getElem_mem hl
  · cases h2.2
/-! ### pages: how many -/
theorem putPg_used {ps : List Page} {a b : Nat} (s : Slot) (hb : ∀ p, ps[a]? = some p → b ≤ p.length) : usedT (putPg ps a b s) ≤ usedT ps + 1 := by
  unfold putPg
  split
  · unfold usedT
    rw [List.map_append, List.sum_append]
    have : usedN (setAt [] b s) ≤ 1 := by
      have := setAt_used (p := []) (n := 0) s (Nat.zero_le _)
      have e : setAt [] b s = setAt [] 0 s := by unfold setAt; simp
      rw [e]
      exact this
    simp
    omega
  · by_cases lt : a < ps.length
    · have hp : ps[a]? = some ps[a] := List.getElem?_eq_getElem lt
      have eg : ps.getD a [] = ps[a] := by
        rw [List.getD_eq_getElem?_getD, hp]
        rfl
      rw [eg]
      have h1 := sum_set (q := setAt ps[a] b s) hp
      have h2 := setAt_used s (hb _ hp)
      omega
    · rw [List.set_eq_of_length_le (by omega)]
      omega
theorem okat_bnd {ps : List Page} {n s : Nat} (h : OkAt ps n s) : n ≤ ps.length ∧ (∀ p, ps[n]? = some p → s ≤ p.length) ∧ (n = ps.length → s = 0) := by
  rcases h with ⟨p, hp, hf, _⟩ | ⟨h1, h2, _⟩
  · have hl := (List.getElem?_eq_some_iff.mp hp).1
    refine ⟨Nat.le_of_lt hl, fun q hq => ?_, fun z => by omega⟩
    rw [hp] at hq
    cases hq
    rcases hf with hf | ⟨hf, _⟩
    · exact Nat.le_of_lt (List.getElem?_eq_some_iff.mp hf).1
    · omega
  · refine ⟨by omega, fun p hp => by omega, fun _ => h2⟩
/-- ps2: the pages in which it is put; ps: the pages that were asked for a place, at most so much in use -/
theorem PgB.put {ps ps2 : List Page} {w n s : Nat} {t : Slot} (h : PgB ps2 w) (ho : OkAt ps n s) (e : ps.length = ps2.length) (hu : usedT ps ≤ w) (hb : ∀ p, ps2[n]? = some p → s ≤ p.length) : PgB (putPg ps2 n s t) (w + 1) := by
  have h1 := putPg_used t hb
  have h2 := h.us
  have h3 := h.ln
  refine ⟨by omega, ?_⟩
  unfold putPg
  split
  · rename_i hn
    rw [List.length_append, List.length_singleton]
    rcases ho with ⟨p, hp, _⟩ | ⟨_, _, hall⟩
    · have := (List.getElem?_eq_some_iff.mp hp).1
      omega
    · have := le_used hall
      omega
  · rw [List.length_set]
    omega
theorem PgB.set {ps : List Page} {w n : Nat} {p q : Page} (h : PgB ps w) (hp : ps[n]? = some p) (hu : usedN q ≤ usedN p) : PgB (ps.set n q) w := by
  have h1 := sum_set (q := q) hp
  have h2 := h.us
  exact ⟨by omega, by rw [List.length_set]; exact h.ln⟩
theorem PgB.mono {ps : List Page} {w w' : Nat} (h : PgB ps w) (l : w ≤ w') : PgB ps w' := ⟨Nat.le_trans h.us l, by have := h.ln; omega⟩
/-! ### what is seen after a write -/
theorem dead_f {L : Led} {ss : List Nat} {v : Ver} {q : Nat} (h : deadV (withS L.states .und) ss v = true) (hss : ∀ s ∈ ss, s ∈ withS L.states .com) (hq : ∀ m ∈ withS L.states .com, m < q) : fU (undB L) q v = false := by
  unfold deadV at h
  unfold fU visU
  rcases Bool.or_eq_true_iff.mp h with z | z
  · have : undB L v.mkr = true := z
    show (!(undB L v.mkr || decide (q ≤ v.mkr)) && _) = false
    rw [this]
    rfl
  · cases e : v.en with
    | none => rw [e] at z; cases z
    | some ec =>
      obtain ⟨en, c⟩ := ec
      rw [e] at z
      have hm := hss en (of_decide_eq_true z)
      have h1 := (mem_withS.mp hm).2
      have h2 : undB L en = false := decide_eq_false fun y => by
        have := (mem_withS.mp y).2
        rw [h1] at this
        cases this
      have h3 : decide (q ≤ en) = false := decide_eq_false (by have := hq en hm; omega)
      show (_ && (undB L en || decide (q ≤ en))) = false
      rw [h2, h3]
      simp
theorem rep_prune {L : Led} {ps : List Page} {ss : List Nat} {p q : Page} {n r : Nat} {M : List Row} (hp : ps[n]? = some p) (h : PrS (withS L.states .und) ss p q) (hss : ∀ s ∈ ss, s ∈ withS L.states .com) (hq : ∀ m ∈ withS L.states .com, m < r) (hr : Rep (undB L) ps r M) : Rep (undB L) (ps.set n q) r M := by
  unfold Rep at hr ⊢
  rw [set_vl hp (h.pgv fun v _ hd => dead_f hd hss hq)]
  exact hr
theorem rep_free {U : Nat → Bool} {ps : List Page} {p q : Page} {n r : Nat} {M : List Row} (hp : ps[n]? = some p) (h : PrF p q) (hr : Rep U ps r M) : Rep U (ps.set n q) r M := by
  unfold Rep at hr ⊢
  rw [set_vl hp (h.pgv _)]
  exact hr
/-- a row is put where nothing is seen -/
theorem rep_put {U : Nat → Bool} {ps : List Page} {a b r : Nat} {v : Ver} {M : List Row} (hr : Rep U ps r M) (ha : a ≤ ps.length) (hb : ∀ p, ps[a]? = some p → b ≤ p.length) (hb0 : a = ps.length → b = 0) (hs : svO (fU U r) (slotOf ps a b) = []) :
    Rep U (putPg ps a b (.row v)) r (if fU U r v = true then (v.id, v.kd) :: M else M) := by
  have h := putPg_vl (fU U r) (.row v) ha hb hb0
  rw [hs] at h
  unfold Rep at hr ⊢
  have h : (vl (fU U r) (putPg ps a b (.row v))).Perm ((if fU U r v = true then [(v.id, v.kd)] else []) ++ vl (fU U r) ps) := h
  split
  · rename_i hc
    rw [if_pos hc] at h
    exact h.trans (hr.cons _)
  · rename_i hc
    rw [if_neg hc] at h
    exact h.trans hr
theorem okat_slot {ps : List Page} {n s : Nat} (h : OkAt ps n s) : slotOf ps n s = none ∨ slotOf ps n s = some .un := by
  unfold slotOf
  rcases h with ⟨p, hp, hf, _⟩ | ⟨h1, _, _⟩
  · rw [hp]
    rcases hf with hf | ⟨hf, _⟩
    · exact .inr hf
    · exact .inl (by rw [hf]; exact List.getElem?_eq_none (Nat.le_refl _))
  · rw [h1, List.getElem?_eq_none (Nat.le_refl _)]
    exact .inl rfl
/-- a row is written over another of the same cells -/
theorem rep_over {U : Nat → Bool} {ps : List Page} {a b r : Nat} {v v' : Ver} {p : Page} {M : List Row} (hr : Rep U ps r M) (hp : ps[a]? = some p) (hv : p[b]? = some (.row v)) (hi : v'.id = v.id) (hk : v'.kd = v.kd) :
    (fU U r v' = fU U r v → Rep U (putPg ps a b (.row v')) r M) ∧ (fU U r v = true → fU U r v' = false → (((v.id, v.kd) :: vl (fU U r) (putPg ps a b (.row v'))).Perm M)) := by
  have al := (List.getElem?_eq_some_iff.mp hp).1
  have bl := (List.getElem?_eq_some_iff.mp hv).1
  have h := putPg_vl (fU U r) (ps := ps) (a := a) (b := b) (.row v') (Nat.le_of_lt al) (fun q hq => by rw [hp] at hq; cases hq; exact Nat.le_of_lt bl) (fun z => by omega)
  have es : slotOf ps a b = some (.row v) := by
    unfold slotOf
    rw [hp]
    exact hv
  rw [es] at h
  have h : ((if fU U r v = true then [(v.id, v.kd)] else []) ++ vl (fU U r) (putPg ps a b (.row v'))).Perm ((if fU U r v' = true then [(v'.id, v'.kd)] else []) ++ vl (fU U r) ps) := h
  rw [hi, hk] at h
  refine ⟨fun e => ?_, fun e1 e2 => ?_⟩
  · rw [e] at h
    exact ((List.perm_append_left_iff _).mp h).trans hr
  · rw [e1, e2] at h
    exact h.trans hr
end Rc

set_option Elab.async false
set_option linter.all false
set_option maxRecDepth 100000
set_option maxHeartbeats 1000000
/-! a store within a session -/
namespace Rc
open PySem
def NumOk (n : Nat) (d : Dl) (m c : Nat) : Prop := 1 ≤ m ∧ m ≤ n ∧ (m ∈ d.parts → c < d.cmd)
structure Ses (S : Sto) (d : Dl) (w : Nat) : Prop where
  ac : S.L.act = [d]
  kl : KL S.L
  ra : RA S.L
  sl : S.L.owners.length = S.L.states.length
  n1 : 1 ≤ d.n
  nl : d.n ≤ S.L.owners.length
  ru : S.L.states[d.n - 1]? = some .runs
  all : d.parts = List.range' d.n (S.L.owners.length + 1 - d.n)
  cm : ∀ m ∈ withS S.L.states .com, m < d.n
  ro : RowsAll (NumOk S.L.owners.length d) S.T.pages
  pb : PgB S.T.pages w
  cs : S.cs = []
  va : S.vac = .non
/-- the last number runs: it is the one that writes -/
abbrev Top (S : Sto) : Prop := S.L.states[S.L.owners.length - 1]? = some .runs
section
variable {S : Sto} {d : Dl} {w : Nat}
theorem Ses.rd (h : Ses S d w) : RunD S.L [] d [] := ⟨h.ac, h.n1, h.ru⟩
theorem Ses.mem (h : Ses S d w) {m : Nat} : m ∈ d.parts ↔ d.n ≤ m ∧ m ≤ S.L.owners.length := by
  rw [h.all, List.mem_range']
  have := h.nl
  constructor
  · rintro ⟨i, hi, rfl⟩
    omega
  · rintro ⟨h1, h2⟩
    exact ⟨m - d.n, by omega, by omega⟩
theorem Ses.last (h : Ses S d w) (t : Top S) : (runP S.L d).getLast? = some S.L.owners.length := by
  unfold runP
  have hn := h.nl
  have e : S.L.owners.length + 1 - d.n = (S.L.owners.length - d.n) + 1 := by omega
  rw [h.all, e, List.range'_concat, List.filter_append]
  have e2 : d.n + 1 * (S.L.owners.length - d.n) = S.L.owners.length := by omega
  rw [e2]
  have e3 : ([S.L.owners.length].filter fun p => decide (S.L.states[p - 1]? = some .runs)) = [S.L.owners.length] := by
    rw [List.filter_cons, if_pos (decide_eq_true t)]
    rfl
  rw [e3, List.getLast?_append]
  rfl
theorem Ses.topU (h : Ses S d w) (t : Top S) : undB S.L S.L.owners.length = false := decide_eq_false fun z => by
  have := (mem_withS.mp z).2
  rw [t] at this
  cases this
theorem hi_f (h : Ses S d w) {v : Ver} {p : Page} (hp : p ∈ S.T.pages) (hv : Slot.row v ∈ p) : fU (undB S.L) (S.L.owners.length + 1) v = visU (undB S.L) v := by
  obtain ⟨h1, h2⟩ := h.ro p hp v hv
  refine visU_congr ?_ fun e c he => ?_
  · have := h1.2.1
    rw [decide_eq_false (by omega), Bool.or_false]
  · have := (h2 e c he).2.1
    rw [decide_eq_false (by omega), Bool.or_false]
theorem RsOk.nil (h : Ses S d w) {rs : List Nat} (hr : RsOk S d rs) : ∀ m, m ∉ rs := fun m hm => by
  obtain ⟨d2, h1, h2, _⟩ := hr m hm
  rw [h.ac] at h1
  exact h2 (by rw [List.mem_singleton.mp h1])
/-- what a scan sees is what is not undone -/
theorem sees_vis (h : Ses S d w) {rs : List Nat} (hr : RsOk S d rs) {v : Ver} {p : Page} (hp : p ∈ S.T.pages) (hv : Slot.row v ∈ p) : seesB (snNow S rs d) (withS S.L.states .und) v = visU (undB S.L) v := by
  have nr := RsOk.nil h hr
  obtain ⟨h1, h2⟩ := h.ro p hp v hv
  have cnt : ∀ m c, NumOk S.L.owners.length d m c → countsB (snNow S rs d) m c (withS S.L.states .und) = !undB S.L m := fun m c hm => by
    unfold countsB undB
    by_cases hu : m ∈ withS S.L.states .und
    · rw [if_pos hu, decide_eq_true hu]
      rfl
    · rw [if_neg hu, decide_eq_false hu]
      show (if m ∈ d.parts then decide (c < d.cmd) else decide (m < S.L.owners.length + 1) && !decide (m ∈ rs)) = true
      by_cases ho : m ∈ d.parts
      · rw [if_pos ho]
        exact decide_eq_true (hm.2.2 ho)
      · rw [if_neg ho, decide_eq_true (by have := hm.2.1; omega), decide_eq_false (nr m)]
        rfl
  unfold seesB visU
  rw [cnt _ _ h1]
  cases e : v.en with
  | none => rfl
  | some ec =>
    obtain ⟨en, c⟩ := ec
    show (!undB S.L v.mkr && !countsB (snNow S rs d) en c (withS S.L.states .und)) = (!undB S.L v.mkr && undB S.L en)
    rw [cnt _ _ (h2 en c e), Bool.not_not]
theorem vis_en {v : Ver} (h : visU (undB S.L) v = true) : v.mkr ∉ withS S.L.states .und ∧ EnOk S.L v := by
  unfold visU at h
  rw [Bool.and_eq_true] at h
  refine ⟨fun z => ?_, ?_⟩
  · have : undB S.L v.mkr = true := decide_eq_true z
    rw [this] at h
    cases h.1
  · cases e : v.en with
    | none => exact .inl e
    | some ec =>
      obtain ⟨en, c⟩ := ec
      rw [e] at h
      obtain ⟨h1, h2⟩ := mem_withS.mp (of_decide_eq_true h.2)
      exact .inr ⟨en, c, e, h1, h2⟩
/-- one more command, other pages -/
theorem Ses.wrote (h : Ses S d w) {ps : List Page} (ro : RowsAll (NumOk S.L.owners.length { d with cmd := d.cmd + 1 }) ps) (pb : PgB ps (w + 1)) : Ses (S.wrote [] d [] ps) { d with cmd := d.cmd + 1 } (w + 1) := by
  refine ⟨rfl, h.kl, fun q hq hs => ?_, h.sl, h.n1, h.nl, h.ru, h.all, h.cm, ro, pb, h.cs, h.va⟩
  obtain ⟨d2, h1, h2⟩ := h.ra q hq hs
  rw [h.ac] at h1
  exact ⟨{ d with cmd := d.cmd + 1 }, by simp [Sto.wrote, stepD, Led.withD], by rw [← h2, List.mem_singleton.mp h1]⟩
theorem numS {n : Nat} {m c : Nat} (h : NumOk n d m c) : NumOk n { d with cmd := d.cmd + 1 } m c := ⟨h.1, h.2.1, fun hm => Nat.lt_succ_of_lt (h.2.2 hm)⟩
theorem numNow (h : Ses S d w) : NumOk S.L.owners.length { d with cmd := d.cmd + 1 } S.L.owners.length d.cmd := ⟨Nat.le_trans h.n1 h.nl, Nat.le_refl _, fun _ => Nat.lt_succ_self _⟩
theorem new_lo {U : Nat → Bool} {n q c : Nat} {b : Bool} {id : Int} {kd : PyData} (hq : q ≤ n) : fU U q ⟨n, c, none, none, b, id, kd⟩ = false := by
  unfold fU visU
  show (!(U n || decide (q ≤ n)) && true) = false
  rw [decide_eq_true hq, Bool.or_true]
  rfl
theorem new_hi {U : Nat → Bool} {n c : Nat} {b : Bool} {id : Int} {kd : PyData} (hU : U n = false) : fU U (n + 1) ⟨n, c, none, none, b, id, kd⟩ = true := by
  unfold fU visU
  show (!(U n || decide (n + 1 ≤ n)) && true) = true
  rw [hU, (decide_eq_false (Nat.not_succ_le_self n) : decide (n + 1 ≤ n) = false)]
  rfl
theorem end_lo {U : Nat → Bool} {n q c : Nat} {nx : Option (Nat × Nat)} {v : Ver} (hq : q ≤ n) (he : ∀ e c, v.en = some (e, c) → U e = true) : fU U q (endV v n c nx) = fU U q v := by
  unfold fU visU endV
  show (!(U v.mkr || decide (q ≤ v.mkr)) && (U n || decide (q ≤ n))) = _
  rw [decide_eq_true hq, Bool.or_true, Bool.and_true]
  cases e : v.en with
  | none => exact (Bool.and_true _).symm
  | some ec =>
    obtain ⟨en, c⟩ := ec
    show _ = (_ && (U en || decide (q ≤ en)))
    rw [he en c e, Bool.true_or, Bool.and_true]
theorem end_hi {U : Nat → Bool} {n c : Nat} {nx : Option (Nat × Nat)} {v : Ver} (hU : U n = false) : fU U (n + 1) (endV v n c nx) = false := by
  unfold fU visU endV
  show (!(U v.mkr || decide (n + 1 ≤ v.mkr)) && (U n || decide (n + 1 ≤ n))) = false
  rw [hU, (decide_eq_false (Nat.not_succ_le_self n) : decide (n + 1 ≤ n) = false), Bool.or_self, Bool.and_false]
theorem svO_un {f : Ver → Bool} {ps : List Page} {n s : Nat} (h : OkAt ps n s) : svO f (slotOf ps n s) = [] := by
  rcases okat_slot h with z | z <;> rw [z] <;> rfl
/-- put -/
theorem put_step (h : Ses S d w) (t : Top S) {n s : Nat} {id : Int} {kd : PyData} (ho : OkAt S.T.pages n s) :
    Ses (S.wrote [] d [] (putPg S.T.pages n s (newV S.L.owners.length d.cmd false id kd))) { d with cmd := d.cmd + 1 } (w + 1) ∧
    (∀ q M, q ≤ S.L.owners.length → Rep (undB S.L) S.T.pages q M → Rep (undB S.L) (putPg S.T.pages n s (newV S.L.owners.length d.cmd false id kd)) q M) ∧
    (∀ M, Rep (undB S.L) S.T.pages (S.L.owners.length + 1) M → Rep (undB S.L) (putPg S.T.pages n s (newV S.L.owners.length d.cmd false id kd)) (S.L.owners.length + 1) ((id, kd) :: M)) := by
  obtain ⟨b1, b2, b3⟩ := okat_bnd ho
  refine ⟨h.wrote ((h.ro.mono fun m c => numS).put fun v hv => ?_) (h.pb.put ho rfl h.pb.us b2), fun q M hq hr => ?_, fun M hr => ?_⟩
  · injection hv with hv
    rw [← hv]
    exact ⟨numNow h, nofun⟩
  · have := rep_put (v := ⟨S.L.owners.length, d.cmd, none, none, false, id, kd⟩) hr b1 b2 b3 (svO_un ho)
    rw [new_lo hq] at this
    exact this
  · have := rep_put (v := ⟨S.L.owners.length, d.cmd, none, none, false, id, kd⟩) hr b1 b2 b3 (svO_un ho)
    rw [new_hi (h.topU t)] at this
    exact this
theorem en_und {v : Ver} (h : EnOk S.L v) : ∀ e c, v.en = some (e, c) → undB S.L e = true := fun e c he => by
  rcases h with z | ⟨e', c', z, h1, h2⟩
  · rw [he] at z; cases z
  · rw [he] at z
    cases z
    exact decide_eq_true (mem_withS.mpr ⟨h1, h2⟩)
/-- remove -/
theorem remove_step (h : Ses S d w) (t : Top S) {a i : Nat} {p : Page} {v : Ver} (hp : S.T.pages[a]? = some p) (hv : p[i]? = some (.row v)) (hs : visU (undB S.L) v = true) :
    Ses (S.wrote [] d [] (putPg S.T.pages a i (.row (endV v S.L.owners.length d.cmd none)))) { d with cmd := d.cmd + 1 } (w + 1) ∧
    (∀ q M, q ≤ S.L.owners.length → Rep (undB S.L) S.T.pages q M → Rep (undB S.L) (putPg S.T.pages a i (.row (endV v S.L.owners.length d.cmd none))) q M) ∧
    (∀ M, Rep (undB S.L) S.T.pages (S.L.owners.length + 1) M → ((v.id, v.kd) :: vl (fU (undB S.L) (S.L.owners.length + 1)) (putPg S.T.pages a i (.row (endV v S.L.owners.length d.cmd none)))).Perm M) := by
  have hpm := List.mem_of_getElem? hp
  have hvm := List.mem_of_getElem? hv
  obtain ⟨r1, r2⟩ := h.ro p hpm v hvm
  obtain ⟨m1, m2⟩ := vis_en hs
  have al := (List.getElem?_eq_some_iff.mp hp).1
  have bl := (List.getElem?_eq_some_iff.mp hv).1
  have hb : ∀ q, S.T.pages[a]? = some q → i ≤ q.length := fun q hq => by rw [hp] at hq; cases hq; omega
  refine ⟨h.wrote ((h.ro.mono fun m c => numS).put fun u hu => ?_) ⟨Nat.le_trans (putPg_used _ hb) (Nat.succ_le_succ h.pb.us), ?_⟩, fun q M hq hr => ?_, fun M hr => ?_⟩
  · injection hu with hu
    rw [← hu]
    refine ⟨numS r1, fun e c he => ?_⟩
    have he : some (S.L.owners.length, d.cmd) = some (e, c) := he
    cases he
    exact numNow h
  · rw [putPg_len al]
    have := h.pb.ln
    omega
  · exact (rep_over (v' := endV v S.L.owners.length d.cmd none) hr hp hv rfl rfl).1 (end_lo hq (en_und m2))
  · exact (rep_over (v' := endV v S.L.owners.length d.cmd none) hr hp hv rfl rfl).2 (by rw [hi_f h hpm hvm]; exact hs) (end_hi (h.topU t))
end
end Rc

set_option Elab.async false
set_option linter.all false
set_option maxRecDepth 100000
set_option maxHeartbeats 1000000
/-! a row changed; the ledger's steps -/
namespace Rc
open PySem
theorem putPg_in {ps : List Page} {a b : Nat} {s t : Slot} {p : Page} (hp : ps[a]? = some p) (hb : p[b]? = some t) : putPg ps a b s = ps.set a (p.set b s) := by
  have al := (List.getElem?_eq_some_iff.mp hp).1
  unfold putPg
  rw [if_neg (by omega)]
  have e : ps.getD a [] = p := by
    rw [List.getD_eq_getElem?_getD, hp]
    rfl
  rw [e, setAt_in hb]
section
variable {S : Sto} {d : Dl} {w : Nat}
theorem not_dead {ss : List Nat} {v : Ver} (hm : v.mkr ∉ withS S.L.states .und) (he : EnOk S.L v) (hss : ∀ s ∈ ss, s ∈ withS S.L.states .com) : deadV (withS S.L.states .und) ss v = false := by
  unfold deadV
  rcases he with hn | ⟨en, ec, hn, h1, hs⟩
  · rw [hn]
    simp [hm]
  · have hne : en ∉ ss := fun z => by
      have := (mem_withS.mp (hss en z)).2
      rw [hs] at this
      cases this
    rw [hn]
    simp [hm, hne]
theorem PrS.live {us ss : List Nat} {p q : Page} {i : Nat} {v : Ver} (h : PrS us ss p q) (hv : p[i]? = some (.row v)) (nd : deadV us ss v = false) : q[i]? = some (.row v) := by
  obtain ⟨s', h1, h2⟩ := h.at_ i _ hv
  rcases h2 with h2 | ⟨h2, _⟩
  · rw [h1, h2]
  · have h2 : deadV us ss v = true := h2
    rw [nd] at h2
    cases h2
/-- where a changed row goes nothing is seen -/
theorem gone_sv {us ss : List Nat} {p q q0 : Page} {s : Nat} {f : Ver → Bool} (h0 : PrS us ss p q0) (h : PrS us ss p q) (hf : FreeAt q0 s) (hd : ∀ v, Slot.row v ∈ p → deadV us ss v = true → f v = false) : svO f q[s]? = [] := by
  rcases hf with hf | ⟨hf, _⟩
  · have sl : s < p.length := by
      rw [← h0.ln]
      exact (List.getElem?_eq_some_iff.mp hf).1
    have hp : p[s]? = some p[s] := List.getElem?_eq_getElem sl
    obtain ⟨s0, e1, e2⟩ := h0.at_ s _ hp
    rw [hf] at e1
    cases e1
    obtain ⟨s', e3, e4⟩ := h.at_ s _ hp
    rw [e3]
    show sv f s' = []
    rcases e4 with e4 | ⟨_, e4⟩
    · rw [e4]
      rcases e2 with e2 | ⟨e2, _⟩
      · rw [← e2]
        rfl
      · cases e5 : p[s] with
        | row v =>
          rw [e5] at e2
          show (if f v = true then [(v.id, v.kd)] else []) = []
          rw [hd v (by rw [← e5]; exact List.getElem_mem sl) e2]
          rfl
        | un => rfl
        | dead => rfl
        | red n => rfl
    · exact sv_norow e4
  · rw [hf, h0.ln, ← h.ln, List.getElem?_eq_none (Nat.le_refl _)]
    rfl
theorem free_ne {q0 : Page} {s i : Nat} {v : Ver} (hf : FreeAt q0 s) (hv : q0[i]? = some (.row v)) : s ≠ i := fun z => by
  subst z
  rcases hf with hf | ⟨hf, _⟩
  · rw [hv] at hf
    cases hf
  · have := (List.getElem?_eq_some_iff.mp hv).1
    omega
theorem change_step (h : Ses S d w) (t : Top S) {a i n s : Nat} {p q : Page} {v : Ver} {ss : List Nat} {only : Bool} {wo : PyData} (hp : S.T.pages[a]? = some p) (hv : p[i]? = some (.row v)) (hs : visU (undB S.L) v = true)
    (hc : ChR (withS S.L.states .und) ss S.T.pages a n s p q) (hss : ∀ x ∈ ss, x ∈ withS S.L.states .com) {ps' : List Page} (eps : ps' = putPg (putPg (S.T.pages.set a q) a i (.row (endV v S.L.owners.length d.cmd (some (n, s))))) n s (newV S.L.owners.length d.cmd only v.id wo)) :
    Ses (S.wrote [] d [] ps') { d with cmd := d.cmd + 1 } (w + 1) ∧
    (∀ r M, d.n ≤ r → r ≤ S.L.owners.length → Rep (undB S.L) S.T.pages r M → Rep (undB S.L) ps' r M) ∧
    (∀ M, Rep (undB S.L) S.T.pages (S.L.owners.length + 1) M → ∃ M', ((v.id, v.kd) :: M').Perm M ∧ Rep (undB S.L) ps' (S.L.owners.length + 1) ((v.id, wo) :: M')) := by
  subst eps
  have hpm := List.mem_of_getElem? hp
  have hvm := List.mem_of_getElem? hv
  obtain ⟨r1, r2⟩ := h.ro p hpm v hvm
  obtain ⟨m1, m2⟩ := vis_en hs
  have nd := not_dead m1 m2 hss
  have al := (List.getElem?_eq_some_iff.mp hp).1
  have hq := hc.pr
  obtain ⟨q0, hq0, ho⟩ := hc.ok
  have hvq := hq.live hv nd
  have hvq0 := hq0.live hv nd
  have hga : (S.T.pages.set a q)[a]? = some q := List.getElem?_set_self al
  have e2 : putPg (S.T.pages.set a q) a i (.row (endV v S.L.owners.length d.cmd (some (n, s)))) = S.T.pages.set a (q.set i (.row (endV v S.L.owners.length d.cmd (some (n, s))))) := by
    rw [putPg_in hga hvq, List.set_set]
  obtain ⟨ps2, eps2⟩ : ∃ ps2, ps2 = putPg (S.T.pages.set a q) a i (.row (endV v S.L.owners.length d.cmd (some (n, s)))) := ⟨_, rfl⟩
  rw [← eps2]
  rw [← eps2] at e2
  have l2 : ps2.length = S.T.pages.length := by rw [e2, List.length_set]
  have g2a : ps2[a]? = some (q.set i (.row (endV v S.L.owners.length d.cmd (some (n, s))))) := by rw [e2]; exact List.getElem?_set_self al
  have g2n : n ≠ a → ps2[n]? = S.T.pages[n]? := fun hne => by rw [e2, List.getElem?_set_ne (Ne.symm hne)]
  have b : n ≤ ps2.length ∧ (∀ p', ps2[n]? = some p' → s ≤ p'.length) ∧ (n = ps2.length → s = 0) := by
    obtain ⟨b1, b2, b3⟩ := okat_bnd ho
    rw [List.length_set] at b1 b3
    refine ⟨by omega, fun p' hp' => ?_, fun z => b3 (by omega)⟩
    by_cases hn : n = a
    · subst hn
      rw [g2a] at hp'
      cases hp'
      have := b2 q0 (List.getElem?_set_self al)
      rw [List.length_set, hq.ln, ← hq0.ln]
      exact this
    · rw [g2n hn] at hp'
      exact b2 p' (by rw [List.getElem?_set_ne (Ne.symm hn)]; exact hp')
  have blind : ∀ r, (∀ m ∈ withS S.L.states .com, m < r) → svO (fU (undB S.L) r) (slotOf ps2 n s) = [] := fun r hr => by
    have hd : ∀ u, Slot.row u ∈ p → deadV (withS S.L.states .und) ss u = true → fU (undB S.L) r u = false := fun u _ hu => dead_f hu hss hr
    rcases ho with ⟨p0, hp0, hf, _⟩ | ⟨h1, _, _⟩
    · by_cases hn : n = a
      · subst hn
        rw [List.getElem?_set_self al] at hp0
        cases hp0
        have hsi := free_ne hf hvq0
        unfold slotOf
        rw [g2a]
        show svO _ (q.set i _)[s]? = []
        rw [List.getElem?_set_ne (Ne.symm hsi)]
        exact gone_sv hq0 hq hf hd
      · rw [List.getElem?_set_ne (Ne.symm hn)] at hp0
        unfold slotOf
        rw [g2n hn, hp0]
        show svO _ p0[s]? = []
        rcases hf with hf | ⟨hf, _⟩
        · rw [hf]
          rfl
        · rw [hf, List.getElem?_eq_none (Nat.le_refl _)]
          rfl
    · rw [List.length_set] at h1
      unfold slotOf
      rw [List.getElem?_eq_none (by omega)]
      rfl
  have ro1 : RowsAll (NumOk S.L.owners.length { d with cmd := d.cmd + 1 }) (S.T.pages.set a q) := (h.ro.mono fun m c => numS).setPg hp fun u hu => hq.rows hu
  have ro2 : RowsAll (NumOk S.L.owners.length { d with cmd := d.cmd + 1 }) ps2 := by
    rw [eps2]
    refine ro1.put fun u hu => ?_
    injection hu with hu
    rw [← hu]
    refine ⟨numS r1, fun e c he => ?_⟩
    have he : some (S.L.owners.length, d.cmd) = some (e, c) := he
    cases he
    exact numNow h
  have uset : usedN (q.set i (.row (endV v S.L.owners.length d.cmd (some (n, s))))) ≤ usedN q := used_pt (by rw [List.length_set]) fun j sl hj => by
    by_cases hji : i = j
    · subst hji
      rw [hvq] at hj
      cases hj
      exact ⟨_, List.getElem?_set_self (List.getElem?_eq_some_iff.mp hvq).1, fun z => by cases z⟩
    · exact ⟨sl, by rw [List.getElem?_set_ne hji]; exact hj, fun z => z⟩
  have pb2 : PgB ps2 w := by
    rw [e2]
    exact h.pb.set hp (Nat.le_trans uset hq.used)
  refine ⟨h.wrote (ro2.put fun u hu => ?_) (pb2.put ho (by rw [List.length_set]; exact l2.symm) ?_ b.2.1), fun r M hr0 hr1 hr => ?_, fun M hr => ?_⟩
  · injection hu with hu
    rw [← hu]
    exact ⟨numNow h, nofun⟩
  · have := sum_set (q := q0) hp
    have := hq0.used
    have := h.pb.us
    omega
  · have hcm : ∀ m ∈ withS S.L.states .com, m < r := fun m hm => Nat.lt_of_lt_of_le (h.cm m hm) hr0
    have h1 := rep_prune hp hq hss hcm hr
    have h2 := (rep_over (v' := endV v S.L.owners.length d.cmd (some (n, s))) h1 hga hvq rfl rfl).1 (end_lo hr1 (en_und m2))
    rw [← eps2] at h2
    have h3 := rep_put (v := ⟨S.L.owners.length, d.cmd, none, none, only, v.id, wo⟩) h2 b.1 b.2.1 b.2.2 (blind r hcm)
    rw [new_lo hr1] at h3
    exact h3
  · have hcm : ∀ m ∈ withS S.L.states .com, m < S.L.owners.length + 1 := fun m hm => by
      have := h.cm m hm
      have := h.nl
      omega
    have h1 := rep_prune hp hq hss hcm hr
    have h2 := (rep_over (v' := endV v S.L.owners.length d.cmd (some (n, s))) h1 hga hvq rfl rfl).2 (by rw [hi_f h hpm hvm]; exact hs) (end_hi (h.topU t))
    rw [← eps2] at h2
    refine ⟨_, h2, ?_⟩
    have h3 := rep_put (v := ⟨S.L.owners.length, d.cmd, none, none, only, v.id, wo⟩) (List.Perm.refl _ : Rep (undB S.L) ps2 (S.L.owners.length + 1) _) b.1 b.2.1 b.2.2 (blind _ hcm)
    rw [new_hi (h.topU t)] at h3
    exact h3
end
end Rc

set_option Elab.async false
set_option linter.all false
set_option maxRecDepth 100000
set_option maxHeartbeats 1000000
/-! begin, save, undo, commit, abort: what stays seen -/
namespace Rc
open PySem
theorem setL_get (s : Sta) : ∀ {ps : List Nat} {ss : List Sta} {i : Nat}, (∀ p ∈ ps, 1 ≤ p) → (setL ps s ss)[i]? = if i + 1 ∈ ps ∧ i < ss.length then some s else ss[i]?
  | [], ss, i, _ => by
    show ss[i]? = _
    simp
  | p :: ps, ss, i, h => by
    show (setL ps s (ss.set (p - 1) s))[i]? = _
    rw [setL_get s fun q hq => h q (List.mem_cons_of_mem _ hq), List.length_set]
    have h1 := h p List.mem_cons_self
    by_cases hm : i + 1 ∈ ps
    · by_cases hl : i < ss.length
      · rw [if_pos ⟨hm, hl⟩, if_pos ⟨List.mem_cons_of_mem _ hm, hl⟩]
      · rw [if_neg (fun z => hl z.2), if_neg (fun z => hl z.2), List.getElem?_eq_none (by rw [List.length_set]; omega), List.getElem?_eq_none (by omega)]
    · rw [if_neg (fun z => hm z.1)]
      by_cases hp : p - 1 = i
      · have hm2 : i + 1 ∈ p :: ps := by
          have : i + 1 = p := by omega
          rw [this]
          exact List.mem_cons_self
        by_cases hl : i < ss.length
        · rw [if_pos ⟨hm2, hl⟩, hp, List.getElem?_set_self hl]
        · rw [if_neg (fun z => hl z.2), List.getElem?_eq_none (by rw [List.length_set]; omega), List.getElem?_eq_none (by omega)]
      · have hm2 : i + 1 ∉ p :: ps := fun z => by
          rcases List.mem_cons.mp z with y | y
          · omega
          · exact hm y
        rw [if_neg (fun z => hm2 z.1), List.getElem?_set_ne hp]
structure Rest (S : Sto) (w : Nat) (M : List Row) : Prop where
  kl : KL S.L
  ra : RA S.L
  sl : S.L.owners.length = S.L.states.length
  ro : RowsAll (fun m _ => 1 ≤ m ∧ m ≤ S.L.owners.length ∧ ∀ d ∈ S.L.act, m ∉ d.parts) S.T.pages
  pb : PgB S.T.pages w
  cs : S.cs = []
  va : S.vac = .non
  rep : Rep (undB S.L) S.T.pages (S.L.owners.length + 1) M
theorem with_app {ss : List Sta} {s : Sta} {m : Nat} (h : s ≠ .runs) : m ∈ withS (ss ++ [Sta.runs]) s ↔ m ∈ withS ss s := by
  rw [mem_withS, mem_withS]
  constructor
  · rintro ⟨h1, h2⟩
    refine ⟨h1, ?_⟩
    by_cases hl : m - 1 < ss.length
    · rw [List.getElem?_append_left hl] at h2
      exact h2
    · rw [List.getElem?_append_right (by omega)] at h2
      cases e : m - 1 - ss.length with
      | zero =>
        rw [e] at h2
        simp at h2
        exact absurd h2.symm h
      | succ k =>
        rw [e] at h2
        simp at h2
  · rintro ⟨h1, h2⟩
    exact ⟨h1, by rw [List.getElem?_append_left (List.getElem?_eq_some_iff.mp h2).1]; exact h2⟩
theorem with_le {L : Led} (sl : L.owners.length = L.states.length) {s : Sta} {m : Nat} (h : m ∈ withS L.states s) : 1 ≤ m ∧ m ≤ L.owners.length := by
  obtain ⟨h1, h2⟩ := mem_withS.mp h
  have := (List.getElem?_eq_some_iff.mp h2).1
  omega
/-- what is seen does not change where the undone ones (from q on all) are the same for the numbers in use -/
theorem Rest.seen {S : Sto} {w : Nat} {M : List Row} (h : Rest S w M) {U : Nat → Bool} {q : Nat} (e : ∀ m, 1 ≤ m → m ≤ S.L.owners.length → (U m || decide (q ≤ m)) = undB S.L m) : Rep U S.T.pages q M :=
  h.rep.congr h.ro fun m _ hm => by
    rw [e m hm.1 hm.2.1, decide_eq_false (by omega : ¬ S.L.owners.length + 1 ≤ m), Bool.or_false]
theorem und_push {L : Led} {m : Nat} : decide (m ∈ withS (L.states ++ [Sta.runs]) .und) = undB L m := decide_eq_decide.mpr (with_app (by decide))
theorem kl_begun {L : Led} {d : Dl} (h : KL L) (e : d.n = L.owners.length + 1) : KL (L.begun d) := fun q hq => by
  have hq : q ∈ L.kvs ++ [(d.n, d.a)] := hq
  have hl : (L.begun d).owners.length = L.owners.length + 1 := by
    show (L.owners ++ [d.n]).length = _
    rw [List.length_append]
    rfl
  rw [hl]
  rcases List.mem_append.mp hq with z | z
  · have := h q z
    omega
  · rw [List.mem_singleton.mp z]
    show 1 ≤ d.n ∧ d.n ≤ _
    omega
theorem ra_begun {L : Led} {d : Dl} (sl : L.owners.length = L.states.length) (kl : KL L) (h : RA L) (e : d.n = L.owners.length + 1) : RA (L.begun d) := fun q hq hs => by
  have hq : q ∈ L.kvs ++ [(d.n, d.a)] := hq
  have hs : (L.states ++ [Sta.runs])[q.1 - 1]? = some .runs := hs
  show ∃ d2 ∈ L.act ++ [d], d2.n = q.1
  rcases List.mem_append.mp hq with z | z
  · have := kl q z
    rw [List.getElem?_append_left (by omega)] at hs
    obtain ⟨d2, h1, h2⟩ := h q z hs
    exact ⟨d2, List.mem_append_left _ h1, h2⟩
  · rw [List.mem_singleton.mp z]
    exact ⟨d, by simp, rfl⟩
theorem begin_step {S : Sto} {w : Nat} {M : List Row} (h : Rest S w M) (ha : S.L.act = []) {d : Dl} (e : d.n = S.L.owners.length + 1) (ep : d.parts = [d.n]) :
    Ses (S.wL (S.L.begun d)) d w ∧ Top (S.wL (S.L.begun d)) ∧ Rep (undB (S.L.begun d)) S.T.pages d.n M ∧ Rep (undB (S.L.begun d)) S.T.pages ((S.L.begun d).owners.length + 1) M ∧ (S.L.begun d).owners.length = S.L.owners.length + 1 := by
  have hl : (S.L.begun d).owners.length = S.L.owners.length + 1 := by
    show (S.L.owners ++ [d.n]).length = _
    rw [List.length_append]
    rfl
  have hrun : (S.L.states ++ [Sta.runs])[S.L.owners.length]? = some .runs := by
    rw [h.sl, List.getElem?_append_right (Nat.le_refl _), Nat.sub_self]
    rfl
  have hU : ∀ m, undB (S.L.begun d) m = undB S.L m := fun m => und_push
  refine ⟨⟨?_, kl_begun h.kl e, ra_begun h.sl h.kl h.ra e, ?_, by omega, ?_, ?_, ?_, fun m hm => ?_, ?_, h.pb, h.cs, h.va⟩, ?_, ?_, ?_, hl⟩
  · show S.L.act ++ [d] = [d]
    rw [ha]
    rfl
  · show (S.L.begun d).owners.length = (S.L.states ++ [Sta.runs]).length
    rw [hl, List.length_append, h.sl]
    rfl
  · show d.n ≤ (S.L.begun d).owners.length
    omega
  · show (S.L.states ++ [Sta.runs])[d.n - 1]? = some .runs
    rw [e]
    exact hrun
  · show d.parts = List.range' d.n ((S.L.begun d).owners.length + 1 - d.n)
    rw [ep, hl, e, Nat.add_sub_cancel_left]
    rfl
  · have hm : m ∈ withS (S.L.states ++ [Sta.runs]) .com := hm
    have := with_le h.sl ((with_app (by decide)).mp hm)
    omega
  · refine h.ro.mono fun m c hm => ⟨hm.1, ?_, fun hp => ?_⟩
    · show m ≤ (S.L.begun d).owners.length
      have := hm.2.1
      omega
    · rw [ep] at hp
      have := List.mem_singleton.mp hp
      have := hm.2.1
      omega
  · show (S.L.states ++ [Sta.runs])[(S.L.begun d).owners.length - 1]? = some .runs
    rw [hl]
    exact hrun
  · refine h.seen fun m h1 h2 => ?_
    rw [hU, decide_eq_false (by omega), Bool.or_false]
  · refine h.seen fun m h1 h2 => ?_
    rw [hU, decide_eq_false (by omega), Bool.or_false]
section
variable {S : Sto} {d : Dl} {w : Nat}
theorem Ses.seen {U : Nat → Bool} {q r : Nat} {M : List Row} (h : Ses S d w) (hr : Rep (undB S.L) S.T.pages r M) (e : ∀ m, 1 ≤ m → m ≤ S.L.owners.length → (U m || decide (q ≤ m)) = (undB S.L m || decide (r ≤ m))) : Rep U S.T.pages q M :=
  hr.congr h.ro fun m _ hm => e m hm.1 hm.2.1
theorem save_step (h : Ses S d w) {d' : Dl} (ed : d' = { d with parts := d.parts ++ [S.L.owners.length + 1] }) :
    Ses (S.wL (savedL S.L [] d [])) d' w ∧ Top (S.wL (savedL S.L [] d [])) ∧ (savedL S.L [] d []).owners.length = S.L.owners.length + 1 ∧
    (∀ r M, r ≤ S.L.owners.length + 1 → Rep (undB S.L) S.T.pages r M → Rep (undB (savedL S.L [] d [])) S.T.pages r M) ∧ (∀ M, Rep (undB S.L) S.T.pages (S.L.owners.length + 1) M → Rep (undB (savedL S.L [] d [])) S.T.pages (S.L.owners.length + 2) M) := by
  subst ed
  have hl : (savedL S.L [] d []).owners.length = S.L.owners.length + 1 := by
    show (S.L.owners ++ [d.n]).length = _
    rw [List.length_append]
    rfl
  have hrun : (S.L.states ++ [Sta.runs])[S.L.owners.length]? = some .runs := by
    rw [h.sl, List.getElem?_append_right (Nat.le_refl _), Nat.sub_self]
    rfl
  have hU : ∀ m, undB (savedL S.L [] d []) m = undB S.L m := fun m => und_push
  have hn := h.nl
  refine ⟨⟨rfl, fun q hq => ?_, fun q hq hs => ?_, ?_, h.n1, ?_, ?_, ?_, fun m hm => ?_, ?_, h.pb, h.cs, h.va⟩, ?_, hl, fun r M _ hr => ?_, fun M hr => ?_⟩
  · have := h.kl q hq
    show 1 ≤ q.1 ∧ q.1 ≤ (savedL S.L [] d []).owners.length
    omega
  · have hs : (S.L.states ++ [Sta.runs])[q.1 - 1]? = some .runs := hs
    have := h.kl q hq
    rw [List.getElem?_append_left (by have := h.sl; omega)] at hs
    obtain ⟨d2, h1, h2⟩ := h.ra q hq hs
    rw [h.ac] at h1
    exact ⟨_, List.mem_singleton.mpr rfl, by rw [← h2, List.mem_singleton.mp h1]⟩
  · show (savedL S.L [] d []).owners.length = (S.L.states ++ [Sta.runs]).length
    rw [hl, List.length_append, h.sl]
    rfl
  · show d.n ≤ (savedL S.L [] d []).owners.length
    omega
  · show (S.L.states ++ [Sta.runs])[d.n - 1]? = some .runs
    rw [List.getElem?_append_left (List.getElem?_eq_some_iff.mp h.ru).1]
    exact h.ru
  · show d.parts ++ [S.L.owners.length + 1] = List.range' d.n ((savedL S.L [] d []).owners.length + 1 - d.n)
    have e : (savedL S.L [] d []).owners.length + 1 - d.n = (S.L.owners.length + 1 - d.n) + 1 := by omega
    rw [e, List.range'_concat, ← h.all]
    congr 2
    omega
  · exact h.cm m ((with_app (by decide)).mp hm)
  · refine h.ro.mono fun m c hm => ⟨hm.1, ?_, fun hp => ?_⟩
    · show m ≤ (savedL S.L [] d []).owners.length
      have := hm.2.1
      omega
    · rcases List.mem_append.mp hp with z | z
      · exact hm.2.2 z
      · have := List.mem_singleton.mp z
        have := hm.2.1
        omega
  · show (S.L.states ++ [Sta.runs])[(savedL S.L [] d []).owners.length - 1]? = some .runs
    rw [hl]
    exact hrun
  · exact h.seen hr fun m _ _ => by rw [hU]
  · refine h.seen hr fun m h1 h2 => ?_
    rw [hU, decide_eq_false (by omega : ¬ S.L.owners.length + 2 ≤ m), decide_eq_false (by omega : ¬ S.L.owners.length + 1 ≤ m)]
theorem gone_top (h : Ses S d w) (t : Top S) {m : Nat} : m ∈ goneP S.L d S.L.owners.length ↔ m = S.L.owners.length := by
  unfold goneP runP
  rw [List.mem_filter, List.mem_filter, h.mem]
  constructor
  · rintro ⟨⟨⟨_, h1⟩, _⟩, h2⟩
    have := of_decide_eq_true h2
    omega
  · rintro rfl
    exact ⟨⟨⟨h.nl, Nat.le_refl _⟩, decide_eq_true t⟩, decide_eq_true (Nat.le_refl _)⟩
theorem undo_step (h : Ses S d w) (t : Top S) (hlt : d.n < S.L.owners.length) (cu : Addr) :
    Ses (S.undo d S.L.owners.length cu) d w ∧ (∀ r M, r ≤ S.L.owners.length → Rep (undB S.L) S.T.pages r M → Rep (undB (S.undo d S.L.owners.length cu).L) S.T.pages r M) ∧
    (∀ M, Rep (undB S.L) S.T.pages S.L.owners.length M → Rep (undB (S.undo d S.L.owners.length cu).L) S.T.pages (S.L.owners.length + 1) M) := by
  have ge : ∀ p ∈ goneP S.L d S.L.owners.length, 1 ≤ p := fun p hp => by
    have := (gone_top h t).mp hp
    have := h.n1
    omega
  have hg : ∀ i, (setL (goneP S.L d S.L.owners.length) .und S.L.states)[i]? = if i + 1 = S.L.owners.length then some .und else S.L.states[i]? := fun i => by
    rw [setL_get _ ge]
    have hg1 := gone_top h t (m := i + 1)
    by_cases hi : i + 1 = S.L.owners.length
    · rw [if_pos hi, if_pos ⟨hg1.mpr hi, by have := h.sl; omega⟩]
    · rw [if_neg hi, if_neg fun z => hi (hg1.mp z.1)]
  have hU : ∀ m, 1 ≤ m → undB (S.undo d S.L.owners.length cu).L m = (undB S.L m || decide (m = S.L.owners.length)) := fun m h1 => by
    have e : (m ∈ withS (setL (goneP S.L d S.L.owners.length) .und S.L.states) .und) ↔ (m ∈ withS S.L.states .und ∨ m = S.L.owners.length) := by
      rw [mem_withS, mem_withS, hg]
      constructor
      · rintro ⟨_, h2⟩
        by_cases hm : m - 1 + 1 = S.L.owners.length
        · exact .inr (by omega)
        · rw [if_neg hm] at h2
          exact .inl ⟨h1, h2⟩
      · rintro (⟨_, h2⟩ | h2)
        · refine ⟨h1, ?_⟩
          by_cases hm : m - 1 + 1 = S.L.owners.length
          · rw [if_pos hm]
          · rw [if_neg hm]
            exact h2
        · exact ⟨h1, by rw [if_pos (by omega)]⟩
    show decide (m ∈ withS (setL (goneP S.L d S.L.owners.length) .und S.L.states) .und) = _
    rw [Bool.eq_iff_iff]
    simp only [undB, Bool.or_eq_true, decide_eq_true_eq]
    exact e
  refine ⟨⟨h.ac, h.kl, fun q hq hs => ?_, ?_, h.n1, h.nl, ?_, h.all, fun m hm => ?_, h.ro, h.pb, rfl, h.va⟩, fun r M hr0 hr => ?_, fun M hr => ?_⟩
  · have hs : (setL (goneP S.L d S.L.owners.length) .und S.L.states)[q.1 - 1]? = some .runs := hs
    rw [hg] at hs
    split at hs
    · cases hs
    · exact h.ra q hq hs
  · show S.L.owners.length = (setL _ _ _).length
    rw [setL_len]
    exact h.sl
  · show (setL (goneP S.L d S.L.owners.length) .und S.L.states)[d.n - 1]? = some .runs
    have := h.n1
    rw [hg, if_neg (by omega)]
    exact h.ru
  · obtain ⟨h1, h2⟩ := mem_withS.mp (show m ∈ withS (setL (goneP S.L d S.L.owners.length) .und S.L.states) .com from hm)
    rw [hg] at h2
    split at h2
    · cases h2
    · exact h.cm m (mem_withS.mpr ⟨h1, h2⟩)
  · refine h.seen hr fun m h1 h2 => ?_
    rw [hU m h1]
    by_cases a : m = S.L.owners.length
    · rw [decide_eq_true a, decide_eq_true (by omega : r ≤ m)]
      simp
    · rw [decide_eq_false a, Bool.or_false]
  · refine h.seen hr fun m h1 h2 => ?_
    rw [hU m h1]
    have e : decide (S.L.owners.length + 1 ≤ m) = false := decide_eq_false (by omega)
    have e2 : decide (m = S.L.owners.length) = decide (S.L.owners.length ≤ m) := decide_eq_decide.mpr (by omega)
    rw [e, Bool.or_false, e2]
theorem fin_step (h : Ses S d w) (s : Sta) (cu : Addr) (hs : s = .com ∨ s = .und) {M : List Row} (hr : Rep (undB S.L) S.T.pages (if s = .com then S.L.owners.length + 1 else d.n) M) :
    Rest (S.fin [] d [] s cu) w M := by
  have ge : ∀ p ∈ runP S.L d, 1 ≤ p := fun p hp => by
    have := h.mem.mp (gone_in hp)
    have := h.n1
    omega
  have hrun : ∀ m, m ∈ runP S.L d ↔ (d.n ≤ m ∧ m ≤ S.L.owners.length) ∧ S.L.states[m - 1]? = some .runs := fun m => by
    unfold runP
    rw [List.mem_filter, h.mem, decide_eq_true_eq]
  have hg : ∀ i, (setL (runP S.L d) s S.L.states)[i]? = if i + 1 ∈ runP S.L d then some s else S.L.states[i]? := fun i => by
    rw [setL_get _ ge]
    by_cases hi : i + 1 ∈ runP S.L d
    · have := ((hrun _).mp hi).1
      rw [if_pos hi, if_pos ⟨hi, by have := h.sl; omega⟩]
    · rw [if_neg hi, if_neg fun z => hi z.1]
  refine ⟨h.kl, fun q hq hs' => ?_, ?_, h.ro.mono fun m c hm => ⟨hm.1, hm.2.1, fun d' hd' => by cases hd'⟩, h.pb, rfl, h.va, ?_⟩
  · have hs' : (setL (runP S.L d) s S.L.states)[q.1 - 1]? = some .runs := hs'
    rw [hg] at hs'
    split at hs'
    · rcases hs with z | z <;> rw [z] at hs' <;> cases hs'
    · rename_i hn
      obtain ⟨d2, h1, h2⟩ := h.ra q hq hs'
      rw [h.ac] at h1
      have e : q.1 = d.n := by rw [← h2, List.mem_singleton.mp h1]
      have h3 := h.n1
      refine absurd ((hrun _).mpr ⟨?_, ?_⟩) hn
      · have := h.nl
        omega
      · have e2 : q.1 - 1 + 1 - 1 = q.1 - 1 := by omega
        rw [e2]
        exact hs'
  · show S.L.owners.length = (setL _ _ _).length
    rw [setL_len]
    exact h.sl
  · refine h.seen hr fun m h1 h2 => ?_
    show (decide (m ∈ withS (setL (runP S.L d) s S.L.states) .und) || decide (S.L.owners.length + 1 ≤ m)) = _
    rw [(decide_eq_false (by omega) : decide (S.L.owners.length + 1 ≤ m) = false), Bool.or_false]
    have e1 : m - 1 + 1 = m := by omega
    rcases hs with z | z
    · subst z
      rw [if_pos rfl, (decide_eq_false (by omega) : decide (S.L.owners.length + 1 ≤ m) = false), Bool.or_false]
      refine decide_eq_decide.mpr ?_
      rw [mem_withS, mem_withS, hg, e1]
      constructor
      · rintro ⟨a1, a2⟩
        split at a2
        · cases a2
        · exact ⟨a1, a2⟩
      · rintro ⟨a1, a2⟩
        refine ⟨a1, ?_⟩
        rw [if_neg fun y => by
          have := ((hrun m).mp y).2
          rw [a2] at this
          cases this]
        exact a2
    · subst z
      rw [if_neg (by decide)]
      have e : (m ∈ withS (setL (runP S.L d) .und S.L.states) .und) ↔ (m ∈ withS S.L.states .und ∨ d.n ≤ m) := by
        rw [mem_withS, mem_withS, hg, e1]
        constructor
        · rintro ⟨a1, a2⟩
          split at a2
          · rename_i hy
            exact .inr ((hrun m).mp hy).1.1
          · exact .inl ⟨a1, a2⟩
        · rintro (⟨a1, a2⟩ | a2)
          · refine ⟨a1, ?_⟩
            split
            · rfl
            · exact a2
          · refine ⟨h1, ?_⟩
            split
            · rfl
            · rename_i hn
              have ls : m - 1 < S.L.states.length := by have := h.sl; omega
              have hst : S.L.states[m - 1]? = some S.L.states[m - 1] := List.getElem?_eq_getElem ls
              cases e3 : S.L.states[m - 1] with
              | runs => exact absurd ((hrun m).mpr ⟨⟨a2, h2⟩, by rw [hst, e3]⟩) hn
              | und => rw [hst, e3]
              | com =>
                have := h.cm m (mem_withS.mpr ⟨h1, by rw [hst, e3]⟩)
                omega
      rw [Bool.eq_iff_iff]
      simp only [undB, Bool.or_eq_true, decide_eq_true_eq]
      exact e
end
theorem Rest.pg {S : Sto} {w : Nat} {M : List Row} (h : Rest S w M) {ps : List Page} (st : PgStep (withS S.L.states .und) (withS S.L.states .com) S.T.pages ps) : Rest (S.wT ps) w M := by
  obtain ⟨n, p, q, hp, rfl, hq⟩ := st
  have hcm : ∀ m ∈ withS S.L.states .com, m < S.L.owners.length + 1 := fun m hm => by
    have := (with_le h.sl hm).2
    omega
  rcases hq with ⟨ss, hq, hss⟩ | hq
  · exact ⟨h.kl, h.ra, h.sl, h.ro.setPg hp fun v hv => hq.rows hv, h.pb.set hp hq.used, h.cs, h.va, rep_prune hp hq hss hcm h.rep⟩
  · exact ⟨h.kl, h.ra, h.sl, h.ro.setPg hp fun v hv => hq.rows hv, h.pb.set hp hq.used, h.cs, h.va, rep_free hp hq h.rep⟩
end Rc

set_option Elab.async false
set_option linter.all false
set_option maxRecDepth 100000
set_option maxHeartbeats 4000000
namespace Rc
open PySem PySem.Spec PyProof.Rows L2 He
theorem pos3 : (0 : Int) < 3 := by decide
theorem posb : (0 : Int) < 2305843009213693951 := by decide
theorem pos1 : (0 : Int) < 2147483647 := by decide
theorem pos2 : (0 : Int) < 2147483629 := by decide
theorem pos4 : (0 : Int) < 2147483587 := by decide
theorem pos5 : (0 : Int) < 40009 := by decide
theorem nn01 (b : Bool) : (0 : Int) ≤ (if b = true then 1 else 0) := by cases b <;> decide
def sp_law_cells (K : PySem.W.Frag) : Sp := s2 fun x y H Q => ∃ (a : Addr) (ns : List Int), x = .ref a ∧ y = .int 3 ∧ SqL K H a (ns.map V.int) ∧
  ∀ (r : Addr) (fs : List Int) (H' : Hp), Same H H' → H r = none → H' r = some (.lst (fs.map V.int)) → 1 ≤ fs.length → fs.length ≤ 3 → Q (.ref r) H'
theorem sq_same {K : PySem.W.Frag} {H H' : Hp} {a : Addr} {xs : List V} (h : SqL K H a xs) (s : Same H H') : SqL K H' a xs := by
  rcases h with h | h
  · refine .inl ?_
    rcases h with h | ⟨o, h⟩
    · exact .inl (s _ _ h)
    · exact .inr ⟨o, s _ _ h⟩
  · exact .inr h
theorem ok_law_cells {P : Program} {w : World} {K : PySem.W.Frag} {mg : Str → Option Value} {base : Heap} (T : Tx K mg) : Df P w K mg base (fAd K ("_law_cells", none)) 1 [] (sp_law_cells K) := by
  obtain ⟨fd, F⟩ := fn_law_cells T
  refine df2 F sc_law_cells (fun _ _ _ _ _ _ us hl => match us, hl with | [_, _], _ => rfl) fun script most H Q h => ?_
  intro cdv A outer s E hr
  have hu := hu_of hr
  refine ⟨_, (pss_cons (ps_set (i := 2) (sc_law_cells).nd rfl (.inl rfl) (pe_orT (pe_callTy (call_list_ofK K) (by rfl) (T.b_list) (by decide +kernel) (pa_cons (pe_slice (sl_listK K) (pv 0) po_none (po_some (pv 1))) pa_nil)) (pe_one (pe_lst (pa_cons pe_int pa_nil)))))
    (pss_cons (ps_for PassesOwn.never rfl (pi_enumK K (by rfl) (T.b_enumerate) (pa_cons (pe_slice (sl_listK K) (pv 0) (po_some (pv 1)) (po_some pe_int)) pa_nil)) (pg_tupK K (n := 2) (by rfl) (pgs_cons (pg_name (i := 3) (sc_law_cells).nd rfl (.inl rfl)) (pgs_cons (pg_name (i := 4) (sc_law_cells).nd rfl (.inl rfl)) pgs_nil)))
    (pss_one (ps_asg (pe_op op_add (pe_ix (ix_listK K) (pv 2) (pe_op op_mod (pe_callTy call_int1 (by rfl) (T.b_int) (by decide +kernel) (pa_cons (pv 3) pa_nil)) (pv 1)) (fun _ _ => rfl)) (pe_op op_mul (pv 4) (pe_op op_add (pv 3) pe_int))) (pg_sub (pv 2) (pe_op op_mod (pe_callTy call_int1 (by rfl) (T.b_int) (by decide +kernel) (pa_cons (pv 3) pa_nil)) (pv 1)) set_list))))
    (pss_one (ps_ret (pv 2))))), ?_⟩
  obtain ⟨a, ns, ex, ey, hs, q⟩ := h
  subst ex ey
  refine ⟨_, rfl, _, rfl, (3 : Int), rfl, a, _, rfl, hs, fun r1 n1 => ⟨r1, _, rfl, .inl (SqL.of upd_same), fun r2 n2 => ?_⟩⟩
  have e3 : cutV (ns.map V.int) none (some 3) = (ns.take 3).map V.int := by
    rw [List.map_take]
    exact cutV_to (n := 3)
  rw [e3] at n2 ⊢
  have s12 : Same H (upd (upd H r1 (.lst ((ns.take 3).map V.int))) r2 (.lst ((ns.take 3).map V.int))) := (same_new n1).trans (same_new n2)
  have r2n : H r2 = none := none_of (same_new n1) n2
  refine ⟨_, .inl ⟨_, SqL.of upd_same, rfl⟩, ?_⟩
  refine ite2 (fun hne => ?g1) (fun hne => ?g2)
  case' g1 =>
    have hF : upd (upd H r1 (.lst ((ns.take 3).map V.int))) r2 (.lst ((ns.take 3).map V.int)) r2 = some (.lst ((ns.take 3).map V.int)) := upd_same
    have hl1 : 1 ≤ (ns.take 3).length := by
      cases e : ns.take 3 with
      | nil => rw [e] at hne; cases hne
      | cons x r => simp
    have hl3 : (ns.take 3).length ≤ 3 := by rw [List.length_take]; omega
    have hl4 : 3 < ns.length → (ns.take 3).length = 3 := fun h => by rw [List.length_take]; omega
    have sm := s12
    have rn := r2n
    generalize hfs : ns.take 3 = fs0 at hF hl1 hl3 hl4 sm ⊢
    generalize hHH : upd (upd H r1 (.lst (fs0.map V.int))) r2 (.lst (fs0.map V.int)) = H2 at sm hF ⊢
    generalize hrr : r2 = r at hF rn ⊢
  case' g2 =>
    refine ⟨Nat.le_of_ble_eq_true rfl, fun r3 n3 => ?_⟩
    have hF : upd (upd (upd H r1 (.lst ((ns.take 3).map V.int))) r2 (.lst ((ns.take 3).map V.int))) r3 (.lst [.int 0]) r3 = some (.lst (([0] : List Int).map V.int)) := upd_same
    have hl1 : 1 ≤ ([0] : List Int).length := Nat.le_refl _
    have hl3 : ([0] : List Int).length ≤ 3 := by decide
    have hl4 : 3 < ns.length → ([0] : List Int).length = 3 := fun h => by
      exfalso
      apply hne
      cases ns with
      | nil => simp at h
      | cons x r => rfl
    have sm := s12.trans (same_new (o := .lst [.int 0]) n3)
    have rn : H r3 = none := none_of s12 n3
    generalize hfs : ([0] : List Int) = fs0 at hF hl1 hl3 hl4
    generalize hHH : upd (upd (upd H r1 (.lst ((ns.take 3).map V.int))) r2 (.lst ((ns.take 3).map V.int))) r3 (.lst [.int 0]) = H2 at sm hF ⊢
    generalize hrr : r3 = r at hF rn ⊢
  all_goals
    refine ⟨_, rfl, _, rfl, (3 : Int), rfl, 63, rfl, a, _, rfl, sq_same hs sm, fun r4 n4 => ⟨r4, _, rfl, SqL.of upd_same, ?_⟩⟩
    have s4 := same_new (o := .lst (cutV (ns.map V.int) (some 3) (some 63))) n4
    have r4r : r4 ≠ r := fun z => by rw [z, hF] at n4; cases n4
    have ec : cutV (ns.map V.int) (some 3) (some 63) = (((ns.drop (min 3 ns.length)).take (min 63 ns.length - min 3 ns.length))).map V.int := by
      unfold cutV
      rw [List.length_map, List.map_take, List.map_drop]
      rfl
    rw [ec]
    rw [ec] at s4
    refine for_en (K := K) (a := r4) (xs := ((ns.drop (min 3 ns.length)).take (min 63 ns.length - min 3 ns.length)).map V.int) (fun i σ' H' => ∃ u3 u4 fs, σ' = [some (.ref a), some (.int 3), some (.ref r), u3, u4] ∧ Same H H' ∧ H' r = some (.lst (fs.map V.int)) ∧ fs.length = fs0.length ∧ H' r4 = some (.lst (((ns.drop (min 3 ns.length)).take (min 63 ns.length - min 3 ns.length)).map V.int)))
      ⟨_, _, fs0, rfl, sm.trans s4, s4 _ _ hF, rfl, upd_same⟩ (fun i σ' H' _ ⟨_, _, _, _, _, _, _, h4⟩ => SqL.of h4) ?_ ?_
    · rintro i x σ' H3 U hi ⟨u3, u4, fs, rfl, sm3, hF3, lf, h43⟩ nU
      have il := (List.getElem?_eq_some_iff.mp hi).1
      rw [List.length_map, List.length_take, List.length_drop] at il
      have l3 : fs.length = 3 := by rw [lf]; exact hl4 (by omega)
      rw [List.getElem?_map] at hi
      obtain ⟨z, hz, ez⟩ := Option.map_eq_some_iff.mp hi
      subst ez
      have sU : Same H3 (upd H3 U (.tup [.int (i : Nat), .int z])) := same_new nU
      have em : ((i : Int) % 3) = ((i % 3 : Nat) : Int) := by omega
      have im : i % 3 < fs.length := by omega
      have hv : (fs.map V.int)[i % 3]? = some (.int fs[i % 3]) := by rw [List.getElem?_map, List.getElem?_eq_getElem im]; rfl
      refine ⟨U, _, rfl, .inl (.inl upd_same), rfl, _, _, rfl, _, _, rfl, rfl, ?_⟩
      refine ⟨_, rfl, _, rfl, .inl ⟨_, rfl, _, rfl, (i : Int), 3, rfl, rfl, pos3, r, _, _, .int fs[i % 3], rfl, rfl, SqL.of (sU _ _ hF3), by rw [em]; exact atI_nat hv, ?_⟩⟩
      refine ⟨_, rfl, _, rfl, (i : Int), 2, rfl, rfl, _, _, rfl, rfl, .inr ⟨by omega, by omega⟩, _, _, rfl, rfl, ?_⟩
      refine ⟨_, rfl, _, rfl, .inl ⟨_, rfl, _, rfl, (i : Int), 3, rfl, rfl, pos3, r, _, _, i % 3, rfl, rfl, sU _ _ hF3, by rw [em, List.length_map]; exact ixN_nat im, ?_⟩⟩
      refine ⟨_, _, fs.set (i % 3) (fs[i % 3] + z * ((i : Int) + 2)), rfl, fun b o e => ?_, ?_, by rw [List.length_set]; exact lf, ?_⟩
      · rw [upd_ne (fun w : b = r => by rw [w, rn] at e; cases e)]
        exact sU _ _ (sm3 _ _ e)
      · rw [upd_same, List.map_set]
      · rw [upd_ne r4r]
        exact sU _ _ h43
    · rintro σ' H3 ⟨u3, u4, fs, rfl, sm3, hF3, lf, _⟩
      exact ⟨_, rfl, q r fs H3 sm3 rn hF3 (by omega) (by omega)⟩
structure BoxAt (H : Hp) (b : Addr) (n : Nat) : Prop where
  at_ : ∃ x s f : Int, H b = some (.lst [.int x, .int s, .int f]) ∧ 0 ≤ x ∧ 0 ≤ f ∧ f ≤ (n : Int)
theorem BoxAt.mono {H : Hp} {b : Addr} {n m : Nat} (h : BoxAt H b n) (l : n ≤ m) : BoxAt H b m := let ⟨x, s, f, h1, h2, h3, h4⟩ := h.at_; ⟨x, s, f, h1, h2, h3, by omega⟩
theorem BoxAt.keep {H H' : Hp} {b : Addr} {n : Nat} (h : BoxAt H b n) (k : ∀ o, H b = some o → H' b = some o) : BoxAt H' b n := let ⟨x, s, f, h1, h2⟩ := h.at_; ⟨x, s, f, k _ h1, h2⟩
def sp_law_box (K : PySem.W.Frag) : Sp := s2 fun x y H Q => ∃ (a : Addr) (fs : List Int) (k : Nat), x = .ref a ∧ y = .int (k : Int) ∧ H a = some (.lst (fs.map V.int)) ∧ k < fs.length ∧ k < 10 ∧ ∀ (b : Addr) (H' : Hp), Same H H' → H b = none → BoxAt H' b 0 → Q (.ref b) H'
theorem cmul01 (x : Int) (b : Bool) : CMul x (if b = true then 1 else 0) := .inr (by cases b <;> decide)
theorem ok_law_box {P : Program} {w : World} {K : PySem.W.Frag} {mg : Str → Option Value} {base : Heap} (T : Tx K mg) : Df P w K mg base (fAd K ("_law_box", none)) 1 [] (sp_law_box K) := by
  obtain ⟨fd, F⟩ := fn_law_box T
  refine df2 F sc_law_box (fun _ _ _ _ _ _ us hl => match us, hl with | [_, _], _ => rfl) fun some1 k H Q h => ?_
  intro cdv A outer s E hr
  have hu := hu_of hr
  refine ⟨_, (pss_cons (ps_set (i := 2) (sc_law_box).nd rfl (.inl rfl) (pe_ix (ix_listK K) (pv 0) (pv 1) (fun _ _ => rfl)))
    (pss_one (ps_ret (pe_lst (pa_cons (pe_op op_mul (pe_callB call_abs (by rfl) (T.b_abs) (by decide +kernel) (pa_cons (pv 2) pa_nil)) (pe_callTy call_int1 (by rfl) (T.b_int) (by decide +kernel) (pa_cons (pe_cmpR op_ge (pe_callB call_abs (by rfl) (T.b_abs) (by decide +kernel) (pa_cons (pv 2) pa_nil)) (pe_op op_pow pe_int pe_int) (nomark _)) pa_nil))) (pa_cons (pe_op op_add (pe_op op_add (pe_op op_mod (pe_callTy call_int1 (by rfl) (T.b_int) (by decide +kernel) (pa_cons (pv 2) pa_nil)) pe_int) (pe_op op_mul pe_int (pv 1))) pe_int) (pa_cons pe_int pa_nil))))))), ?_⟩
  obtain ⟨a, fs, kk, ex, ey, ha, hk, hk2, q⟩ := h
  subst ex ey
  have hv : (fs.map V.int)[kk]? = some (.int fs[kk]) := by rw [List.getElem?_map, List.getElem?_eq_getElem hk]; rfl
  refine ⟨_, rfl, _, rfl, a, _, _, .int fs[kk], rfl, rfl, SqL.of ha, atI_nat hv, ?_⟩
  refine ⟨_, rfl, _, rfl, _, rfl, _, rfl, 10, 18, rfl, rfl, ⟨by decide, by decide, by decide⟩, _, _, rfl, rfl, .inr ⟨_, rfl, _, _, rfl, rfl, cmul01 _ _, ?_⟩⟩
  refine ⟨_, rfl, .inl ⟨_, rfl, _, _, rfl, rfl, posb, _, rfl, 7919, (kk : Int), rfl, rfl, .inl ⟨by decide, by decide⟩, _, _, rfl, rfl, _, _, rfl, rfl, Nat.le_of_ble_eq_true rfl, fun b nb => ?_⟩⟩
  refine q b _ (same_new nb) nb ⟨_, _, 0, upd_same, ?_, by decide, by decide⟩
  refine Int.mul_nonneg ?_ ?_
  · split <;> omega
  · exact nn01 _
def sp_law_take (K : PySem.W.Frag) : Sp := s2 fun x y H Q => ∃ (b : Addr) (n m : Nat), x = .ref b ∧ y = .int (m : Int) ∧ 0 < m ∧ m ≤ 1000 ∧ BoxAt H b n ∧ n ≤ 1000000 ∧
  ∀ (r : Nat) (H' : Hp), r < m → Chg [b] H H' → BoxAt H' b (n + 1) → Q (.int (r : Int)) H'
theorem mod_nat {x : Int} {m : Nat} (h : 0 < m) : ∃ r : Nat, r < m ∧ x % (m : Int) = (r : Int) := by
  have h1 : 0 ≤ x % (m : Int) := Int.emod_nonneg x (by omega)
  have h2 : x % (m : Int) < (m : Int) := Int.emod_lt_of_pos x (by omega)
  exact ⟨(x % (m : Int)).toNat, by omega, by omega⟩
theorem ok_law_take {P : Program} {w : World} {K : PySem.W.Frag} {mg : Str → Option Value} {base : Heap} (T : Tx K mg) : Df P w K mg base (fAd K ("_law_take", none)) 1 [] (sp_law_take K) := by
  obtain ⟨fd, F⟩ := fn_law_take T
  refine df2 F sc_law_take (fun _ _ _ _ _ _ us hl => match us, hl with | [_, _], _ => rfl) fun box below H Q h => ?_
  intro cdv A outer s E hr
  have hu := hu_of hr
  refine ⟨_, (pss_cons (ps_if (pt_cmpR op_gt (pe_ix (ix_listK K) (pv 0) pe_int (fun _ _ => rfl)) pe_int (nomark _)) (pss_cons (ps_set (i := 5) (sc_law_take).nd rfl (.inl rfl) (pe_op op_mod (pe_callTy call_int1 (by rfl) (T.b_int) (by decide +kernel) (pa_cons (pe_ix (ix_listK K) (pv 0) pe_int (fun _ _ => rfl)) pa_nil)) (pv 1)))
    (pss_cons (ps_asg (pe_op op_fdiv (pe_ix (ix_listK K) (pv 0) pe_int (fun _ _ => rfl)) (pv 1)) (pg_sub (pv 0) pe_int set_list))
    (pss_one (ps_ret (pv 5))))) pss_nil)
    (pss_cons (ps_par (i := 6) (j := 2) (by rfl) (sc_law_take).nd rfl rfl (by decide) rfl rfl (pa_cons (pe_ix (ix_listK K) (pv 0) pe_int (fun _ _ => rfl)) (pa_cons (pe_op op_add (pe_ix (ix_listK K) (pv 0) pe_int (fun _ _ => rfl)) pe_int) pa_nil)) (by rfl))
    (pss_cons (ps_asg (pv 2) (pg_sub (pv 0) pe_int set_list))
    (pss_cons (ps_set (i := 3) (sc_law_take).nd rfl (.inl rfl) (pe_op op_mod (pe_callTy call_int1 (by rfl) (T.b_int) (by decide +kernel) (pa_cons (pe_op op_mul (pe_op op_add (pv 6) (pe_op op_mul pe_int (pv 2))) (pe_op op_add pe_int (pv 2))) pa_nil)) pe_int))
    (pss_cons (ps_set (i := 4) (sc_law_take).nd rfl (.inl rfl) (pe_op op_mod (pe_callTy call_int1 (by rfl) (T.b_int) (by decide +kernel) (pa_cons (pe_op op_mul (pe_op op_add (pe_op op_add (pv 3) (pv 2)) (pe_op op_fdiv (pv 6) pe_int)) (pe_op op_add (pe_op op_mod (pe_callTy call_int1 (by rfl) (T.b_int) (by decide +kernel) (pa_cons (pv 3) pa_nil)) pe_int) pe_int)) pa_nil)) pe_int))
    (pss_one (ps_ret (pe_op op_mod (pe_callTy call_int1 (by rfl) (T.b_int) (by decide +kernel) (pa_cons (pe_op op_fdiv (pe_op op_mod (pe_callTy call_int1 (by rfl) (T.b_int) (by decide +kernel) (pa_cons (pe_op op_add (pe_op op_mul (pv 4) pe_int) (pv 3)) pa_nil)) pe_int) pe_int) pa_nil)) (pv 1))))))))), ?_⟩
  obtain ⟨b, n, m, ex, ey, m0, m1, ⟨x, s1, f, hb, x0, f0, fn⟩, n1, q⟩ := h
  subst ex ey
  refine ⟨_, rfl, b, _, 0, .int x, rfl, rfl, SqL.of hb, rfl, x, 0, rfl, rfl, _, rfl, ?_⟩
  refine ite2 (fun hc => ?_) fun hc => ?_
  · obtain ⟨r, hr, er⟩ := mod_nat (x := x) m0
    refine ⟨_, rfl, b, _, 0, .int x, rfl, rfl, SqL.of hb, rfl, .inl ⟨_, rfl, _, rfl, x, (m : Int), rfl, rfl, by omega, ?_⟩⟩
    refine ⟨_, rfl, b, _, 0, .int x, rfl, rfl, SqL.of hb, rfl, _, rfl, x, (m : Int), rfl, rfl, ⟨by omega, by omega⟩, _, rfl, b, _, 0, 0, rfl, rfl, hb, rfl, ?_⟩
    refine ⟨_, rfl, ?_⟩
    show Q (.int (x % (m : Int))) _
    rw [er]
    exact q r _ hr (Chg.upd hb (by simp)) ⟨x / (m : Int), s1, f, upd_same, Int.ediv_nonneg x0 (by omega), f0, by omega⟩
  · refine ⟨_, rfl, b, _, 1, .int s1, rfl, rfl, SqL.of hb, rfl, _, rfl, b, _, 2, .int f, rfl, rfl, SqL.of hb, rfl, f, 1, rfl, rfl, _, _, rfl, ?_⟩
    refine ⟨_, rfl, _, rfl, b, _, 2, 2, rfl, rfl, hb, rfl, ?_⟩
    have e1 : CMul (s1 + 48271 * (f + 1)) (39373 + (f + 1)) := .inr ⟨by omega, by omega⟩
    refine ⟨_, rfl, _, rfl, 48271, _, rfl, rfl, .inl ⟨by decide, by decide⟩, _, _, rfl, rfl, _, rfl, 39373, _, rfl, rfl, _, _, rfl, rfl, e1, .inl ⟨_, rfl, _, _, rfl, rfl, pos1, ?_⟩⟩
    show gName 3 (V.int ((s1 + 48271 * (f + 1)) * (39373 + (f + 1)) % 2147483647)) _ _ _
    obtain ⟨o1, eo1⟩ : ∃ o1 : Int, o1 = (s1 + 48271 * (f + 1)) * (39373 + (f + 1)) % 2147483647 := ⟨_, rfl⟩
    rw [← eo1]
    simp only [L2.start, List.map_cons, List.map_nil, List.length_cons, List.length_nil, List.replicate, List.cons_append, List.nil_append, List.set_cons_succ, List.set_cons_zero, Nat.reduceAdd, Nat.reduceSub]
    have e2 : CMul (o1 + (f + 1) + s1 / 1000003) (o1 % 40009 + 7) := .inr ⟨by omega, by omega⟩
    refine ⟨_, rfl, _, rfl, _, _, rfl, rfl, _, rfl, _, _, rfl, rfl, ⟨by decide, by decide⟩, _, _, rfl, rfl, _, rfl, .inl ⟨_, rfl, _, _, rfl, rfl, pos5, _, _, rfl, rfl, _, _, rfl, rfl, e2, .inl ⟨_, rfl, _, _, rfl, rfl, pos2, ?_⟩⟩⟩
    show gName 4 (V.int ((o1 + (f + 1) + s1 / 1000003) * (o1 % 40009 + 7) % 2147483629)) _ _ _
    obtain ⟨o2, eo2⟩ : ∃ o2 : Int, o2 = (o1 + (f + 1) + s1 / 1000003) * (o1 % 40009 + 7) % 2147483629 := ⟨_, rfl⟩
    rw [← eo2]
    simp only [L2.start, List.map_cons, List.map_nil, List.length_cons, List.length_nil, List.replicate, List.cons_append, List.nil_append, List.set_cons_succ, List.set_cons_zero, Nat.reduceAdd, Nat.reduceSub]
    have e3 : CMul o2 48271 := .inr ⟨by decide, by decide⟩
    obtain ⟨r, hr, er⟩ := mod_nat (x := (o2 * 48271 + o1) % 2147483587 / 64) m0
    refine ⟨_, rfl, _, _, rfl, rfl, e3, _, rfl, _, _, rfl, rfl, .inl ⟨_, rfl, _, _, rfl, rfl, pos4, _, _, rfl, rfl, ⟨by decide, by decide⟩, .inl ⟨_, rfl, _, rfl, _, (m : Int), rfl, rfl, by omega, ?_⟩⟩⟩
    show Q (.int ((o2 * 48271 + o1) % 2147483587 / 64 % (m : Int))) _
    rw [er]
    exact q r _ hr (Chg.upd hb (by simp)) ⟨x, s1, f + 1, upd_same, x0, by omega, by omega⟩
end Rc


set_option Elab.async false
set_option linter.all false
set_option maxRecDepth 100000
set_option maxHeartbeats 4000000
namespace Rc
open PySem PySem.Spec PyProof.Rows L2 He
/-! ### the record, a dict -/
def recK (kvs : List (Int × V)) : List (Key × V) := kvs.map fun p => ((Sum.inl p.1 : Key), p.2)
structure DictAt (K : PySem.W.Frag) (H : Hp) (a : Addr) (M : List Row) : Prop where
  at_ : ∃ kvs : List (Int × V), H a = some (.dK (recK kvs)) ∧ kvs.map (·.1) = M.map (·.1) ∧ Tds K H (kvs.map (·.2)) (M.map fun r => rowD r.1 r.2)
/-- the worths that the law draws -/
def fineKd (d : PyData) : Prop := d = .none ∨ d = .int 4 ∨ d = .int 9 ∨ d = .str "aaaaaa" ∨ d = .str "bb" ∨ d = .str "cccccc" ∨ d = .str "d"
theorem fineKd.ok {d : PyData} (h : fineKd d) : okKd d := by
  rcases h with z | z | z | z | z | z | z <;> rw [z]
  · exact True.intro
  · exact True.intro
  · exact True.intro
  · exact ⟨by decide +kernel, by decide +kernel⟩
  · exact ⟨by decide +kernel, by decide +kernel⟩
  · exact ⟨by decide +kernel, by decide +kernel⟩
  · exact ⟨by decide +kernel, by decide +kernel⟩
structure RecOk (M : List Row) (n : Int) : Prop where
  kn : (M.map (·.1)).Nodup
  lt : ∀ r ∈ M, r.1 < n
  n0 : 0 ≤ n
  ge : ∀ r ∈ M, 0 ≤ r.1
  ok : ∀ r ∈ M, fineKd r.2
  ln : M.length ≤ 400
theorem DictAt.keep {K : PySem.W.Frag} {H H' : Hp} {a : Addr} {M : List Row} (h : DictAt K H a M) (k : ∀ o, H a = some o → H' a = some o) (tk : TKeep H H') : DictAt K H' a M := by
  obtain ⟨kvs, h1, h2, h3⟩ := h.at_
  exact ⟨kvs, k _ h1, h2, h3.keep tk⟩
theorem DictAt.same {K : PySem.W.Frag} {H H' : Hp} {a : Addr} {M : List Row} (h : DictAt K H a M) (s : Same H H') : DictAt K H' a M := h.keep (s a) (Same.tk s)
theorem DictAt.nt {K : PySem.W.Frag} {H : Hp} {a : Addr} {M : List Row} (h : DictAt K H a M) : NT (H a) := by
  obtain ⟨kvs, h1, _⟩ := h.at_
  exact NT.of h1 rfl
theorem BoxAt.nt {H : Hp} {b : Addr} {n : Nat} (h : BoxAt H b n) : NT (H b) := by
  obtain ⟨x, s, f, h1, _⟩ := h.at_
  exact NT.of h1 rfl
def sp_law_of (K : PySem.W.Frag) : Sp := s2 fun x y H Q => ∃ (b l : Addr) (n : Nat) (vs : List V), x = .ref b ∧ y = .ref l ∧ BoxAt H b n ∧ n ≤ 1000000 ∧ H l = some (.lst vs) ∧ l ≠ b ∧ vs ≠ [] ∧ vs.length ≤ 1000 ∧
  ∀ (j : Nat) (v : V) (H' : Hp), vs[j]? = some v → Chg [b] H H' → BoxAt H' b (n + 1) → Q v H'
theorem ok_law_of {P : Program} {w : World} {K : PySem.W.Frag} {mg : Str → Option Value} {base : Heap} (T : Tx K mg) : Df P w K mg base (fAd K ("_law_of", none)) 2 [] (sp_law_of K) := by
  obtain ⟨fd, F⟩ := fn_law_of T
  refine df2 F sc_law_of (fun _ _ _ _ _ _ us hl => match us, hl with | [_, _], _ => rfl) fun box some1 H Q h => ?_
  intro cdv A outer s E hr
  have hu := hu_of hr
  refine ⟨_, (pss_one (ps_ret (pe_ix (ix_listK K) (pv 1) (pe_cf (ok_law_take T) (hr.mono (by decide)) rfl (T.g__law_take) (pa_cons (pv 0) (pa_cons (pe_callB (call_len_seqK K) (by rfl) (T.b_len) (by decide +kernel) (pa_cons (pv 1) pa_nil)) pa_nil))) (fun _ _ => rfl)))), ?_⟩
  obtain ⟨b, l, n, vs, ex, ey, hb, hn, hl, hne, hv, hv2, q⟩ := h
  subst ex ey
  have pos : 0 < vs.length := List.length_pos_iff.mpr hv
  refine ⟨_, rfl, _, rfl, _, rfl, l, vs, rfl, .inl (SqL.of hl), _, _, rfl, b, n, vs.length, rfl, rfl, pos, hv2, hb, hn, fun r H1 hr c1 hb1 => ?_⟩
  have hg : vs[r]? = some vs[r] := List.getElem?_eq_getElem hr
  exact ⟨l, vs, (r : Int), vs[r], rfl, rfl, SqL.of (c1.keep _ _ hl (by simp [hne])), atI_nat hg, q r _ H1 hg c1 hb1⟩
theorem recK_keys (kvs : List (Int × V)) : (recK kvs).map (·.1) = (kvs.map (·.1)).map Sum.inl := by
  unfold recK
  rw [List.map_map, List.map_map]
  rfl
theorem rec_val : ∀ {kvs : List (Int × V)} {n : Int} {v : V}, (kvs.map (·.1)).Nodup → (n, v) ∈ kvs → valV (recK kvs) (.inl n) = some v
  | [], _, _, _, h => absurd h (List.not_mem_nil)
  | (m, b) :: r, n, v, nd, h => by
    unfold recK
    rw [List.map_cons]
    rcases List.mem_cons.mp h with e | h
    · cases e
      exact valV_pos rfl
    · have h1 : m ≠ n := fun z => (List.nodup_cons.mp nd).1 (by show m ∈ _; rw [z]; exact List.mem_map.mpr ⟨(n, v), h, rfl⟩)
      rw [valV_neg (by intro z; injection z with z; exact h1 z)]
      exact rec_val (List.nodup_cons.mp nd).2 h
theorem rec_drop (kvs : List (Int × V)) (n : Int) : dropK (recK kvs) (.inl n) = recK (kvs.filter fun p => decide (p.1 ≠ n)) := by
  unfold dropK recK
  rw [List.filter_map]
  congr 1
  refine List.filter_congr fun k _ => ?_
  show decide ((Sum.inl k.1 : Key) ≠ .inl n) = decide (k.1 ≠ n)
  exact decide_eq_decide.mpr ⟨fun h z => h (by rw [z]), fun h z => h (by injection z)⟩
theorem rec_put_new {kvs : List (Int × V)} {n : Int} {v : V} (h : ∀ p ∈ kvs, p.1 ≠ n) : putK (recK kvs) (.inl n) v = recK (kvs ++ [(n, v)]) := by
  unfold putK
  have e : ((recK kvs).any fun kv => decide (kv.1 = (.inl n : Key))) = false := by
    rw [List.any_eq_false]
    intro x hx
    unfold recK at hx
    obtain ⟨p, hp, e⟩ := List.mem_map.mp hx
    rw [← e]
    simp only [decide_eq_true_eq]
    intro z
    injection z with z
    exact h p hp z
  rw [e]
  unfold recK
  rw [List.map_append]
  rfl
theorem rec_put_old {kvs : List (Int × V)} {n : Int} {v : V} (h : ∃ p ∈ kvs, p.1 = n) : putK (recK kvs) (.inl n) v = recK (kvs.map fun p => if p.1 = n then (n, v) else p) := by
  unfold putK
  have e : ((recK kvs).any fun kv => decide (kv.1 = (.inl n : Key))) = true := by
    obtain ⟨p, hp, e⟩ := h
    rw [List.any_eq_true]
    refine ⟨(.inl p.1, p.2), ?_, by simp [e]⟩
    unfold recK
    exact List.mem_map.mpr ⟨p, hp, rfl⟩
  rw [if_pos e]
  unfold recK
  rw [List.map_map, List.map_map]
  refine List.map_congr_left fun p _ => ?_
  show (if (Sum.inl p.1 : Key) = .inl n then ((Sum.inl p.1 : Key), v) else (.inl p.1, p.2)) = _
  by_cases hp : p.1 = n
  · rw [if_pos (by rw [hp])]
    simp [hp]
  · rw [if_neg (fun z => hp (by injection z))]
    simp [hp]
theorem tds_filter {K : PySem.W.Frag} {H : Hp} {n : Int} : ∀ {kvs : List (Int × V)} {M : List Row}, kvs.map (·.1) = M.map (·.1) → Tds K H (kvs.map (·.2)) (M.map fun r => rowD r.1 r.2) →
    (kvs.filter fun p => decide (p.1 ≠ n)).map (·.1) = (M.filter fun p => decide (p.1 ≠ n)).map (·.1) ∧ Tds K H ((kvs.filter fun p => decide (p.1 ≠ n)).map (·.2)) ((M.filter fun p => decide (p.1 ≠ n)).map fun r => rowD r.1 r.2)
  | [], [], _, _ => ⟨rfl, .nil⟩
  | [], _ :: _, h, _ => by cases h
  | _ :: _, [], h, _ => by cases h
  | p :: kvs, r :: M, h, t => by
    obtain ⟨h1, h2⟩ := List.cons_eq_cons.mp h
    cases t with
    | cons t1 t2 =>
      obtain ⟨i1, i2⟩ := tds_filter (n := n) h2 t2
      have h1 : p.1 = r.1 := h1
      by_cases hp : p.1 = n
      · rw [List.filter_cons, List.filter_cons, if_neg (by simp [hp]), if_neg (by rw [← h1]; simp [hp])]
        exact ⟨i1, i2⟩
      · rw [List.filter_cons, List.filter_cons, if_pos (by simp [hp]), if_pos (by rw [← h1]; simp [hp])]
        exact ⟨by rw [List.map_cons, List.map_cons, i1, h1], .cons t1 i2⟩
def chgM (n : Int) (wo : PyData) (M : List Row) : List Row := M.map fun r => if r.1 = n then (n, wo) else r
theorem tds_chg {K : PySem.W.Frag} {H : Hp} {n : Int} {v : V} {wo : PyData} (hv : Td K H v (rowD n wo)) : ∀ {kvs : List (Int × V)} {M : List Row}, kvs.map (·.1) = M.map (·.1) → Tds K H (kvs.map (·.2)) (M.map fun r => rowD r.1 r.2) →
    (kvs.map fun p => if p.1 = n then (n, v) else p).map (·.1) = (chgM n wo M).map (·.1) ∧ Tds K H ((kvs.map fun p => if p.1 = n then (n, v) else p).map (·.2)) ((chgM n wo M).map fun r => rowD r.1 r.2)
  | [], [], _, _ => ⟨rfl, .nil⟩
  | [], _ :: _, h, _ => by cases h
  | _ :: _, [], h, _ => by cases h
  | p :: kvs, r :: M, h, t => by
    obtain ⟨h1, h2⟩ := List.cons_eq_cons.mp h
    cases t with
    | cons t1 t2 =>
      obtain ⟨i1, i2⟩ := tds_chg hv h2 t2
      have h1 : p.1 = r.1 := h1
      unfold chgM at i1 i2 ⊢
      by_cases hp : p.1 = n
      · have hr : r.1 = n := by rw [← h1]; exact hp
        simp only [List.map_cons, if_pos hp, if_pos hr]
        exact ⟨by rw [i1], .cons hv i2⟩
      · have hr : ¬ r.1 = n := by rw [← h1]; exact hp
        simp only [List.map_cons, if_neg hp, if_neg hr]
        exact ⟨by rw [i1, h1], .cons t1 i2⟩
inductive Deed (M : List Row) (fr : Int) : PyData → List Row → Prop
  | put {kd : PyData} (ok : fineKd kd) : Deed M fr (.tuple [.str "put", rowD fr kd]) (M ++ [(fr, kd)])
  | remove {id : Int} {kd : PyData} (h : (id, kd) ∈ M) : Deed M fr (.tuple [.str "remove", .int id]) (M.filter fun p => decide (p.1 ≠ id))
  | change {id : Int} {kd wo : PyData} (h : (id, kd) ∈ M) (ok : fineKd wo) : Deed M fr (.tuple [.str "change", .int id, setD wo]) (chgM id wo M)
theorem chg_fresh {fp : List Addr} {H H' : Hp} {a : Addr} {o : HO} (c : Chg fp H H') (n : H a = none) : Chg fp H (upd H' a o) :=
  ⟨fun b u e h => by rw [upd_ne (ne_of_none e n)]; exact c.keep b u e h, fun b u e h => by rw [upd_ne (ne_of_none e n)]; exact c.imm b u e h, fun b h => by
    rw [upd_ne (fun z : b = a => h.not (z ▸ n))]
    exact c.live b h⟩
theorem strOk_a : PyData.strOk "aaaaaa" = true ∧ PyData.strOk "bb" = true ∧ PyData.strOk "cccccc" = true ∧ PyData.strOk "d" = true := by decide +kernel
theorem cells_a {j : Nat} {v : V} (h : [V.str "aaaaaa", V.str "bb", V.non, V.int 4][j]? = some v) : ∃ kd, fineKd kd ∧ ∀ (K : PySem.W.Frag) (H : Hp), Td K H v kd := by
  match j, h with
  | 0, h => cases h; exact ⟨.str "aaaaaa", .inr (.inr (.inr (.inl rfl))), fun _ _ => .str _⟩
  | 1, h => cases h; exact ⟨.str "bb", .inr (.inr (.inr (.inr (.inl rfl)))), fun _ _ => .str _⟩
  | 2, h => cases h; exact ⟨.none, .inl rfl, fun _ _ => .non⟩
  | 3, h => cases h; exact ⟨.int 4, .inr (.inl rfl), fun _ _ => .int _⟩
  | j + 4, h => simp at h
theorem cells_b {j : Nat} {v : V} (h : [V.str "cccccc", V.str "d", V.non, V.int 9][j]? = some v) : ∃ kd, fineKd kd ∧ ∀ (K : PySem.W.Frag) (H : Hp), Td K H v kd := by
  match j, h with
  | 0, h => cases h; exact ⟨.str "cccccc", .inr (.inr (.inr (.inr (.inr (.inl rfl))))), fun _ _ => .str _⟩
  | 1, h => cases h; exact ⟨.str "d", .inr (.inr (.inr (.inr (.inr (.inr rfl))))), fun _ _ => .str _⟩
  | 2, h => cases h; exact ⟨.none, .inl rfl, fun _ _ => .non⟩
  | 3, h => cases h; exact ⟨.int 9, .inr (.inr (.inl rfl)), fun _ _ => .int _⟩
  | j + 4, h => simp at h
def sp_law_drawn (K : PySem.W.Frag) : Sp := s3 fun x y z H Q => ∃ (b a : Addr) (n : Nat) (M : List Row) (fr : Int), x = .ref b ∧ y = .ref a ∧ z = .int fr ∧ BoxAt H b n ∧ n + 10 ≤ 1000000 ∧ DictAt K H a M ∧ RecOk M fr ∧ a ≠ b ∧
  ∀ (t : Addr) (dv : V) (la : Addr) (dd : PyData) (M' : List Row) (H' : Hp), Chg [b] H H' → BoxAt H' b (n + 4) → H la = none → DictAt K H' la M' → Td K H' dv dd → Deed M fr dd M' → H' t = some (.tup [dv, .ref la]) → Q (.ref t) H'
theorem ok_law_drawn {P : Program} {w : World} {K : PySem.W.Frag} {mg : Str → Option Value} {base : Heap} (T : Tx K mg) : Df P w K mg base (fAd K ("_law_drawn", none)) 3 [] (sp_law_drawn K) := by
  obtain ⟨fd, F⟩ := fn_law_drawn T
  refine df3 F sc_law_drawn (fun _ _ _ _ _ _ us hl => match us, hl with | [_, _, _], _ => rfl) fun box rows fresh H Q h => ?_
  intro cdv A outer s E hr
  have hu := hu_of hr
  refine ⟨_, (pss_cons (ps_par (i := 5) (j := 6) (by rfl) (sc_law_drawn).nd rfl rfl (by decide) rfl rfl (pa_cons (pe_callTy call_dictD (by rfl) (T.b_dict) (by decide +kernel) (pa_cons (pv 1) pa_nil)) (pa_cons (pe_cf (ok_law_take T) (hr.mono (by decide)) rfl (T.g__law_take) (pa_cons (pv 0) (pa_cons pe_int pa_nil))) pa_nil)) (by rfl))
    (pss_cons (ps_if (PW.pt (pw_or (pt_cmpR (op_eqE hr.units0) (pv 1) pe_dnewK (nomark _)) (pw_or1 (pt_cmpR op_eq (pv 6) pe_int (nomark _))))) (pss_cons (ps_set (i := 7) (sc_law_drawn).nd rfl (.inl rfl) (pe_tupdK K (pa_cons (pv 2) (pa_cons (pe_cf (ok_law_of T) (hr.mono (by decide)) rfl (T.g__law_of) (pa_cons (pv 0) (pa_cons (pe_lst (pa_cons pe_str (pa_cons pe_str (pa_cons pe_non (pa_cons pe_int pa_nil))))) pa_nil))) pa_nil))))
    (pss_cons (ps_dput hu (pv 5) (pv 2) (pv 7) rfl)
    (pss_one (ps_ret (pe_tup (pa_cons (pe_tupdK K (pa_cons pe_str (pa_cons (pv 7) pa_nil))) (pa_cons (pv 5) pa_nil))))))) pss_nil)
    (pss_cons (ps_set (i := 3) (sc_law_drawn).nd rfl (.inl rfl) (pe_cf (ok_law_of T) (hr.mono (by decide)) rfl (T.g__law_of) (pa_cons (pv 0) (pa_cons (pe_callB (cr_sortedDk rfl) (by rfl) (T.b_sorted) (by decide +kernel) (pa_cons (pv 1) pa_nil)) pa_nil))))
    (pss_cons (ps_if (pt_cmpR op_eq (pv 6) pe_int (nomark _)) (pss_cons (ps_expr (pe_dpop1 (pv 5) (pv 3) ⟨rfl, rfl, rfl, rfl⟩))
    (pss_one (ps_ret (pe_tup (pa_cons (pe_tupdK K (pa_cons pe_str (pa_cons (pv 3) pa_nil))) (pa_cons (pv 5) pa_nil)))))) pss_nil)
    (pss_cons (ps_set (i := 4) (sc_law_drawn).nd rfl (.inl rfl) (pe_cf (ok_law_of T) (hr.mono (by decide)) rfl (T.g__law_of) (pa_cons (pv 0) (pa_cons (pe_lst (pa_cons pe_str (pa_cons pe_str (pa_cons pe_non (pa_cons pe_int pa_nil))))) pa_nil))))
    (pss_cons (ps_dput hu (pv 5) (pv 3) (pe_tupdK K (pa_cons (pv 3) (pa_cons (pv 4) pa_nil))) rfl)
    (pss_one (ps_ret (pe_tup (pa_cons (pe_tupdK K (pa_cons pe_str (pa_cons (pv 3) (pa_cons (pe_tupdK K (pa_cons (pe_tupdK K (pa_cons pe_str (pa_cons pe_str (pa_cons (pv 4) pa_nil)))) pa_nil)) pa_nil)))) (pa_cons (pv 5) pa_nil))))))))))), ?_⟩
  obtain ⟨b, a, n, M, fr, ex, ey, ez, hb, hn, hd, hm, hab, q⟩ := h
  subst ex ey ez
  obtain ⟨kvs, hk, hks, hkd⟩ := hd.at_
  refine ⟨_, rfl, a, _, rfl, .inl hk, fun la nla => ?_⟩
  have s1 : Same H (upd H la (.dK (recK kvs))) := same_new nla
  have lab : la ≠ b := fun z => hb.nt.not (z ▸ nla)
  refine ⟨_, rfl, _, _, rfl, b, n, 4, rfl, rfl, by decide, by decide, hb.keep (s1 b), by omega, fun way H1 hway c1 hb1 => ⟨_, _, rfl, ?_⟩⟩
  have c01 : Chg [b] H H1 := (Chg.of s1).trans c1
  have hla1 : H1 la = some (.dK (recK kvs)) := c1.keep _ _ upd_same (by simp [lab])
  have hk1 : H1 a = some (.dK (recK kvs)) := c01.keep _ _ hk (by simp [hab])
  have hkd1 := hkd.keep c01.tk
  have kl : kvs.length = M.length := by
    have := congrArg List.length hks
    simpa using this
  have kvl : (recK kvs).length < sizeLine := small1000 (by unfold recK; rw [List.length_map, kl]; have := hm.ln; omega)
  have knod : (kvs.map (·.1)).Nodup := by rw [hks]; exact hm.kn
  refine ⟨_, rfl, fun e0 ne0 => ?_⟩
  have s2 := same_new (o := .dK []) ne0
  refine ⟨a, e0, _, rfl, rfl, s2 _ _ hk1, upd_same, _, rfl, ?_⟩
  have c2 : Chg [b] H (upd H1 e0 (.dK [])) := c01.trans (Chg.of s2)
  have hb2 := hb1.keep (s2 b)
  have hla2 := s2 _ _ hla1
  have hk2 := s2 _ _ hk1
  generalize hH2 : upd H1 e0 (.dK []) = H2 at c2 hb2 hla2 hk2
  have hkd2 := hkd.keep c2.tk
  refine ite2 (fun hemp => ?g1) (fun hemp => ?g0)
  case' g0 => refine ⟨_, rfl, rfl, _, rfl, ite2 (fun hw => ?g2) (fun hw => ?g3)⟩
  case g3 =>
    simp only [L2.start, List.map_cons, List.map_nil, List.length_cons, List.length_nil, List.replicate, List.cons_append, List.nil_append, List.set_cons_succ, List.set_cons_zero, Nat.reduceAdd, Nat.reduceSub]
    have hne : M ≠ [] := fun z => hemp (by
      have : kvs = [] := List.length_eq_zero_iff.mp (by rw [kl, z]; rfl)
      rw [this]
      rfl)
    refine ⟨_, rfl, _, rfl, a, _, M.map (·.1), rfl, hk2, by rw [recK_keys, hks], fun ys p hp _ np => ?_⟩
    have s3 := same_new (o := .lst (ys.map V.int)) np
    have pb : p ≠ b := fun z => hb2.nt.not (z ▸ np)
    have yl : ys.length = M.length := by rw [hp.length_eq, List.length_map]
    refine ⟨_, _, rfl, b, p, n + 1, ys.map V.int, rfl, rfl, hb2.keep (s3 b), by omega, upd_same, pb, ?_, ?_, fun j v H3 hj c3 hb3 => ?_⟩
    · intro z
      have := congrArg List.length z
      rw [List.length_map, yl] at this
      exact hne (List.length_eq_zero_iff.mp this)
    · rw [List.length_map, yl]
      have := hm.ln
      omega
    rw [List.getElem?_map] at hj
    obtain ⟨id, hid, eid⟩ := Option.map_eq_some_iff.mp hj
    subst eid
    obtain ⟨rr, hrm, erm⟩ := List.mem_map.mp (hp.mem_iff.mp (List.mem_of_getElem? hid))
    obtain ⟨id', kd⟩ := rr
    have erm : id' = id := erm
    subst erm
    have c13 : Chg [b] H H3 := (c2.trans (Chg.of s3)).trans c3
    have hla3 : H3 la = some (.dK (recK kvs)) := c3.keep _ _ (s3 _ _ hla2) (by simp [lab])
    have hkd3 := hkd.keep c13.tk
    have hkm : ∃ v, (id', v) ∈ kvs := by
      have h1 : id' ∈ kvs.map (·.1) := by rw [hks]; exact List.mem_map.mpr ⟨_, hrm, rfl⟩
      obtain ⟨x, hx, ex⟩ := List.mem_map.mp h1
      obtain ⟨x1, x2⟩ := x
      have ex : x1 = id' := ex
      subst ex
      exact ⟨x2, hx⟩
    obtain ⟨ov, hov⟩ := hkm
    refine ⟨_, rfl, rfl, _, rfl, ite2 (fun h1 => ?_) (fun h1 => ?_)⟩
    · refine ⟨_, rfl, la, rfl, .inl ⟨_, .inl hla3⟩, _, rfl, _, .inl id', ov, hla3, rfl, rec_val knod hov, ?_⟩
      rw [rec_drop]
      have tk4 := tk_dk (o := .dK (recK (kvs.filter fun p => decide (p.1 ≠ id')))) hla3
      have c4 := chg_fresh (o := .dK (recK (kvs.filter fun p => decide (p.1 ≠ id')))) c13 nla
      refine ⟨_, rfl, _, Tds.cons (.str _) (.cons (.int _) .nil), Nat.le_of_ble_eq_true rfl, fun dv H5 sm5 hdv => ⟨_, rfl, Nat.le_of_ble_eq_true rfl, fun t nt => ?_⟩⟩
      have s6 := same_new (o := .tup [dv, .ref la]) nt
      have c6 := (c4.trans (Chg.of sm5)).trans (Chg.of s6)
      obtain ⟨f1, f2⟩ := tds_filter (n := id') hks hkd3
      refine q t dv la _ _ _ c6 (((hb3.keep fun o e => by rw [upd_ne (Ne.symm lab)]; exact e).keep (sm5 b)).keep (s6 b) |>.mono (by omega)) nla ⟨_, s6 _ _ (sm5 _ _ upd_same), f1, ((f2.keep tk4).same sm5).same s6⟩ (hdv.same s6) (.remove hrm) upd_same
    · refine ⟨_, rfl, Nat.le_of_ble_eq_true rfl, fun l nl => ?_⟩
      have s5 := same_new (o := .lst [V.str "cccccc", .str "d", .non, .int 9]) nl
      have lb : l ≠ b := fun z => hb3.nt.not (z ▸ nl)
      refine ⟨_, _, rfl, b, l, n + 2, _, rfl, rfl, hb3.keep (s5 b), by omega, upd_same, lb, List.cons_ne_nil _ _, Nat.le_of_ble_eq_true rfl, fun j v H6 hj c6 hb6 => ?_⟩
      obtain ⟨wo, hwo, hwt⟩ := cells_b hj
      have hla6 : H6 la = some (.dK (recK kvs)) := c6.keep _ _ (s5 _ _ hla3) (by simp [lab])
      have c16 : Chg [b] H H6 := (c13.trans (Chg.of s5)).trans c6
      refine ⟨_, rfl, _, rfl, _, Tds.cons (.int _) (.cons (hwt K H6) .nil), Nat.le_of_ble_eq_true rfl, fun rv H7 sm7 hrv => ?_⟩
      have hla7 := sm7 _ _ hla6
      refine ⟨_, rfl, _, rfl, la, _, rfl, DPut.k (k := .inl id') hla7 kvl, ?_⟩
      rw [rec_put_old ⟨_, hov, rfl⟩]
      have c17 := c16.trans (Chg.of sm7)
      have c8 := chg_fresh (o := .dK (recK (kvs.map fun p => if p.1 = id' then (id', rv) else p))) c17 nla
      have tk8 := tk_dk (o := .dK (recK (kvs.map fun p => if p.1 = id' then (id', rv) else p))) hla7
      have hkd7 := hkd.keep c17.tk
      obtain ⟨f1, f2⟩ := tds_chg hrv hks hkd7
      refine ⟨_, rfl, _, rfl, _, Tds.cons (.str _) (.cons (.str _) (.cons (hwt K _) .nil)), Nat.le_of_ble_eq_true rfl, fun cv H9 sm9 hcv => ?_⟩
      refine ⟨_, Tds.cons hcv .nil, Nat.le_of_ble_eq_true rfl, fun cv2 HA smA hcv2 => ?_⟩
      refine ⟨_, Tds.cons (.str _) (.cons (.int _) (.cons hcv2 .nil)), Nat.le_of_ble_eq_true rfl, fun dv HB smB hdv => ⟨_, rfl, Nat.le_of_ble_eq_true rfl, fun t nt => ?_⟩⟩
      have s9B := (sm9.trans smA).trans smB
      have sC := same_new (o := .tup [dv, .ref la]) nt
      refine q t dv la _ _ _ ((c8.trans (Chg.of s9B)).trans (Chg.of sC)) ((((hb6.keep (sm7 b)).keep fun o e => by rw [upd_ne (Ne.symm lab)]; exact e).keep (s9B b)).keep (sC b) |>.mono (by omega)) nla ⟨_, sC _ _ (s9B _ _ upd_same), f1, ((f2.keep tk8).same s9B).same sC⟩ (hdv.same sC) (.change hrm hwo) upd_same
  case' g2 => clear hemp hw
  case' g1 => clear hemp
  all_goals
    refine ⟨_, rfl, _, rfl, Nat.le_of_ble_eq_true rfl, fun l nl => ?_⟩
    have s5 := same_new (o := .lst [V.str "aaaaaa", .str "bb", .non, .int 4]) nl
    have lb : l ≠ b := fun z => hb2.nt.not (z ▸ nl)
    refine ⟨_, _, rfl, b, l, n + 1, _, rfl, rfl, hb2.keep (s5 b), by omega, upd_same, lb, List.cons_ne_nil _ _, Nat.le_of_ble_eq_true rfl, fun j v H6 hj c6 hb6 => ?_⟩
    obtain ⟨kd, hkdo, hwt⟩ := cells_a hj
    have hla6 : H6 la = some (.dK (recK kvs)) := c6.keep _ _ (s5 _ _ hla2) (by simp [lab])
    have c16 : Chg [b] H H6 := (c2.trans (Chg.of s5)).trans c6
    refine ⟨_, Tds.cons (.int _) (.cons (hwt K H6) .nil), Nat.le_of_ble_eq_true rfl, fun rv H7 sm7 hrv => ?_⟩
    have hla7 := sm7 _ _ hla6
    have fresh : ∀ p ∈ kvs, p.1 ≠ fr := fun p hp => by
      have h1 : p.1 ∈ M.map (·.1) := by rw [← hks]; exact List.mem_map.mpr ⟨p, hp, rfl⟩
      obtain ⟨r, hr1, er⟩ := List.mem_map.mp h1
      have := hm.lt r hr1
      omega
    refine ⟨_, rfl, _, rfl, _, rfl, la, _, rfl, DPut.k (k := .inl fr) hla7 kvl, ?_⟩
    rw [rec_put_new fresh]
    have c17 := c16.trans (Chg.of sm7)
    have c8 := chg_fresh (o := .dK (recK (kvs ++ [(fr, rv)]))) c17 nla
    have tk8 := tk_dk (o := .dK (recK (kvs ++ [(fr, rv)]))) hla7
    have hkd7 := hkd.keep c17.tk
    refine ⟨_, rfl, _, Tds.cons (.str _) (.cons (hrv.keep tk8) .nil), Nat.le_of_ble_eq_true rfl, fun dv HB smB hdv => ⟨_, rfl, Nat.le_of_ble_eq_true rfl, fun t nt => ?_⟩⟩
    have sC := same_new (o := .tup [dv, .ref la]) nt
    refine q t dv la _ _ _ ((c8.trans (Chg.of smB)).trans (Chg.of sC)) ((((hb6.keep (sm7 b)).keep fun o e => by rw [upd_ne (Ne.symm lab)]; exact e).keep (smB b)).keep (sC b) |>.mono (by omega)) nla ⟨_, sC _ _ (smB _ _ upd_same), ?_, ?_⟩ (hdv.same sC) (.put hkdo) upd_same
    · rw [List.map_append, List.map_append, hks]
      rfl
    · rw [List.map_append, List.map_append]
      exact ((((hkd7.keep tk8).app (.cons (hrv.keep tk8) .nil)).same smB).same sC)
end Rc


set_option Elab.async false
set_option linter.all false
set_option maxRecDepth 100000
set_option maxHeartbeats 4000000
namespace Rc
open PySem PySem.Spec PyProof.Rows L2 He
theorem mem_vis {ps : List Page} {f : Ver → Bool} {x : Note} (h : x ∈ allVis ps f) : ∃ p v, ps[x.1]? = some p ∧ p[x.2.1]? = some (Slot.row v) ∧ f v = true ∧ v.id = x.2.2.1 ∧ v.kd = x.2.2.2 := by
  unfold allVis at h
  obtain ⟨a, ha, h⟩ := List.mem_flatMap.mp h
  unfold pgVis at h
  obtain ⟨i, hi, h⟩ := List.mem_filterMap.mp h
  have hl := List.mem_range.mp ha
  have hp : ps[a]? = some ps[a] := List.getElem?_eq_getElem hl
  have eg : ps.getD a [] = ps[a] := by
    rw [List.getD_eq_getElem?_getD, hp]
    rfl
  rw [eg] at h
  unfold visAt at h
  cases e : ps[a][i]? with
  | none => rw [e] at h; cases h
  | some s =>
    rw [e] at h
    cases s with
    | row v =>
      have h : (if f v = true then some (a, i, v.id, v.kd) else none) = some x := h
      split at h
      · rename_i hf
        cases h
        exact ⟨ps[a], v, hp, e, hf, rfl, rfl⟩
      · cases h
    | un => cases h
    | dead => cases h
    | red n => cases h
/-- a step of the session: what the rest of the law must know -/
structure Step (S : Sto) (d : Dl) (S' : Sto) (d' : Dl) : Prop where
  ow : S'.L.owners = S.L.owners
  st : S'.L.states = S.L.states
  n : d'.n = d.n
  pa : d'.parts = d.parts
  lo : ∀ r M, d.n ≤ r → r ≤ S.L.owners.length → Rep (undB S.L) S.T.pages r M → Rep (undB S'.L) S'.T.pages r M
theorem Ses.len60 {S : Sto} {d : Dl} {w : Nat} (h : Ses S d w) (hw : w ≤ 150) : S.T.pages.length < 60 := by
  have := h.pb.ln
  omega
/-- a scan was opened (and closed) -/
theorem Ses.scan {S : Sto} {d : Dl} {w : Nat} (h : Ses S d w) (n : Nat) : Ses { S with L := stepD S.L [] d [], opened := n, cs := [] } { d with cmd := d.cmd + 1 } w := by
  refine ⟨rfl, h.kl, fun q hq hs => ?_, h.sl, h.n1, h.nl, h.ru, h.all, h.cm, h.ro.mono fun m c => numS, h.pb, rfl, h.va⟩
  obtain ⟨d2, h1, h2⟩ := h.ra q hq hs
  rw [h.ac] at h1
  exact ⟨{ d with cmd := d.cmd + 1 }, by simp [stepD, Led.withD], by rw [← h2, List.mem_singleton.mp h1]⟩
theorem chg_nodup {M : List Row} {id : Int} {wo : PyData} : (chgM id wo M).map (·.1) = M.map (·.1) := by
  unfold chgM
  rw [List.map_map]
  refine List.map_congr_left fun r _ => ?_
  show (if r.1 = id then (id, wo) else r).1 = r.1
  split
  · rename_i h
    exact h.symm
  · rfl
theorem perm_rem {M R : List Row} {id : Int} {kd : PyData} (nd : (M.map (·.1)).Nodup) (hm : (id, kd) ∈ M) (h : ((id, kd) :: R).Perm M) : R.Perm (M.filter fun p => decide (p.1 ≠ id)) := by
  have h1 : (((id, kd) :: R).filter fun p => decide (p.1 ≠ id)).Perm (M.filter fun p => decide (p.1 ≠ id)) := h.filter _
  have nd2 : (((id, kd) :: R).map (·.1)).Nodup := (h.map _).nodup_iff.mpr nd
  have h3 : ∀ r ∈ R, r.1 ≠ id := fun r hr z => (List.nodup_cons.mp nd2).1 (by show id ∈ _; rw [← z]; exact List.mem_map.mpr ⟨r, hr, rfl⟩)
  rw [List.filter_cons, if_neg (by simp), List.filter_eq_self.mpr fun r hr => decide_eq_true (h3 r hr)] at h1
  exact h1
theorem perm_chg {M R : List Row} {id : Int} {kd wo : PyData} (nd : (M.map (·.1)).Nodup) (h : ((id, kd) :: R).Perm M) : ((id, wo) :: R).Perm (chgM id wo M) := by
  have h1 : (chgM id wo ((id, kd) :: R)).Perm (chgM id wo M) := h.map _
  have nd2 : (((id, kd) :: R).map (·.1)).Nodup := (h.map _).nodup_iff.mpr nd
  have h3 : ∀ r ∈ R, r.1 ≠ id := fun r hr z => (List.nodup_cons.mp nd2).1 (by show id ∈ _; rw [← z]; exact List.mem_map.mpr ⟨r, hr, rfl⟩)
  have e : chgM id wo ((id, kd) :: R) = (id, wo) :: R := by
    unfold chgM
    rw [List.map_cons, if_pos rfl]
    congr 1
    refine (List.map_congr_left fun r hr => ?_).trans (List.map_id _)
    rw [if_neg (h3 r hr)]
    rfl
  rw [e] at h1
  exact h1
def sp_law_done (K : PySem.W.Frag) : Sp := s3 fun x y z H Q => ∃ (b : Addr) (S : Sto) (d : Dl) (w : Nat) (M M' : List Row) (fr : Int) (dd : PyData), x = .ref b ∧ y = .int (d.n : Int) ∧ Td K H z dd ∧ StoAt K H b S ∧ Ses S d w ∧ Top S ∧ w ≤ 150 ∧ RecOk M fr ∧ Deed M fr dd M' ∧ Rep (undB S.L) S.T.pages (S.L.owners.length + 1) M ∧
  ∀ (S' : Sto) (d' : Dl) (H' : Hp), Chg (S.fp b) H H' → StoAt K H' b S' → Ses S' d' (w + 1) → Step S d S' d' → Rep (undB S'.L) S'.T.pages (S'.L.owners.length + 1) M' → S'.fp b = S.fp b → Q (.bl true) H'
theorem ok_law_done {P : Program} {w : World} {K : PySem.W.Frag} {mg : Str → Option Value} {base : Heap} (T : Tx K mg) : Df P w K mg base (fAd K ("_law_done", none)) 10 [] (sp_law_done K) := by
  obtain ⟨fd, F⟩ := fn_law_done T
  refine df3 F sc_law_done (fun _ _ _ _ _ _ us hl => match us, hl with | [_, _, _], _ => rfl) fun store t deed H Q h => ?_
  intro cdv A outer s E hr
  have hu := hu_of hr
  refine ⟨_, (pss_cons (ps_if (pt_cmpR op_eq (pe_ixdK K (pv 2) pe_int) pe_str (nomark _)) (pss_one (ps_ret (pe_cmpR op_eq (pe_callB (call_len_seqK K) (by rfl) (T.b_len) (by decide +kernel) (pa_cons (pe_mt (ok_Base_put T) (T.m_Base_put) (hr.mono (by decide)) (pv 0) (pa_cons (pv 1) (pa_cons (pe_ixdK K (pv 2) pe_int) pa_nil))) pa_nil)) pe_int (nomark _)))) pss_nil)
    (pss_cons (ps_set (i := 3) (sc_law_done).nd rfl (.inl rfl) (pe_mt (ok_Base_scan_1 T) (T.m_Base_scan) (hr.mono (by decide)) (pv 0) (pa_cons (pv 1) pa_nil)))
    (pss_cons (ps_set (i := 4) (sc_law_done).nd rfl (.inl rfl) (pe_mt (ok_Base_next T) (T.m_Base_next) (hr.mono (by decide)) (pv 0) (pa_cons (pv 3) pa_nil)))
    (pss_cons (ps_while PassesOwn.never (PW.pt (pw_and (pt_cmp (pc_notN (pv 4)) rfl) (pw_and1 (pt_cmpR op_ne (pe_ixdK K (pe_ixdK K (pv 4) pe_int) pe_int) (pe_ixdK K (pv 2) pe_int) (nomark _))))) (pss_one (ps_set (i := 4) (sc_law_done).nd rfl (.inl rfl) (pe_mt (ok_Base_next T) (T.m_Base_next) (hr.mono (by decide)) (pv 0) (pa_cons (pv 3) pa_nil)))))
    (pss_cons (ps_set (i := 5) (sc_law_done).nd rfl (.inl rfl) (pe_ifExp (pt_cmp (pc_isN (pv 4)) rfl) (pe_tupdK K (pa_cons pe_str pa_nil)) (pe_ifExp (pt_cmpR op_eq (pe_ixdK K (pv 2) pe_int) pe_str (nomark _)) (pe_mt (ok_Base_remove T) (T.m_Base_remove) (hr.mono (by decide)) (pv 0) (pa_cons (pv 3) pa_nil)) (pe_mt (ok_Base_change T) (T.m_Base_change) (hr.mono (by decide)) (pv 0) (pa_cons (pv 3) (pa_cons (pe_ixdK K (pv 2) pe_int) pa_nil))))))
    (pss_cons (ps_expr (pe_mt (ok_Base_close T) (T.m_Base_close) (hr.mono (by decide)) (pv 0) (pa_cons (pv 3) pa_nil)))
    (pss_one (ps_ret (pe_cmpR op_eq (pe_ixdK K (pv 5) pe_int) pe_str (nomark _)))))))))), ?_⟩
  obtain ⟨b, S, d, w, M, M', fr, dd, ex, ey, hz, hS, hs, top, hw, hm, hde, hrep, q⟩ := h
  subst ex ey
  obtain ⟨dx, vc, e, e1⟩ := hS.ob
  have rd := hs.rd
  have hlast := hs.last top
  have l60 := hs.len60 hw
  cases hde
  case put kd ok =>
    refine ⟨_, rfl, _, 0, _, hz, rfl, rfl, fun v0 h0 => ?_⟩
    rw [h0.str_eq]
    refine ⟨rfl, _, rfl, ite2 (fun _ => ?_) fun h => absurd (by decide +kernel) h⟩
    refine ⟨_, rfl, b, dx, _, rfl, e, _, rfl, _, rfl, _, 1, _, hz, rfl, rfl, fun v1 h1 => ?_⟩
    refine ⟨_, _, _, rfl, b, S, [], d, [], _, fr, kd, rfl, rfl, h1, ok.ok, hS, rd, hlast, l60, fun v n s H1 c1 hv ho h1 => ?_⟩
    obtain ⟨pa, ep, hpq⟩ := pl_open hv
    subst ep
    refine ⟨pa, _, rfl, .inr hpq.t, rfl, ?_⟩
    obtain ⟨p1, p2, p3⟩ := put_step (id := fr) (kd := kd) hs top ho
    have e2 : decide (V.int ((2 : Nat) : Int) = V.int 2) = true := by decide +kernel
    show Q (.bl (decide (V.int ((2 : Nat) : Int) = V.int 2))) H1
    rw [e2]
    exact q _ _ H1 c1 h1 p1 ⟨rfl, rfl, rfl, rfl, fun r M hr0 hr1 hr => p2 r M hr1 hr⟩ ((p3 M hrep).trans (List.perm_append_singleton _ _).symm) (wrote_fp rd)
  case' remove id kd hrm =>
    have hneq : decide (V.str "remove" = V.str "put") = false := by decide +kernel
  case' change id kd wo hrm ok =>
    have hneq : decide (V.str "change" = V.str "put") = false := by decide +kernel
  all_goals
    refine ⟨_, rfl, _, 0, _, hz, rfl, rfl, fun v0 h0 => ?_⟩
    rw [h0.str_eq]
    refine ⟨rfl, _, rfl, ite2 (fun h => absurd h (by rw [hneq]; simp)) fun _ => ?_⟩
    refine ⟨_, rfl, b, dx, _, rfl, e, _, rfl, _, _, _, _, _, _, rfl, b, S, [], d, [], S.L.owners.length, rfl, rfl, rfl, rfl, rfl, ⟨hS, hs.kl, hs.ra, rd⟩, hs.cs, hlast, fun c N rs H1 nc nN c1 h1 hC hrs => ?_⟩
    have cf : c ∉ S.fp b := fun z => hS.there z nc
    have Nf : N ∉ S.fp b := fun z => hS.there z nN
    have efp : (S.scanned [] d [] c).fp b = S.fp b := scanned_fp rd
    obtain ⟨dx1, vc1, f1, _⟩ := h1.ob
    have hr0 : restOf S.T.pages (seesB (snNow S rs d) (withS S.L.states .und)) ⟨d.n, S.L.owners.length, snNow S rs d, none, S.T.pages.length, 0, N, []⟩ = allVis S.T.pages (seesB (snNow S rs d) (withS S.L.states .und)) := allVis_rest rfl rfl rfl
    refine ⟨_, rfl, b, dx1, _, rfl, f1, _, rfl, _, _, rfl, b, S.scanned [] d [] c, S.opened + 1, c, _, rfl, rfl, h1, by simp [Sto.scanned], hC, by rw [efp]; exact cf, by rw [efp]; exact Nf, Nat.le_refl _, Nat.zero_le _, fun v2 C2 H2 c2 h2 hC2 he2 hn2 hx2 => ?_⟩
    have hx2 : NextR K H2 v2 (allVis S.T.pages (seesB (snNow S rs d) (withS S.L.states .und))) C2 (restOf S.T.pages (seesB (snNow S rs d) (withS S.L.states .und)) C2) := hr0 ▸ hx2
    have seen : ∀ p, p ∈ S.T.pages → ∀ v, Slot.row v ∈ p → seesB (snNow S rs d) (withS S.L.states .und) v = fU (undB S.L) (S.L.owners.length + 1) v := fun p hp v hv => (sees_vis hs hrs hp hv).trans (hi_f hs hp hv).symm
    have hall : ((allVis S.T.pages (seesB (snNow S rs d) (withS S.L.states .und))).map cellsN).Perm M := by
      rw [all_cells, vl_congr seen]
      exact hrep
    have hex : ∃ x ∈ allVis S.T.pages (seesB (snNow S rs d) (withS S.L.states .und)), x.2.2.1 = id := by
      obtain ⟨x, hx, exx⟩ := List.mem_map.mp (hall.mem_iff.mpr hrm)
      exact ⟨x, hx, congrArg Prod.fst exx⟩
    generalize hA : allVis S.T.pages (seesB (snNow S rs d) (withS S.L.states .und)) = all at hx2 hall hex
    simp only [L2.start, List.map_cons, List.map_nil, List.length_cons, List.length_nil, List.replicate, List.cons_append, List.nil_append, List.set_cons_succ, List.set_cons_zero, Nat.reduceAdd, Nat.reduceSub]
    refine ⟨fun m σ' H' => ∃ v C' rest, σ' = [some (.ref b), some (.int (d.n : Int)), some deed, some (.int ((S.opened + 1 : Nat) : Int)), some v, none] ∧ Chg [c, N] H1 H' ∧ StoAt K H' b (S.scanned [] d [] c) ∧ CurAt K H' c C' ∧ CurEq ⟨d.n, S.L.owners.length, snNow S rs d, none, S.T.pages.length, 0, N, []⟩ C' ∧ C'.noted.length ≤ 8 ∧
      NextR K H' v rest C' (restOf S.T.pages (seesB (snNow S rs d) (withS S.L.states .und)) C') ∧ (∃ x ∈ rest, x.2.2.1 = id) ∧ (∀ x ∈ rest, x ∈ all) ∧ m = rest.length, ⟨_, v2, C2, all, rfl, c2, h2, hC2, he2, hn2, hx2, hex, fun _ h => h, rfl⟩, ?_⟩
    rintro m σ' H3 ⟨v3, C3, rest, rfl, c3, h3, hC3, he3, hn3, hx3, ⟨x, hx, exid⟩, hsub, em⟩
    rcases hx3 with ⟨er, _, _⟩ | ⟨ra, ri, rid, rkd, er, hnd, htold⟩
    · rw [er] at hx
      cases hx
    have ne := note_ne hnd
    have cT : Chg (c :: N :: S.fp b) H H3 := (c1.mono fun y hy => by simp [hy]).trans (c3.mono fun y hy => by simp only [List.mem_cons, List.not_mem_nil, or_false] at hy ⊢; rcases hy with z | z; exact .inl z; exact .inr (.inl z))
    have hz3 := hz.keep cT.tk
    refine ⟨_, rfl, _, rfl, ite2 (fun _ => ?_) fun h => absurd (by simp [ne]) h⟩
    refine ⟨_, rfl, _, 1, _, hnd, rfl, rfl, fun rv hrv => ⟨_, 0, _, hrv, rfl, rfl, fun iv hiv => ⟨_, rfl, _, 1, _, hz3, rfl, rfl, fun jv hjv => ?_⟩⟩⟩
    rw [hiv.int_eq, hjv.int_eq]
    refine ⟨rfl, _, rfl, ite2 (fun hc => ?_) (fun hc => ?_)⟩
    case refine_1 =>
      have hne : rid ≠ id := fun z => by
        rw [z] at hc
        simp at hc
      have hx' : x ∈ restOf S.T.pages (seesB (snNow S rs d) (withS S.L.states .und)) C3 := by
        rw [er] at hx
        rcases List.mem_cons.mp hx with z | z
        · rw [z] at exid
          exact absurd exid hne
        · exact z
      obtain ⟨dx3, vc3, f3, _⟩ := h3.ob
      have eN : C3.N = N := he3.N
      refine ⟨fun σ2 H2 => ∃ m', m' < m ∧ ∃ v C' rest, σ2 = [some (.ref b), some (.int (d.n : Int)), some deed, some (.int ((S.opened + 1 : Nat) : Int)), some v, none] ∧ Chg [c, N] H1 H2 ∧ StoAt K H2 b (S.scanned [] d [] c) ∧ CurAt K H2 c C' ∧ CurEq ⟨d.n, S.L.owners.length, snNow S rs d, none, S.T.pages.length, 0, N, []⟩ C' ∧ C'.noted.length ≤ 8 ∧
        NextR K H2 v rest C' (restOf S.T.pages (seesB (snNow S rs d) (withS S.L.states .und)) C') ∧ (∃ x ∈ rest, x.2.2.1 = id) ∧ (∀ x ∈ rest, x ∈ all) ∧ m' = rest.length, fun _ _ z => z, ?_⟩
      refine ⟨_, rfl, b, dx3, _, rfl, f3, _, rfl, _, _, rfl, b, S.scanned [] d [] c, S.opened + 1, c, C3, rfl, rfl, h3, by simp [Sto.scanned], hC3, by rw [efp]; exact cf, by rw [efp, eN]; exact Nf, by rw [he3.many]; exact Nat.le_refl _, hn3, fun v4 C4 H4 c4 h4 hC4 he4 hn4 hx4 => ?_⟩
      rw [eN] at c4
      rw [he3.sn] at hx4
      exact ⟨_, by rw [em, er]; exact Nat.lt_succ_self _, v4, C4, _, rfl, c3.trans c4, h4, hC4, he3.trans he4, hn4, hx4, ⟨x, hx', exid⟩, fun y hy => hsub y (by rw [er]; exact List.mem_cons_of_mem _ hy), rfl⟩
    have eid : rid = id := by
      have : ¬ ¬ rid = id := fun z => hc (by simp [z])
      exact Decidable.not_not.mp this
    subst eid
    obtain ⟨p, v, hp, hv, hf, hid, hkd⟩ := mem_vis (x := (ra, ri, rid, rkd)) (ps := S.T.pages) (f := seesB (snNow S rs d) (withS S.L.states .und)) (by rw [hA]; exact hsub _ (by rw [er]; exact List.mem_cons_self))
    have hp : S.T.pages[ra]? = some p := hp
    have hv : p[ri]? = some (.row v) := hv
    have hid : v.id = rid := hid
    subst hid
    have hpm := List.mem_of_getElem? hp
    have hvm := List.mem_of_getElem? hv
    have hvis : visU (undB S.L) v = true := by
      rw [← sees_vis hs hrs hpm hvm]
      exact hf
    obtain ⟨m1, m2⟩ := vis_en hvis
    have hs1 := hs.scan (S.opened + 1)
    have top1 : Top { S with L := stepD S.L [] d [], opened := S.opened + 1, cs := [] } := top
    obtain ⟨dx3, vc3, f3, _⟩ := h3.ob
    have eN : C3.N = N := he3.N
    have et : C3.t = d.n := he3.t
    have rd1 := step_runs rd
    have cl : (S.scanned [] d [] c).cs = [(S.opened + 1, c)] := rfl
    have chgD : ∀ {H4 : Hp}, Chg (S.fp b) H3 H4 → Chg (S.fp b) H H4 := fun {H4} c4 => by
      refine ⟨fun A o eA nA => c4.keep _ _ (cT.keep _ _ eA fun z => ?_) nA, fun A o eA i => c4.imm _ _ (cT.imm _ _ eA i) i, fun A hA => c4.live _ (cT.live _ hA)⟩
      rcases List.mem_cons.mp z with z | z
      · rw [z, nc] at eA
        cases eA
      · rcases List.mem_cons.mp z with z | z
        · rw [z, nN] at eA
          cases eA
        · exact nA z
    refine ⟨_, rfl, _, rfl, ite2 (fun h => absurd h (by simp [ne])) fun _ => ?_⟩
    refine ⟨_, rfl, _, 0, _, hz3, rfl, rfl, fun v0' h0' => ?_⟩
    rw [h0'.str_eq]
    refine ⟨rfl, _, rfl, ?_⟩
  · refine ite2 (fun h => absurd h (by decide +kernel)) fun _ => ?_
    have hnn : v.mkr ∉ withS (S.scanned [] d [] c).L.states .und := m1
    refine ⟨_, rfl, b, dx3, _, rfl, f3, _, rfl, _, rfl, _, 2, _, hz3, rfl, rfl, fun cv hcv => ?_⟩
    refine ⟨_, _, _, rfl, b, S.scanned [] d [] c, S.opened + 1, c, C3, [], { d with cmd := d.cmd + 1 }, [], S.L.owners.length, ra, ri, p, v, wo, rfl, rfl, hcv, ok.ok, h3, rfl, hC3, by rw [efp]; exact cf, by rw [efp, eN]; exact Nf, et, htold, rd1, hlast, l60, hp, hv, m2, hnn, fun rr n s only ss qq H4 c4 h4 hch hss hrr => ?_⟩
    rw [efp] at c4
    obtain ⟨r1, r2, r3⟩ := change_step hs1 top1 hp hv hvis hch hss rfl
    obtain ⟨dx4, vc4, f4, _⟩ := h4.ob
    refine ⟨_, rfl, b, dx4, _, rfl, f4, _, rfl, _, _, rfl, b, _, S.opened + 1, c, rfl, rfl, h4, rfl, fun H5 c5 h5 => ?_⟩
    have efp2 := (wrote_fp (b := b) (ps := putPg (putPg (S.T.pages.set ra qq) ra ri (.row (endV v S.L.owners.length (d.cmd + 1) (some (n, s))))) n s (newV S.L.owners.length (d.cmd + 1) only v.id wo)) rd1).trans efp
    have c5 : Chg (S.fp b) H4 H5 := efp2 ▸ c5
    refine ⟨_, rfl, _, 0, _, hrr.keep c5.tk, rfl, rfl, fun w0 hw0 => ?_⟩
    rw [hw0.str_eq]
    refine ⟨rfl, ?_⟩
    have e2 : decide (V.str "done" = V.str "done") = true := by decide +kernel
    show Q (.bl (decide (V.str "done" = V.str "done"))) H5
    rw [e2]
    obtain ⟨M2, hp1, hp2⟩ := r3 M hrep
    refine q _ _ H5 (chgD (c4.trans c5)) h5 r1 ⟨rfl, rfl, rfl, rfl, fun r M hr0 hr1 hr => r2 r M hr0 hr1 hr⟩ ?_ efp2
    exact List.Perm.trans hp2 (perm_chg hm.kn hp1)
  · refine ite2 (fun _ => ?_) fun h => absurd (by decide +kernel) h
    obtain ⟨r1, r2, r3⟩ := remove_step hs1 top1 hp hv hvis
    refine ⟨_, rfl, b, dx3, _, rfl, f3, _, rfl, _, _, rfl, b, S.scanned [] d [] c, S.opened + 1, c, C3, [], { d with cmd := d.cmd + 1 }, [], S.L.owners.length, ra, ri, p, v, rfl, rfl, h3, by simp [Sto.scanned], hC3, by rw [efp]; exact cf, by rw [efp, eN]; exact Nf, et, htold, rd1, hlast, l60, hp, hv, m2, fun rr H4 c4 h4 hrr => ?_⟩
    rw [efp] at c4
    obtain ⟨dx4, vc4, f4, _⟩ := h4.ob
    refine ⟨_, rfl, b, dx4, _, rfl, f4, _, rfl, _, _, rfl, b, _, S.opened + 1, c, rfl, rfl, h4, rfl, fun H5 c5 h5 => ?_⟩
    have efp2 : ((S.scanned [] d [] c).wrote [] { d with cmd := d.cmd + 1 } [] (putPg S.T.pages ra ri (.row (endV v S.L.owners.length (d.cmd + 1) none)))).fp b = S.fp b := (wrote_fp rd1).trans efp
    have c5 : Chg (S.fp b) H4 H5 := efp2 ▸ c5
    refine ⟨_, rfl, _, 0, _, hrr.keep c5.tk, rfl, rfl, fun w0 hw0 => ?_⟩
    rw [hw0.str_eq]
    refine ⟨rfl, ?_⟩
    have e2 : decide (V.str "done" = V.str "done") = true := by decide +kernel
    show Q (.bl (decide (V.str "done" = V.str "done"))) H5
    rw [e2]
    have hperm := r3 M hrep
    refine q _ _ H5 (chgD (c4.trans c5)) h5 r1 ⟨rfl, rfl, rfl, rfl, fun r M hr0 hr1 hr => r2 r M hr1 hr⟩ ?_ efp2
    exact perm_rem hm.kn (hperm.mem_iff.mp List.mem_cons_self) hperm
end Rc


set_option Elab.async false
set_option linter.all false
set_option maxRecDepth 100000
set_option maxHeartbeats 4000000
namespace Rc
open PySem PySem.Spec PyProof.Rows L2 He
theorem pgs_len {us cm : List Nat} {ps ps' : List Page} (h : PgStep us cm ps ps') : ps'.length = ps.length := by
  obtain ⟨n, p, q, _, e, _⟩ := h
  rw [e, List.length_set]
/-- the store while a vacuum goes on -/
structure VSt (K : PySem.W.Frag) (H0 : Hp) (b : Addr) (S : Sto) (w : Nat) (M : List Row) (ps : List Page) (H : Hp) (F : List Addr) : Prop where
  fr : ∀ x ∈ F, H0 x = none
  c : Chg (S.fp b ++ F) H0 H
  rest : Rest (S.wT ps) w M
  ln : ps.length = S.T.pages.length
theorem chg_drop {fp F : List Addr} {H H' : Hp} (c : Chg (fp ++ F) H H') (n : ∀ x ∈ F, H x = none) : Chg fp H H' :=
  ⟨fun a o e h => c.keep a o e fun z => (by
    rcases List.mem_append.mp z with y | y
    · exact h y
    · rw [n a y] at e
      cases e), c.imm, c.live⟩
def SwI (K : PySem.W.Frag) (H : Hp) (b : Addr) (S : Sto) (w : Nat) (M : List Row) (a : Addr) (m : Nat) (r : V) (H5 : Hp) : Prop :=
  (∃ ps, Chg (S.fp b) H H5 ∧ StoAt K H5 b (S.wT ps) ∧ Rest (S.wT ps) w M ∧ Td K H5 r overD) ∨
  ∃ (wd : Str) (k1 k2 : Nat) (ps' : List Page) (W' : Vac) (F' : List Addr), (∀ x ∈ F', H x = none) ∧ Chg (S.fp b ++ F') H H5 ∧ StoAt K H5 b { S.wT ps' with vac := .ref a } ∧ Rest (S.wT ps') w M ∧ ps'.length = S.T.pages.length ∧ VacAt K H5 a W' ∧ (∀ x ∈ W'.fp a, x ∈ F') ∧ VOk (S.wT ps') W' ∧ vacM W' + m ≤ 2 * S.T.pages.length ∧ (wd = "pruned" ∨ wd = "freed") ∧ Td K H5 r (wordD wd k1 k2)
def sp_law_swept (K : PySem.W.Frag) : Sp := s1 fun x H Q => ∃ (b : Addr) (S : Sto) (w : Nat) (M : List Row), x = .ref b ∧ StoAt K H b S ∧ Rest S w M ∧ w ≤ 150 ∧
  ∀ (ps : List Page) (H' : Hp), Chg (S.fp b) H H' → StoAt K H' b (S.wT ps) → Rest (S.wT ps) w M → Q (.bl true) H'
theorem wT_vac {S : Sto} {ps : List Page} : ({ S with vac := S.vac } : Sto).wT ps = S.wT ps := rfl
theorem ok_law_swept {P : Program} {w : World} {K : PySem.W.Frag} {mg : Str → Option Value} {base : Heap} (T : Tx K mg) : Df P w K mg base (fAd K ("_law_swept", none)) 12 [] (sp_law_swept K) := by
  obtain ⟨fd, F⟩ := fn_law_swept T
  refine df1 F sc_law_swept (fun _ _ _ _ _ _ us hl => match us, hl with | [_], _ => rfl) fun store H Q h => ?_
  intro cdv A outer s E hr
  have hu := hu_of hr
  refine ⟨_, (pss_cons (ps_for PassesOwn.never rfl (pi_range1 (by rfl) (T.b_range) (pa_cons (pe_callB (call_len_seqK K) (by rfl) (T.b_len) (by decide +kernel) (pa_cons (pe_ixdK K (pe_mt0 (ok_Base_image T) (T.m_Base_image) (hr.mono (by decide)) (pv 0)) pe_int) pa_nil)) pa_nil)) (pg_name (i := 1) (sc_law_swept).nd rfl (.inl rfl))
    (pss_one (ps_expr (pe_mt (ok_Base_prune T) (T.m_Base_prune) (hr.mono (by decide)) (pv 0) (pa_cons (pv 1) pa_nil)))))
    (pss_cons (ps_expr (pe_mt (ok_Base_vacuum T) (T.m_Base_vacuum) (hr.mono (by decide)) (pv 0) (pa_cons pe_int pa_nil)))
    (pss_cons (ps_set (i := 2) (sc_law_swept).nd rfl (.inl rfl) (pe_mt0 (ok_Base_step T) (T.m_Base_step) (hr.mono (by decide)) (pv 0)))
    (pss_cons (ps_for PassesOwn.never rfl (pi_range1 (by rfl) (T.b_range) (pa_cons pe_int pa_nil)) (pg_name (i := 3) (sc_law_swept).nd rfl (.inl rfl))
    (pss_one (ps_set (i := 2) (sc_law_swept).nd rfl (.inl rfl) (pe_ifExp (pt_cmpR (op_neDK K hr.units) (pv 2) (pe_tupdK K (pa_cons pe_str pa_nil)) (nomark _)) (pe_mt0 (ok_Base_step T) (T.m_Base_step) (hr.mono (by decide)) (pv 0)) (pv 2)))))
    (pss_one (ps_ret (pe_cmpR (op_eqDK K hr.units) (pv 2) (pe_tupdK K (pa_cons pe_str pa_nil)) (nomark _)))))))), ?_⟩
  obtain ⟨b, S, w, M, ex, hS, hR, hw, q⟩ := h
  subst ex
  obtain ⟨dx, vc, e, e1⟩ := hS.ob
  have l60 : S.T.pages.length < 60 := by
    have := hR.pb.ln
    omega
  refine ⟨_, rfl, b, dx, _, rfl, e, _, rfl, b, S, rfl, hS, fun v d1 d3 d4 H1 sm1 hv => ⟨_, 2, _, hv, rfl, rfl, fun pv hpv => ?_⟩⟩
  obtain ⟨pa, xs, ep, hpq, hpr⟩ := hpv.tup_eq
  subst ep
  have xl := hpr.length
  rw [List.length_map] at xl
  refine ⟨pa, xs, rfl, .inr hpq.t, (xs.length : Int), rfl, by omega, by omega, ?_⟩
  rw [Int.toNat_natCast, xl]
  have eS : S.wT S.T.pages = S := rfl
  refine for_range (fun i σ' H' => ∃ u1 ps, σ' = [some (.ref b), u1, none, none] ∧ Chg (S.fp b) H H' ∧ StoAt K H' b (S.wT ps) ∧ Rest (S.wT ps) w M ∧ ps.length = S.T.pages.length) ⟨_, S.T.pages, rfl, .of sm1, hS.same sm1, hR, rfl⟩ ?_ ?_
  · rintro i σ' H2 hi ⟨u1, ps, rfl, c2, h2, r2, l2⟩
    have ei : ((0 : Int) + (i : Nat)) = ((i : Nat) : Int) := by omega
    rw [ei]
    obtain ⟨dx2, vc2, f2, _⟩ := h2.ob
    have hi2 : i < ps.length := by omega
    refine ⟨_, rfl, b, dx2, _, rfl, f2, _, rfl, _, _, rfl, b, S.wT ps, i, _, rfl, rfl, h2, cs_nil r2.cs, List.getElem?_eq_getElem hi2, fun r qq ss H3 c3 h3 hpr hss => ?_⟩
    exact ⟨_, ps.set i qq, rfl, c2.trans c3, h3, r2.pg ⟨i, _, qq, List.getElem?_eq_getElem hi2, rfl, .inl ⟨ss, hpr, hss⟩⟩, by rw [List.length_set]; exact l2⟩
  · rintro σ' H2 ⟨u1, ps, rfl, c2, h2, r2, l2⟩
    obtain ⟨dx2, vc2, f2, _⟩ := h2.ob
    refine ⟨_, rfl, b, dx2, _, rfl, f2, _, _, rfl, b, S.wT ps, 2, rfl, rfl, h2, r2.va, fun a nd H3 na nnd c3 h3 hW3 => ?_⟩
    obtain ⟨W0, eW0⟩ : ∃ W0 : Vac, W0 = ⟨(S.wT ps).T.pages.length, 2, 0, nd, [], "", "pruned"⟩ := ⟨_, rfl⟩
    rw [← eW0] at hW3
    have back : ∀ {x : Addr}, H2 x = none → H x = none := fun {x} hx => by
      cases eq : H x with
      | none => rfl
      | some o =>
        by_cases hm : x ∈ S.fp b
        · exact (h2.there (S := S.wT ps) hm hx).elim
        · have := c2.keep _ _ eq hm
          rw [hx] at this
          cases this
    have frW : ∀ x ∈ W0.fp a, H x = none := fun x hx => by
      rw [eW0] at hx
      unfold Vac.fp at hx
      simp only [List.map_nil, List.mem_cons, List.not_mem_nil, or_false] at hx
      rcases hx with z | z
      · exact back (z ▸ na)
      · exact back (z ▸ nnd)
    have vm0 : vacM W0 = 2 * ps.length := by rw [eW0]; rfl
    have ok0 : VOk (S.wT ps) W0 := by rw [eW0]; exact ⟨rfl, Nat.zero_le _, nofun⟩
    have step : ∀ (ps : List Page) (W : Vac) (H4 : Hp) (F : List Addr), (∀ x ∈ F, H x = none) → Chg (S.fp b ++ F) H H4 → StoAt K H4 b { S.wT ps with vac := .ref a } → Rest (S.wT ps) w M → ps.length = S.T.pages.length → VacAt K H4 a W → (∀ x ∈ W.fp a, x ∈ F) → VOk (S.wT ps) W → ∀ (σ : L2.St), σ[0]? = some (some (.ref b)) → ∀ D : VK,
        ∀ m, vacM W + m ≤ 2 * S.T.pages.length → (∀ r H5, SwI K H b S w M a (m + 1) r H5 → D r H5) →
        tMt (ga K "Base") nsBase (sp_Base_step K) [] (tVar 0) tNil σ H4 D := fun ps W H4 F hF c4 h4 r4 l4 hW4 sub ok4 σ g0 D m hm dd => by
      obtain ⟨dx4, vc4, f4, _⟩ := h4.ob
      have apt : Apart (W.fp a) (S.fp b) := fun x hx hy => hS.there hy (hF x (sub x hx))
      have subF : ∀ x ∈ S.fp b ++ W.fp a, x ∈ S.fp b ++ F := fun x hx => by
        rcases List.mem_append.mp hx with z | z
        · exact List.mem_append_left _ z
        · exact List.mem_append_right _ (sub x z)
      refine ⟨_, g0, b, dx4, _, rfl, f4, _, rfl, b, _, a, W, rfl, h4, rfl, r4.cs, hW4, apt, ⟨ok4.mn, ok4.pg, ok4.nt⟩, fun r H5 c5 h5 hr => ?_, fun r wd k1 k2 ps' W' H5 c5 h5 hW5 ok5 lt st hnew hwd hr => ?_⟩
      · have e5 : ({ { S.wT ps with vac := .ref a } with vac := .non } : Sto) = S.wT ps := by
          have := r4.va
          show ({ S.wT ps with vac := .non } : Sto) = S.wT ps
          rw [← this]
        rw [e5] at h5
        exact dd r H5 (.inl ⟨ps, chg_drop (c4.trans (c5.mono subF)) hF, h5, r4, hr⟩)
      · refine dd r H5 (.inr ⟨wd, k1, k2, ps', W', F ++ W'.fp a, fun x hx => ?_, (c4.mono fun x hx => ?_).trans (c5.mono fun x hx => ?_), h5, r4.pg st, (pgs_len st).trans l4, hW5, fun x hx => List.mem_append_right _ hx, ⟨ok5.mn, ok5.pg, ok5.nt⟩, by omega, hwd, hr⟩)
        · rcases List.mem_append.mp hx with z | z
          · exact hF x z
          · rcases hnew x z with y | y
            · exact hF x (sub x y)
            · cases eq : H x with
              | none => rfl
              | some o =>
                by_cases hm : x ∈ S.fp b ++ F
                · rcases List.mem_append.mp hm with u | u
                  · exact (h4.there (S := { S.wT ps with vac := .ref a }) u y).elim
                  · rw [hF x u] at eq
                    cases eq
                · have := c4.keep _ _ eq hm
                  rw [y] at this
                  cases this
        · rcases List.mem_append.mp hx with z | z
          · exact List.mem_append_left _ z
          · exact List.mem_append_right _ (List.mem_append_left _ z)
        · rcases List.mem_append.mp (subF x hx) with z | z
          · exact List.mem_append_left _ z
          · exact List.mem_append_right _ (List.mem_append_left _ z)
    have c3' : Chg (S.fp b ++ W0.fp a) H H3 := (c2.trans c3).mono fun x hx => List.mem_append_left _ hx
    refine step ps W0 H3 (W0.fp a) frW c3' h3 r2 l2 hW3 (fun x h => h) ok0 _ rfl _ 0 (by omega) (fun r H4 sw => ?_)
    refine ⟨_, rfl, by omega, by omega, ?_⟩
    refine for_range (fun i σ' H' => ∃ u1 told u3, σ' = [some (.ref b), u1, some told, u3] ∧ SwI K H b S w M a (i + 1) told H') ⟨_, r, _, rfl, sw⟩ ?_ ?_
    · rintro i σ' H5 hi ⟨u1, told, u3, rfl, sw⟩
      refine ⟨_, rfl, _, Tds.cons (.str _) .nil, Nat.le_of_ble_eq_true rfl, fun v H6 sm6 hv6 => ?_⟩
      rcases sw with ⟨ps, c5, h5, r5, hr⟩ | ⟨wd, k1, k2, ps, W, F, hF, c5, h5, r5, l5, hW5, sub, ok5, hm, hwd, hr⟩
      · refine ⟨_, _, (hr.same sm6).dp, hv6.dp, shaped_over, shaped_over, _, rfl, ?_⟩
        rw [show PyData.eqv overD (.tuple [.str "over"]) = true from eqv_over]
        refine iteF ⟨_, rfl, ?_⟩
        exact ⟨_, told, _, rfl, .inl ⟨ps, c5.trans (Chg.of sm6), h5.same sm6, r5, hr.same sm6⟩⟩
      · refine ⟨_, _, (hr.same sm6).dp, hv6.dp, shaped_word hwd, shaped_over, _, rfl, ?_⟩
        rw [show PyData.eqv (wordD wd k1 k2) (.tuple [.str "over"]) = false from eqv_word]
        refine iteT ?_
        refine step ps W H6 F hF (c5.trans (Chg.of sm6)) (h5.same sm6) r5 l5 (hW5.same sm6) sub ok5 _ rfl _ (i + 1) hm (fun r H7 sw7 => ?_)
        exact ⟨_, r, _, rfl, sw7⟩
    · rintro σ' H5 ⟨u1, told, u3, rfl, sw⟩
      rcases sw with ⟨ps, c5, h5, r5, hr⟩ | ⟨wd, k1, k2, ps, W, F, hF, c5, h5, r5, l5, hW5, sub, ok5, hm, hwd, hr⟩
      · refine ⟨_, rfl, _, Tds.cons (.str _) .nil, Nat.le_of_ble_eq_true rfl, fun v H6 sm6 hv6 => ?_⟩
        refine ⟨_, _, (hr.same sm6).dp, hv6.dp, shaped_over, shaped_over, ?_⟩
        rw [show PyData.eqv overD (.tuple [.str "over"]) = true from eqv_over]
        exact q ps H6 (c5.trans (Chg.of sm6)) (h5.same sm6) r5
      · have e200 : (200 : Int).toNat = 200 := rfl
        omega
end Rc


set_option Elab.async false
set_option linter.all false
set_option maxRecDepth 100000
set_option maxHeartbeats 4000000
namespace Rc
open PySem PySem.Spec PyProof.Rows L2 He
/-- what the law keeps: the box, the two stores, the records; all made after H0 -/
structure Two (K : PySem.W.Frag) (TT : List (Addr × Str)) (H0 H : Hp) (bx b1 b2 : Addr) (n : Nat) (S1 S2 : Sto) (ds : List (Addr × List Row)) : Prop where
  bo : BoxAt H bx n
  s1 : StoAt K H b1 S1
  s2 : StoAt K H b2 S2
  ap : Apart (S1.fp b1) (S2.fp b2)
  x1 : bx ∉ S1.fp b1
  x2 : bx ∉ S2.fp b2
  dd : ∀ p ∈ ds, DictAt K H p.1 p.2 ∧ p.1 ∉ S1.fp b1 ∧ p.1 ∉ S2.fp b2 ∧ p.1 ≠ bx
  fr : ChT [bx] H0 H
  n1 : ∀ x ∈ S1.fp b1, ¬ NT (H0 x)
  n2 : ∀ x ∈ S2.fp b2, ¬ NT (H0 x)
  tb : LamX.Tabs TT H
section
variable {K : PySem.W.Frag} {TT : List (Addr × Str)} {H0 H H' : Hp} {bx b1 b2 : Addr} {n : Nat} {S1 S2 S' : Sto} {ds : List (Addr × List Row)}
theorem NT.back {fp : List Addr} {x : Addr} (c : ChT fp H0 H) (h : ¬ NT (H x)) : ¬ NT (H0 x) := fun z => h (c.live _ z)
theorem BoxAt.keepT {fp : List Addr} (h : BoxAt H bx n) (c : ChT fp H H') (m : bx ∉ fp) : BoxAt H' bx n := by
  obtain ⟨x, s, f, h1, h2⟩ := h.at_
  exact ⟨x, s, f, c.keep _ _ h1 m nofun, h2⟩
theorem DictAt.keepT {fp : List Addr} {a : Addr} {M : List Row} (h : DictAt K H a M) (c : ChT fp H H') (m : a ∉ fp) : DictAt K H' a M := by
  obtain ⟨kvs, h1, h2, h3⟩ := h.at_
  exact ⟨kvs, c.keep _ _ h1 m nofun, h2, h3.keep c.tk⟩
theorem Two.same (h : Two K TT H0 H bx b1 b2 n S1 S2 ds) (s : Same H H') : Two K TT H0 H' bx b1 b2 n S1 S2 ds :=
  ⟨h.bo.keep (s bx), h.s1.same s, h.s2.same s, h.ap, h.x1, h.x2, fun p hp => let ⟨a, b⟩ := h.dd p hp; ⟨a.same s, b⟩, h.fr.trans (Chg.of s).t, h.n1, h.n2, tabs_keep h.tb (Chg.of (fp := []) s)⟩
theorem Two.box {m : Nat} (h : Two K TT H0 H bx b1 b2 n S1 S2 ds) (c : Chg [bx] H H') (hb : BoxAt H' bx m) : Two K TT H0 H' bx b1 b2 m S1 S2 ds :=
  ⟨hb, h.s1.chg c fun x hx hy => h.x1 (List.mem_singleton.mp hx ▸ hy), h.s2.chg c fun x hx hy => h.x2 (List.mem_singleton.mp hx ▸ hy), h.ap, h.x1, h.x2, fun p hp => let ⟨a, b⟩ := h.dd p hp; ⟨a.keepT c.t (by simp [b.2.2]), b⟩, h.fr.trans c.t, h.n1, h.n2, tabs_keep h.tb c⟩
theorem fr_drop {fp : List Addr} (h : ChT [bx] H0 H) (n : ∀ x ∈ fp, ¬ NT (H0 x)) (c : ChT fp H H') : ChT [bx] H0 H' :=
  ⟨fun a o e m t => c.keep a o (h.keep a o e m t) (fun z => n a z ⟨o, e, t⟩) t, fun a o e i => c.imm a o (h.imm a o e i) i, fun a z => c.live a (h.live a z)⟩
theorem Two.oneT (h : Two K TT H0 H bx b1 b2 n S1 S2 ds) (c : ChT (S1.fp b1) H H') (t : LamX.Tabs TT H') (hs : StoAt K H' b1 S') (g : ∀ x ∈ S'.fp b1, x ∈ S1.fp b1 ∨ ¬ NT (H x)) : Two K TT H0 H' bx b1 b2 n S' S2 ds :=
  have out : ∀ {x : Addr}, x ∉ S1.fp b1 → NT (H x) → x ∉ S'.fp b1 := fun m l z => (g _ z).elim m fun w => w l
  ⟨h.bo.keepT c h.x1, hs, h.s2.cht c h.ap, fun x hx hy => (g x hx).elim (fun z => h.ap x z hy) (fun z => z (h.s2.nt x hy)), out h.x1 h.bo.nt, h.x2, fun p hp => let ⟨a, b1, b2⟩ := h.dd p hp; ⟨a.keepT c b1, out b1 a.nt, b2⟩, fr_drop h.fr h.n1 c, fun x hx => (g x hx).elim (h.n1 x) (NT.back h.fr), h.n2, t⟩
theorem Two.twoT (h : Two K TT H0 H bx b1 b2 n S1 S2 ds) (c : ChT (S2.fp b2) H H') (t : LamX.Tabs TT H') (hs : StoAt K H' b2 S') (g : ∀ x ∈ S'.fp b2, x ∈ S2.fp b2 ∨ ¬ NT (H x)) : Two K TT H0 H' bx b1 b2 n S1 S' ds :=
  have out : ∀ {x : Addr}, x ∉ S2.fp b2 → NT (H x) → x ∉ S'.fp b2 := fun m l z => (g _ z).elim m fun w => w l
  have ap' : ∀ x ∈ S2.fp b2, x ∉ S1.fp b1 := fun x hx hy => h.ap x hy hx
  ⟨h.bo.keepT c h.x2, h.s1.cht c ap', hs, fun x hx hy => (g x hy).elim (fun z => h.ap x hx z) (fun z => z (h.s1.nt x hx)), h.x1, out h.x2 h.bo.nt, fun p hp => let ⟨a, b1, b2, b3⟩ := h.dd p hp; ⟨a.keepT c b2, b1, out b2 a.nt, b3⟩, fr_drop h.fr h.n2 c, h.n1, fun x hx => (g x hx).elim (h.n2 x) (NT.back h.fr), t⟩
theorem Two.one (h : Two K TT H0 H bx b1 b2 n S1 S2 ds) (c : Chg (S1.fp b1) H H') (hs : StoAt K H' b1 S') (g : ∀ x ∈ S'.fp b1, x ∈ S1.fp b1 ∨ ¬ NT (H x)) : Two K TT H0 H' bx b1 b2 n S' S2 ds := h.oneT c.t (tabs_keep h.tb c) hs g
theorem Two.two (h : Two K TT H0 H bx b1 b2 n S1 S2 ds) (c : Chg (S2.fp b2) H H') (hs : StoAt K H' b2 S') (g : ∀ x ∈ S'.fp b2, x ∈ S2.fp b2 ∨ ¬ NT (H x)) : Two K TT H0 H' bx b1 b2 n S1 S' ds := h.twoT c.t (tabs_keep h.tb c) hs g
/-- a record that was made just now -/
theorem Two.add {a : Addr} {M : List Row} {H1 : Hp} (h : Two K TT H0 H bx b1 b2 n S1 S2 ds) (d : DictAt K H a M) (nw : H1 a = none) (c1 : StoAt K H1 b1 S1) (c2 : StoAt K H1 b2 S2) (cb : NT (H1 bx)) : Two K TT H0 H bx b1 b2 n S1 S2 ((a, M) :: ds) :=
  ⟨h.bo, h.s1, h.s2, h.ap, h.x1, h.x2, fun p hp => by
    rcases List.mem_cons.mp hp with z | z
    · subst z
      exact ⟨d, fun z => c1.there z nw, fun z => c2.there z nw, fun z => cb.not (z ▸ nw)⟩
    · exact h.dd p z, h.fr, h.n1, h.n2, h.tb⟩
theorem Two.sub {ds' : List (Addr × List Row)} (h : Two K TT H0 H bx b1 b2 n S1 S2 ds) (s : ∀ p ∈ ds', p ∈ ds) : Two K TT H0 H bx b1 b2 n S1 S2 ds' := { h with dd := fun p hp => h.dd p (s p hp) }
end
theorem fin_grow {S : Sto} {b : Addr} {l1 l2 : List Dl} {d : Dl} {s : Sta} {cu : Addr} (ea : S.L.act = l1 ++ d :: l2) : ∀ x ∈ (S.fin l1 d l2 s cu).fp b, x ∈ S.fp b ∨ x = cu := fun x hx => by
  rcases List.mem_append.mp hx with z | z
  · simp only [Sto.own, Sto.fin, List.mem_cons, List.not_mem_nil, or_false] at z
    by_cases hc : x = cu
    · exact .inr hc
    · refine .inl (fp_own ?_)
      simp only [Sto.own, List.mem_cons, List.not_mem_nil, or_false]
      rcases z with z | z | z | z | z
      · exact .inl z
      · exact .inr (.inl z)
      · exact absurd z hc
      · exact .inr (.inr (.inr (.inl z)))
      · exact .inr (.inr (.inr (.inr z)))
  · rcases List.mem_append.mp z with z | z
    · exact .inl (fp_L (fin_fp ea x z))
    · exact .inl (fp_T z)
theorem undo_grow {S : Sto} {b : Addr} {d : Dl} {n : Nat} {cu : Addr} : ∀ x ∈ (S.undo d n cu).fp b, x ∈ S.fp b ∨ x = cu := fun x hx => by
  rcases List.mem_append.mp hx with z | z
  · simp only [Sto.own, Sto.undo, List.mem_cons, List.not_mem_nil, or_false] at z
    by_cases hc : x = cu
    · exact .inr hc
    · refine .inl (fp_own ?_)
      simp only [Sto.own, List.mem_cons, List.not_mem_nil, or_false]
      rcases z with z | z | z | z | z
      · exact .inl z
      · exact .inr (.inl z)
      · exact absurd z hc
      · exact .inr (.inr (.inr (.inl z)))
      · exact .inr (.inr (.inr (.inr z)))
  · rcases List.mem_append.mp z with z | z
    · exact .inl (fp_L z)
    · exact .inl (fp_T z)
theorem begun_grow {S : Sto} {b : Addr} {d : Dl} : ∀ x ∈ (S.wL (S.L.begun d)).fp b, x ∈ S.fp b ∨ x = d.a ∨ x = d.p := fun x hx => by
  rcases List.mem_append.mp hx with z | z
  · exact .inl (fp_own z)
  · rcases List.mem_append.mp z with z | z
    · exact (begun_fp x z).imp fp_L id
    · exact .inl (fp_T z)
theorem saved_fp {S : Sto} {b : Addr} {d : Dl} (ea : S.L.act = [d]) : (S.wL (savedL S.L [] d [])).fp b = S.fp b := wL_fp (withD_fp (L := S.L.push d.n) (d := d) ea rfl rfl)
theorem not_nt {H : Hp} {a : Addr} (h : H a = none) : ¬ NT (H a) := fun z => z.not h
/-- the record after a deed -/
theorem deed_rec {M M' : List Row} {fr : Int} {dd : PyData} (h : Deed M fr dd M') (r : RecOk M fr) (l : M.length < 400) : RecOk M' (fr + 1) ∧ M'.length ≤ M.length + 1 := by
  have n1 : 0 ≤ fr + 1 := by
    have := r.n0
    omega
  cases h with
  | put ok =>
    refine ⟨⟨?_, fun x hx => ?_, n1, fun x hx => ?_, fun x hx => ?_, ?_⟩, ?_⟩
    · rw [List.map_append, List.nodup_append]
      refine ⟨r.kn, by simp, fun a ha b hb => ?_⟩
      obtain ⟨x, hx, e⟩ := List.mem_map.mp ha
      have := r.lt x hx
      rw [List.map_cons, List.map_nil, List.mem_singleton] at hb
      omega
    · rcases List.mem_append.mp hx with z | z
      · have := r.lt x z
        omega
      · rw [List.mem_singleton.mp z]
        show fr < fr + 1
        omega
    · rcases List.mem_append.mp hx with z | z
      · exact r.ge x z
      · rw [List.mem_singleton.mp z]
        exact r.n0
    · rcases List.mem_append.mp hx with z | z
      · exact r.ok x z
      · rw [List.mem_singleton.mp z]
        exact ok
    · rw [List.length_append]
      exact l
    · rw [List.length_append]
      exact Nat.le_refl _
  | @remove id kd hm =>
    have l1 := List.length_filter_le (fun p : Row => decide (p.1 ≠ id)) M
    refine ⟨⟨(r.kn.sublist (List.filter_sublist.map _)), fun x hx => ?_, n1, fun x hx => r.ge x (List.mem_filter.mp hx).1, fun x hx => r.ok x (List.mem_filter.mp hx).1, Nat.le_trans l1 r.ln⟩, Nat.le_trans l1 (Nat.le_succ _)⟩
    have := r.lt x (List.mem_filter.mp hx).1
    omega
  | change hm ok =>
    have l1 : ∀ (n : Int) (wo : PyData), (chgM n wo M).length = M.length := fun n wo => by unfold chgM; rw [List.length_map]
    refine ⟨⟨by rw [chg_nodup]; exact r.kn, fun x hx => ?_, n1, fun x hx => ?_, fun x hx => ?_, by rw [l1]; exact r.ln⟩, by rw [l1]; exact Nat.le_succ _⟩
    · unfold chgM at hx
      obtain ⟨y, hy, e⟩ := List.mem_map.mp hx
      have hl := r.lt y hy
      have hm' := r.lt _ hm
      split at e
      · rw [← e]
        show _ < _
        have : _ < fr := hm'
        exact Int.lt_trans this (by omega)
      · rw [← e]
        omega
    · unfold chgM at hx
      obtain ⟨y, hy, e⟩ := List.mem_map.mp hx
      split at e
      · rw [← e]
        have hg := r.ge _ hm
        exact hg
      · rw [← e]
        exact r.ge y hy
    · unfold chgM at hx
      obtain ⟨y, hy, e⟩ := List.mem_map.mp hx
      split at e
      · rw [← e]
        exact ok
      · rw [← e]
        exact r.ok y hy
theorem RecOk.le {M : List Row} {n m : Int} (h : RecOk M n) (l : n ≤ m) : RecOk M m := ⟨h.kn, fun x hx => by have := h.lt x hx; omega, Int.le_trans h.n0 l, h.ge, h.ok, h.ln⟩
end Rc

set_option Elab.async false
set_option linter.all false
set_option maxRecDepth 100000
set_option maxHeartbeats 4000000
namespace Rc
open PySem PySem.Spec PyProof.Rows L2 He
/-- the twin: it runs with the same deeds, or rests -/
def Twin (kept : Bool) (tv : V) (S : Sto) (w : Nat) (M0 M : List Row) : Prop :=
  (kept = true ∧ ∃ d, tv = .int (d.n : Int) ∧ Ses S d w ∧ Top S ∧ Rep (undB S.L) S.T.pages (S.L.owners.length + 1) M) ∨ (kept = false ∧ Rest S w M0 ∧ S.L.act = [])
def sp_law_session (PU PF : Addr) (K : PySem.W.Frag) : Sp := s5 fun x1 x2 x3 x4 x5 H Q => ∃ (H0 : Hp) (bx b1 b2 a : Addr) (n : Nat) (S1 S2 : Sto) (w1 w2 : Nat) (M : List Row) (fr : Int), x1 = .ref bx ∧ x2 = .ref b1 ∧ x3 = .ref b2 ∧ x4 = .ref a ∧ x5 = .int fr ∧
  Two K (TL PU PF) H0 H bx b1 b2 n S1 S2 [(a, M)] ∧ Rest S1 w1 M ∧ Rest S2 w2 M ∧ S1.L.act = [] ∧ S2.L.act = [] ∧ w1 + 12 ≤ 150 ∧ w2 + 12 ≤ 150 ∧ n + 200 ≤ 1000000 ∧ S1.L.owners.length + 4 ≤ 63 ∧ S2.L.owners.length + 4 ≤ 63 ∧ RecOk M fr ∧ M.length + 12 ≤ 400 ∧
  ∀ (a' : Addr) (n' : Nat) (S1' S2' : Sto) (w1' w2' : Nat) (M' : List Row) (H' : Hp), Two K (TL PU PF) H0 H' bx b1 b2 n' S1' S2' [(a', M')] → Rest S1' w1' M' → Rest S2' w2' M' → S1'.L.act = [] → S2'.L.act = [] → w1' ≤ w1 + 12 → w2' ≤ w2 + 12 → n' ≤ n + 200 →
    S1'.L.owners.length ≤ S1.L.owners.length + 4 → S2'.L.owners.length ≤ S2.L.owners.length + 4 → RecOk M' (fr + 100) → M'.length ≤ M.length + 12 → Q (.ref a') H'
theorem ok__law_session {P : Program} {w : World} {K : PySem.W.Frag} {mg : Str → Option Value} {base : Heap} (T : Tx K mg) {cU PU cF PF : Addr} (U : LamU K mg base cU PU cF PF) : Df P w K mg base (fAd K ("_law_session", none)) 12 [] (sp_law_session PU PF K) := by
  obtain ⟨fd, F⟩ := fn_law_session T
  refine df5 F sc_law_session (fun _ _ _ _ _ _ us hl => match us, hl with | [_, _, _, _, _], _ => rfl) fun box store bare rows front H Q h => ?_
  intro cdv A outer s E hr
  have hu := hu_of hr
  refine ⟨_, (pss_cons (ps_par3 (i := 8) (j := 9) (l := 7) (by rfl) (sc_law_session).nd rfl rfl rfl (by decide) (by decide) (by decide) rfl rfl rfl (pa_cons (pe_mt0 (ok_Base_begin_0 T) (T.m_Base_begin) (hr.mono (by decide)) (pv 1)) (pa_cons (pe_cmpR op_gt (pe_cf (ok_law_take T) (hr.mono (by decide)) rfl (T.g__law_take) (pa_cons (pv 0) (pa_cons pe_int pa_nil))) pe_int (nomark _)) (pa_cons (pe_callTy call_dictD (by rfl) (T.b_dict) (by decide +kernel) (pa_cons (pv 3) pa_nil)) pa_nil))) (by rfl))
    (pss_cons (ps_set (i := 5) (sc_law_session).nd rfl (.inl rfl) (pe_ifExp (pt_val (pv 9)) (pe_mt0 (ok_Base_begin_0 T) (T.m_Base_begin) (hr.mono (by decide)) (pv 2)) pe_int))
    (pss_cons (ps_for PassesOwn.never rfl (pi_range1 (by rfl) (T.b_range) (pa_cons (pe_op op_add pe_int (pe_cf (ok_law_take T) (hr.mono (by decide)) rfl (T.g__law_take) (pa_cons (pv 0) (pa_cons pe_int pa_nil)))) pa_nil)) (pg_name (i := 6) (sc_law_session).nd rfl (.inl rfl))
    (pss_cons (ps_par3 (i := 12) (j := 11) (l := 13) (by rfl) (sc_law_session).nd rfl rfl rfl (by decide) (by decide) (by decide) rfl rfl rfl (pa_cons (pe_mt (ok_Base_save T) (T.m_Base_save) (hr.mono (by decide)) (pv 1) (pa_cons (pv 8) pa_nil)) (pa_cons (pe_cmpR op_gt (pe_cf (ok_law_take T) (hr.mono (by decide)) rfl (T.g__law_take) (pa_cons (pv 0) (pa_cons pe_int pa_nil))) pe_int (nomark _)) (pa_cons (pe_callTy call_dictD (by rfl) (T.b_dict) (by decide +kernel) (pa_cons (pv 7) pa_nil)) pa_nil))) (by rfl))
    (pss_cons (ps_for PassesOwn.never rfl (pi_range1 (by rfl) (T.b_range) (pa_cons (pe_cf (ok_law_take T) (hr.mono (by decide)) rfl (T.g__law_take) (pa_cons (pv 0) (pa_cons pe_int pa_nil))) pa_nil)) (pg_name (i := 10) (sc_law_session).nd rfl (.inl rfl))
    (pss_cons (ps_asg (pe_cf (ok_law_drawn T) (hr.mono (by decide)) rfl (T.g__law_drawn) (pa_cons (pv 0) (pa_cons (pv 13) (pa_cons (pe_op op_add (pe_op op_add (pv 4) (pe_op op_mul pe_int (pv 6))) (pv 10)) pa_nil)))) (pg_tupK K (n := 2) (by rfl) (pgs_cons (pg_name (i := 14) (sc_law_session).nd rfl (.inl rfl)) (pgs_cons (pg_name (i := 13) (sc_law_session).nd rfl (.inl rfl)) pgs_nil))))
    (pss_one (ps_if (PW.pt (pw_or (pt_not (pt_val (pe_cf (ok_law_done T) (hr.mono (by decide)) rfl (T.g__law_done) (pa_cons (pv 1) (pa_cons (pv 8) (pa_cons (pv 14) pa_nil)))))) (pw_or1 (PW.pt (pw_and (pt_val (pv 9)) (pw_and (pt_val (pv 11)) (pw_and1 (pt_not (pt_val (pe_cf (ok_law_done T) (hr.mono (by decide)) rfl (T.g__law_done) (pa_cons (pv 2) (pa_cons (pv 5) (pa_cons (pv 14) pa_nil))))))))))))) (pss_one (ps_ret pe_non)) pss_nil))))
    (pss_one (ps_if (pt_val (pv 11)) (pss_one (ps_set (i := 7) (sc_law_session).nd rfl (.inl rfl) (pv 13))) (pss_one (ps_expr (pe_mt (ok_Base_undo T U) (T.m_Base_undo) (hr.mono (by decide)) (pv 1) (pa_cons (pv 8) (pa_cons (pv 12) pa_nil))))))))))
    (pss_cons (ps_if (pt_not (pt_val (pv 9))) (pss_cons (ps_expr (pe_mt (ok_Base_abort T U) (T.m_Base_abort) (hr.mono (by decide)) (pv 1) (pa_cons (pv 8) pa_nil)))
    (pss_one (ps_ret (pv 3)))) pss_nil)
    (pss_cons (ps_expr (pe_mt (ok_Base_commit T U) (T.m_Base_commit) (hr.mono (by decide)) (pv 1) (pa_cons (pv 8) pa_nil)))
    (pss_cons (ps_expr (pe_mt (ok_Base_commit T U) (T.m_Base_commit) (hr.mono (by decide)) (pv 2) (pa_cons (pv 5) pa_nil)))
    (pss_one (ps_ret (pv 7))))))))), ?_⟩
  obtain ⟨H0, bx, b1, b2, a, n, S1, S2, w1, w2, M, fr, e1, e2, e3, e4, e5, hT, hR1, hR2, a1, a2, hw1, hw2, hn, ho1, ho2, hm, hl, q⟩ := h
  subst e1 e2 e3 e4 e5
  obtain ⟨dx1, vc1, f1, _⟩ := hT.s1.ob
  refine ⟨_, rfl, b1, dx1, _, rfl, f1, _, _, rfl, b1, S1, rfl, rfl, hT.s1, hR1.kl, by omega, fun d1 H1 en ep ec na np c1 h1 => ?_⟩
  obtain ⟨z1, z2, z3, z4, z5⟩ := begin_step hR1 a1 en ep
  have t1 := hT.one c1 h1 fun x hx => (begun_grow x hx).imp id fun h => h.elim (fun z => z ▸ not_nt na) (fun z => z ▸ not_nt np)
  refine ⟨_, rfl, _, _, rfl, bx, n, 3, rfl, rfl, by decide, by decide, t1.bo, by omega, fun r H2 hr2 c2 hb2 => ?_⟩
  have t2 := t1.box c2 hb2
  obtain ⟨kvs, hk, hk2⟩ := (t2.dd (a, M) List.mem_cons_self).1.at_
  refine ⟨_, _, rfl, rfl, _, rfl, a, _, rfl, .inl hk, fun hh nh => ⟨_, _, _, rfl, ?_⟩⟩
  have s3 : Same H2 (upd H2 hh (.dK (recK kvs))) := same_new nh
  have t3 := (t2.same s3).add (a := hh) (M := M) ⟨kvs, upd_same, hk2.1, hk2.2.same s3⟩ nh t2.s1 t2.s2 t2.bo.nt
  generalize eH3 : upd H2 hh (.dK (recK kvs)) = H3 at t3 ⊢
  simp only [L2.start, List.map_cons, List.map_nil, List.length_cons, List.length_nil, List.replicate, List.cons_append, List.nil_append, List.set_cons_succ, List.set_cons_zero, Nat.reduceAdd, Nat.reduceSub]
  generalize hkp : decide ((0 : Int) < (r : Int)) = kept
  refine ⟨_, rfl, _, rfl, ite2 (fun hkk => ?g1) (fun hkk => ?g2)⟩
  case' g1 =>
    obtain ⟨dx2, vc2, f2, _⟩ := t3.s2.ob
    refine ⟨_, rfl, b2, dx2, _, rfl, f2, _, _, rfl, b2, S2, rfl, rfl, t3.s2, hR2.kl, by omega, fun d2 H4 en2 ep2 ec2 na2 np2 c4 h4 => ?_⟩
    obtain ⟨y1, y2, y3, y4, y5⟩ := begin_step hR2 a2 en2 ep2
    have t4 := t3.two c4 h4 fun x hx => (begun_grow x hx).imp id fun h => h.elim (fun z => z ▸ not_nt na2) (fun z => z ▸ not_nt np2)
    have tw : Twin kept (.int (d2.n : Int)) (S2.wL (S2.L.begun d2)) w2 M M := .inl ⟨hkk, d2, rfl, y1, y2, y4⟩
    have lo : (S2.wL (S2.L.begun d2)).L.owners.length ≤ S2.L.owners.length + 1 := Nat.le_of_eq y5
    generalize hS2b : S2.wL (S2.L.begun d2) = S2b at t4 tw lo
  case' g2 =>
    obtain ⟨S2b, t4, tw, lo⟩ : ∃ S2b, Two K (TL PU PF) H0 H3 bx b1 b2 (n + 1) (S1.wL (S1.L.begun d1)) S2b [(hh, M), (a, M)] ∧ Twin kept (.int 0) S2b w2 M M ∧ S2b.L.owners.length ≤ S2.L.owners.length + 1 := ⟨S2, t3, .inr ⟨Bool.not_eq_true _ ▸ hkk, hR2, a2⟩, Nat.le_succ _⟩
    generalize hH4 : H3 = H4 at t4 ⊢
  all_goals
    simp only [L2.start, List.map_cons, List.map_nil, List.length_cons, List.length_nil, List.replicate, List.cons_append, List.nil_append, List.set_cons_succ, List.set_cons_zero, Nat.reduceAdd, Nat.reduceSub]
    refine ⟨_, rfl, _, _, rfl, bx, n + 1, 3, rfl, rfl, by decide, by decide, t4.bo, by omega, fun r3 H5 hr3 c5 hb5 => ⟨_, _, rfl, rfl, _, rfl, by omega, by omega, ?_⟩⟩
    have t5 := t4.box c5 hb5
    refine for_range (fun k σ' H' => ∃ tv uk ut uf up ul ud hx Mh n' S1' d' w1' S2' w2', σ' = [some (.ref bx), some (.ref b1), some (.ref b2), some (.ref a), some (.int fr), some tv, uk, some (.ref hx), some (.int (d1.n : Int)), some (.bl kept), ut, uf, up, ul, ud] ∧
      Two K (TL PU PF) H0 H' bx b1 b2 n' S1' S2' [(hx, Mh), (a, M)] ∧ Ses S1' d' w1' ∧ d'.n = d1.n ∧ Rep (undB S1'.L) S1'.T.pages d1.n M ∧ Rep (undB S1'.L) S1'.T.pages (S1'.L.owners.length + 1) Mh ∧ S1'.L.owners.length = d1.n + k ∧ Twin kept tv S2' w2' M Mh ∧ S2'.L.owners.length ≤ S2.L.owners.length + 1 ∧
      RecOk Mh (fr + 10 * (k : Int)) ∧ Mh.length ≤ M.length + 4 * k ∧ w1' ≤ w1 + 4 * k ∧ w2' ≤ w2 + 4 * k ∧ n' ≤ n + 2 + 60 * k)
      ⟨_, _, _, _, _, _, _, hh, M, _, _, d1, w1, S2b, w2, rfl, t5, z1, rfl, z3, z4, (by show (S1.L.begun d1).owners.length = _; omega), tw, lo, hm.le (by omega), by omega, by omega, by omega, by omega⟩ ?_ ?_
    · rintro k σ' H6 hk3 ⟨tv, uk, ut, uf, up, ul, ud, hx, Mh, n6, S6, d6, w6, T6, v6, rfl, t6, s6, ed6, r6, rr6, l6, tw6, lo6, m6, ml6, wl6, vl6, nl6⟩
      have hk2 : k ≤ 2 := by omega
      have ei : ((0 : Int) + (k : Nat)) = ((k : Nat) : Int) := by omega
      rw [ei]
      have la : (S6.wL (savedL S6.L [] d6 [])).L.owners.length = S6.L.owners.length + 1 := (save_step s6 rfl).2.2.1
      obtain ⟨g1, g2, g3, g4, g5⟩ := save_step s6 rfl
      have pl : d6.parts.length = k + 1 := by rw [s6.all, List.length_range']; omega
      obtain ⟨dx6, vc6, f6, _⟩ := t6.s1.ob
      refine ⟨_, rfl, b1, dx6, _, rfl, f6, _, rfl, _, _, rfl, b1, S6, [], d6, [], rfl, by rw [ed6], t6.s1, s6.rd, by omega, by omega, fun H7 c7 h7 => ?_⟩
      have t7 := t6.one c7 h7 fun x hx => .inl (saved_fp s6.ac ▸ hx)
      refine ⟨_, rfl, _, _, rfl, bx, n6, 3, rfl, rfl, by decide, by decide, t7.bo, by omega, fun rf H8 hrf c8 hb8 => ?_⟩
      have t8 := t7.box c8 hb8
      obtain ⟨kvh, hkh, hkh2⟩ := (t8.dd (hx, Mh) List.mem_cons_self).1.at_
      refine ⟨_, _, rfl, rfl, _, rfl, hx, _, rfl, .inl hkh, fun hl0 nl0 => ⟨_, _, _, rfl, ?_⟩⟩
      have s9 : Same H8 (upd H8 hl0 (.dK (recK kvh))) := same_new nl0
      have t9 := (t8.same s9).add (a := hl0) (M := Mh) ⟨kvh, upd_same, hkh2.1, hkh2.2.same s9⟩ nl0 t8.s1 t8.s2 t8.bo.nt
      generalize eH9 : upd H8 hl0 (.dK (recK kvh)) = H9 at t9 ⊢
      simp only [L2.start, List.map_cons, List.map_nil, List.length_cons, List.length_nil, List.replicate, List.cons_append, List.nil_append, List.set_cons_succ, List.set_cons_zero, Nat.reduceAdd, Nat.reduceSub]
      generalize hfp : decide ((0 : Int) < (rf : Int)) = fate
      refine ⟨_, rfl, _, _, rfl, bx, n6 + 1, 5, rfl, rfl, by decide, by decide, t9.bo, by omega, fun r5 H10 hr5 c10 hb10 => ⟨_, rfl, by omega, by omega, ?_⟩⟩
      have t10 := t9.box c10 hb10
      refine for_range (fun i σ' H' => ∃ ut ud lx Ml n' S1' d' w1' S2' w2', σ' = [some (.ref bx), some (.ref b1), some (.ref b2), some (.ref a), some (.int fr), some tv, some (.int (k : Int)), some (.ref hx), some (.int (d1.n : Int)), some (.bl kept), ut, some (.bl fate), some (.int ((S6.L.owners.length + 1 : Nat) : Int)), some (.ref lx), ud] ∧
        Two K (TL PU PF) H0 H' bx b1 b2 n' S1' S2' [(lx, Ml), (hx, Mh), (a, M)] ∧ Ses S1' d' w1' ∧ Top S1' ∧ d'.n = d1.n ∧ Rep (undB S1'.L) S1'.T.pages d1.n M ∧ Rep (undB S1'.L) S1'.T.pages (S6.L.owners.length + 1) Mh ∧ Rep (undB S1'.L) S1'.T.pages (S6.L.owners.length + 2) Ml ∧ S1'.L.owners.length = S6.L.owners.length + 1 ∧
        Twin kept tv S2' w2' M (if fate = true then Ml else Mh) ∧ S2'.L.owners.length ≤ S2.L.owners.length + 1 ∧ RecOk Ml (fr + 10 * (k : Int) + (i : Int)) ∧ Ml.length ≤ M.length + 4 * k + i ∧ w1' ≤ w1 + 4 * k + i ∧ w2' ≤ w2 + 4 * k + i ∧ n' ≤ n + 4 + 60 * k + 10 * i)
        ⟨_, _, hl0, Mh, _, _, _, w6, T6, v6, rfl, t10, g1, g2, ed6, g4 _ _ (by omega) r6, g4 _ _ (by omega) rr6, g5 _ rr6, la, (by split <;> exact tw6), lo6, m6.le (by omega), by omega, by omega, by omega, by omega⟩ ?_ ?_
      · rintro i σ' H11 hi5 ⟨ut, ud, lx, Ml, n11, S11, d11, w11, T11, v11, rfl, t11, s11, top11, ed11, r11, p11, q11, l11, tw11, lo11, m11, ml11, wl11, vl11, nl11⟩
        have hi4 : i < 4 := by omega
        have ei : ((0 : Int) + (i : Nat)) = ((i : Nat) : Int) := by omega
        rw [ei]
        have dl := t11.dd (lx, Ml) List.mem_cons_self
        refine ⟨_, rfl, _, rfl, _, rfl, _, rfl, 10, (k : Int), rfl, rfl, .inl ⟨by decide, by decide⟩, _, _, rfl, rfl, _, rfl, _, _, rfl, rfl, _, _, _, rfl, bx, lx, n11, Ml, _, rfl, rfl, rfl, t11.bo, by omega, dl.1, m11, dl.2.2.2, fun t dv la' dd M' H12 c12 hb12 nla hdM hdd hde ht => ?_⟩
        have t12 := ((t11.box c12 hb12).add hdM nla t11.s1 t11.s2 t11.bo.nt).sub (ds' := [(la', M'), (hx, Mh), (a, M)]) (fun p hp => by simp only [List.mem_cons, List.not_mem_nil, or_false] at hp ⊢; rcases hp with z | z | z <;> simp [z])
        obtain ⟨m12, ml12⟩ := deed_rec hde m11 (by omega)
        refine ⟨t, _, rfl, .inl (.inl ht), rfl, _, _, rfl, _, _, rfl, ?_⟩
        simp only [L2.start, List.map_cons, List.map_nil, List.length_cons, List.length_nil, List.replicate, List.cons_append, List.nil_append, List.set_cons_succ, List.set_cons_zero, Nat.reduceAdd, Nat.reduceSub]
        refine ⟨rfl, ?_⟩
        simp only [L2.start, List.map_cons, List.map_nil, List.length_cons, List.length_nil, List.replicate, List.cons_append, List.nil_append, List.set_cons_succ, List.set_cons_zero, Nat.reduceAdd, Nat.reduceSub]
        refine ⟨_, rfl, _, rfl, _, rfl, _, _, _, rfl, b1, S11, d11, w11, Ml, M', _, dd, rfl, (by rw [ed11]), hdd, t12.s1, s11, top11, by omega, m11, hde, (by rw [l11]; exact q11), fun S13 d13 H13 c13 h13 s13 st13 rep13 fp13 => ?_⟩
        have t13 := t12.one c13 h13 fun x hx => .inl (fp13 ▸ hx)
        refine ⟨_, rfl, ite2 (fun h => absurd h (by decide)) (fun _ => ⟨_, rfl, _, rfl, ?_⟩)⟩
        have top13 : Top S13 := by
          show S13.L.states[S13.L.owners.length - 1]? = some .runs
          rw [st13.ow, st13.st]
          exact top11
        have l13 : S13.L.owners.length = S6.L.owners.length + 1 := by rw [st13.ow]; exact l11
        have r13 := st13.lo _ _ (Nat.le_of_eq ed11) (by omega) r11
        have p13 := st13.lo _ _ (by omega) (by omega) p11
        have q13 : Rep (undB S13.L) S13.T.pages (S6.L.owners.length + 2) M' := by rw [l13] at rep13; exact rep13
        refine ite2 (fun hk9 => ⟨_, rfl, _, rfl, ite2 (fun hf => ?_) (fun hf => ?_)⟩) (fun hk9 => ?_)
        · rcases tw11 with ⟨_, d2, etv, y1, y2, y4⟩ | ⟨z, _⟩
          · rw [if_pos hf] at y4
            subst etv
            refine ⟨_, rfl, _, rfl, _, rfl, _, _, _, rfl, b2, T11, d2, v11, Ml, M', _, dd, rfl, rfl, hdd.keep c13.tk, t13.s2, y1, y2, by omega, m11, hde, y4, fun S14 d14 H14 c14 h14 s14 st14 rep14 fp14 => ?_⟩
            have t14 := t13.two c14 h14 fun x hx => .inl (fp14 ▸ hx)
            have top14 : Top S14 := by
              show S14.L.states[S14.L.owners.length - 1]? = some .runs
              rw [st14.ow, st14.st]
              exact y2
            refine ⟨_, rfl, iteF ⟨_, _, la', M', _, S13, d13, _, S14, v11 + 1, rfl, t14, s13, top13, st13.n.trans ed11, r13, p13, q13, l13, ?_, (by rw [st14.ow]; exact lo11), m12.le (by omega), by omega, by omega, by omega, by omega⟩⟩
            rw [if_pos hf]
            exact .inl ⟨hk9, d14, by rw [st14.n], s14, top14, rep14⟩
          · rw [hk9] at z
            cases z
        · refine iteF ⟨_, _, la', M', _, S13, d13, _, T11, v11, rfl, t13, s13, top13, st13.n.trans ed11, r13, p13, q13, l13, ?_, lo11, m12.le (by omega), by omega, by omega, by omega, by omega⟩
          rw [if_neg hf]
          rw [if_neg hf] at tw11
          exact tw11
        · refine iteF ⟨_, _, la', M', _, S13, d13, _, T11, v11, rfl, t13, s13, top13, st13.n.trans ed11, r13, p13, q13, l13, ?_, lo11, m12.le (by omega), by omega, by omega, by omega, by omega⟩
          rcases tw11 with ⟨z, _⟩ | z
          · exact absurd z hk9
          · exact .inr z
      · rintro σ' H11 ⟨ut, ud, lx, Ml, n11, S11, d11, w11, T11, v11, rfl, t11, s11, top11, ed11, r11, p11, q11, l11, tw11, lo11, m11, ml11, wl11, vl11, nl11⟩
        have er5 : ((r5 : Int)).toNat ≤ 4 := by omega
        refine ⟨_, rfl, _, rfl, ite2 (fun hf => ?_) (fun hf => ?_)⟩
        · refine ⟨_, rfl, _, _, _, _, _, _, _, lx, Ml, n11, S11, d11, w11, T11, v11, rfl, t11.sub (fun p hp => by simp only [List.mem_cons, List.not_mem_nil, or_false] at hp ⊢; rcases hp with z | z <;> simp [z]), s11, ed11, r11, by rw [l11]; exact q11, by omega, by rw [if_pos hf] at tw11; exact tw11, lo11, m11.le (by omega), by omega, by omega, by omega, by omega⟩
        · obtain ⟨dx11, vc11, f11, _⟩ := t11.s1.ob
          have hlt : d11.n < S11.L.owners.length := by omega
          refine ⟨_, rfl, b1, dx11, _, rfl, f11, _, rfl, _, rfl, _, _, _, rfl, b1, S11, [], d11, [], S11.L.owners.length, rfl, by rw [ed11], by rw [l11], t11.s1, s11.cs, s11.rd, ?_, top11, t11.tb, fun cu H12 c12 ncu tb12 h12 => ?_⟩
          · have e : S11.L.owners.length + 1 - d11.n = (S11.L.owners.length - d11.n) + 1 := by omega
            rw [s11.all, e, List.range'_succ]
            show _ ∈ List.range' (d11.n + 1) (S11.L.owners.length - d11.n)
            rw [List.mem_range']
            exact ⟨S11.L.owners.length - d11.n - 1, by omega, by omega⟩
          · have t12 := t11.oneT c12 tb12 h12 fun x hx => (undo_grow x hx).imp id fun (z : x = cu) => by rw [z]; exact ncu
            obtain ⟨u1, u2, u3⟩ := undo_step s11 top11 hlt cu
            refine ⟨_, _, _, _, _, _, _, hx, Mh, n11, S11.undo d11 S11.L.owners.length cu, d11, w11, T11, v11, rfl, t12.sub (fun p hp => by simp only [List.mem_cons, List.not_mem_nil, or_false] at hp ⊢; rcases hp with z | z <;> simp [z]), u1, ed11, u2 _ _ (by omega) r11, u3 _ (by rw [l11]; exact p11), (show S11.L.owners.length = _ by omega), by rw [if_neg hf] at tw11; exact tw11, lo11, m6.le (by omega), by omega, by omega, by omega, by omega⟩
    · rintro σ' H6 ⟨tv, uk, ut, uf, up, ul, ud, hx, Mh, n6, S6, d6, w6, T6, v6, rfl, t6, s6, ed6, r6, rr6, l6, tw6, lo6, m6, ml6, wl6, vl6, nl6⟩
      have el : (1 + (r3 : Int)).toNat ≤ 3 := by omega
      obtain ⟨dx6, vc6, f6, _⟩ := t6.s1.ob
      refine ⟨_, rfl, _, rfl, ite2 (fun hk9 => ?_) (fun hk9 => ?_)⟩
      · rcases tw6 with ⟨z, _⟩ | ⟨_, rr2, ac2⟩
        · rw [z] at hk9
          cases hk9
        · refine ⟨_, rfl, b1, dx6, _, rfl, f6, _, rfl, _, _, rfl, b1, S6, [], d6, [], rfl, by rw [ed6], t6.s1, s6.cs, s6.rd, t6.tb, fun cu H7 c7 ncu tb7 h7 => ?_⟩
          have t7 := t6.oneT c7 tb7 h7 fun x hx => (fin_grow s6.ac x hx).imp id fun (z : x = cu) => by rw [z]; exact ncu
          have g7 := fin_step s6 .und cu (.inr rfl) (M := M) (by rw [if_neg (by decide), ed6]; exact r6)
          exact ⟨_, rfl, q a n6 _ _ w6 v6 M H7 (t7.sub (fun p hp => by simp only [List.mem_cons, List.not_mem_nil, or_false] at hp ⊢; simp [hp])) g7 rr2 rfl ac2 (by omega) (by omega) (by omega) (show S6.L.owners.length ≤ _ by omega) (by omega) (hm.le (by omega)) (by omega)⟩
      · rcases tw6 with ⟨_, d2, etv, y1, y2, y4⟩ | ⟨z, _⟩
        · subst etv
          refine ⟨_, rfl, b1, dx6, _, rfl, f6, _, rfl, _, _, rfl, b1, S6, [], d6, [], rfl, by rw [ed6], t6.s1, s6.cs, s6.rd, t6.tb, fun cu H7 c7 ncu tb7 h7 => ?_⟩
          have t7 := t6.oneT c7 tb7 h7 fun x hx => (fin_grow s6.ac x hx).imp id fun (z : x = cu) => by rw [z]; exact ncu
          have g7 := fin_step s6 .com cu (.inl rfl) (M := Mh) (by rw [if_pos rfl]; exact rr6)
          obtain ⟨dx7, vc7, f7, _⟩ := t7.s2.ob
          refine ⟨_, rfl, b2, dx7, _, rfl, f7, _, rfl, _, _, rfl, b2, T6, [], d2, [], rfl, rfl, t7.s2, y1.cs, y1.rd, t7.tb, fun cv H8 c8 ncv tb8 h8 => ?_⟩
          have t8 := t7.twoT c8 tb8 h8 fun x hx => (fin_grow y1.ac x hx).imp id fun (z : x = cv) => by rw [z]; exact ncv
          have g8 := fin_step y1 .com cv (.inl rfl) (M := Mh) (by rw [if_pos rfl]; exact y4)
          exact ⟨_, rfl, q hx n6 _ _ w6 v6 Mh H8 (t8.sub (fun p hp => by simp only [List.mem_cons, List.not_mem_nil, or_false] at hp ⊢; simp [hp])) g7 g8 rfl rfl (by omega) (by omega) (by omega) (show S6.L.owners.length ≤ _ by omega) (show T6.L.owners.length ≤ _ by omega) (m6.le (by omega)) (by omega)⟩
        · rw [z] at hk9
          exact absurd rfl hk9
end Rc


set_option Elab.async false
set_option linter.all false
set_option maxRecDepth 100000
set_option maxHeartbeats 1000000
/-! a deal that only reads; sorted texts -/
namespace Rc
open PySem
theorem idle_read {S : Sto} {w : Nat} {M : List Row} (h : Rest S w M) {d : Dl} (e : d.n = S.L.owners.length + 1) (ep : d.parts = [d.n]) :
    KL (S.L.begun d) ∧ RA (S.L.begun d) ∧ RunD (S.L.begun d) S.L.act d [] ∧ (runP (S.L.begun d) d).getLast? = some d.n ∧
    (∀ rs, RsOk (S.wL (S.L.begun d)) d rs → ((allVis S.T.pages (seesB (snNow (S.wL (S.L.begun d)) rs d) (withS (S.L.begun d).states .und))).map cellsN).Perm M) ∧
    ∀ o, Rest { S.wL (S.L.begun d) with L := stepD (S.L.begun d) S.L.act d [], opened := o, cs := [] } w M := by
  have hl : (S.L.begun d).owners.length = S.L.owners.length + 1 := by
    show (S.L.owners ++ [d.n]).length = _
    rw [List.length_append]
    rfl
  have hrun : (S.L.states ++ [Sta.runs])[S.L.owners.length]? = some .runs := by
    rw [h.sl, List.getElem?_append_right (Nat.le_refl _), Nat.sub_self]
    rfl
  have hru : (S.L.begun d).states[d.n - 1]? = some .runs := by
    rw [e]
    exact hrun
  have hU : ∀ m, undB (S.L.begun d) m = undB S.L m := fun m => und_push
  have kl := kl_begun h.kl e
  have ra := ra_begun h.sl h.kl h.ra e
  refine ⟨kl, ra, ⟨rfl, by omega, hru⟩, ?_, fun rs hr => ?_, fun o => ⟨kl, fun q hq hs => ?_, ?_, h.ro.mono fun m c hm => ⟨hm.1, ?_, fun d' hd' => ?_⟩, h.pb, rfl, h.va, ?_⟩⟩
  · unfold runP
    rw [ep, List.filter_cons, if_pos (decide_eq_true hru)]
    rfl
  · rw [all_cells]
    refine List.Perm.trans (List.Perm.of_eq (vl_congr fun p hp v hv => ?_)) h.rep
    obtain ⟨h1, h2⟩ := h.ro p hp v hv
    have cnt : ∀ m c, (1 ≤ m ∧ m ≤ S.L.owners.length ∧ ∀ d ∈ S.L.act, m ∉ d.parts) → countsB (snNow (S.wL (S.L.begun d)) rs d) m c (withS (S.L.begun d).states .und) = !undB S.L m := fun m c hm => by
      have hu : decide (m ∈ withS (S.L.begun d).states .und) = undB S.L m := und_push
      unfold countsB
      rw [← hu]
      by_cases hz : m ∈ withS (S.L.begun d).states .und
      · rw [if_pos hz, decide_eq_true hz]
        rfl
      · rw [if_neg hz, decide_eq_false hz]
        have no : m ∉ d.parts := fun z => by
          rw [ep] at z
          have := List.mem_singleton.mp z
          omega
        have nr : m ∉ rs := fun z => by
          obtain ⟨d2, a1, a2, a3⟩ := hr m z
          rcases List.mem_append.mp (show d2 ∈ S.L.act ++ [d] from a1) with y | y
          · exact hm.2.2 d2 y a3
          · exact a2 (by rw [List.mem_singleton.mp y])
        show (if m ∈ d.parts then decide (c < d.cmd) else decide (m < (S.L.begun d).owners.length + 1) && !decide (m ∈ rs)) = true
        rw [if_neg no, decide_eq_true (by rw [hl]; omega), decide_eq_false nr]
        rfl
    have one : ∀ m, m ≤ S.L.owners.length → (undB S.L m || decide (S.L.owners.length + 1 ≤ m)) = undB S.L m := fun m hm => by
      rw [decide_eq_false (by omega), Bool.or_false]
    unfold seesB fU visU
    rw [cnt _ _ h1]
    show (!undB S.L v.mkr && _) = (!(undB S.L v.mkr || decide (S.L.owners.length + 1 ≤ v.mkr)) && _)
    rw [one _ h1.2.1]
    cases ee : v.en with
    | none => rfl
    | some ec =>
      obtain ⟨en, c⟩ := ec
      show (!undB S.L v.mkr && !countsB (snNow (S.wL (S.L.begun d)) rs d) en c (withS (S.L.begun d).states .und)) = (!undB S.L v.mkr && (undB S.L en || decide (S.L.owners.length + 1 ≤ en)))
      rw [cnt _ _ (h2 en c ee), Bool.not_not, one _ (h2 en c ee).2.1]
  · obtain ⟨d2, h1, h2⟩ := ra q hq hs
    rcases List.mem_append.mp (show d2 ∈ S.L.act ++ [d] from h1) with y | y
    · exact ⟨d2, List.mem_append_left _ y, h2⟩
    · refine ⟨{ d with cmd := d.cmd + 1 }, List.mem_append_right _ (List.mem_singleton.mpr rfl), ?_⟩
      rw [← h2, List.mem_singleton.mp y]
  · show (S.L.begun d).owners.length = (S.L.states ++ [Sta.runs]).length
    rw [hl, List.length_append, h.sl]
    rfl
  · show m ≤ (S.L.begun d).owners.length
    have := hm.2.1
    omega
  · rcases List.mem_append.mp (show d' ∈ S.L.act ++ [{ d with cmd := d.cmd + 1 }] from hd') with y | y
    · exact hm.2.2 d' y
    · rw [List.mem_singleton.mp y]
      show m ∉ d.parts
      rw [ep]
      intro z
      have := List.mem_singleton.mp z
      have := hm.2.1
      omega
  · show Rep (undB (S.L.begun d)) S.T.pages ((S.L.begun d).owners.length + 1) M
    refine h.seen fun m h1 h2 => ?_
    rw [hU, hl, decide_eq_false (by omega), Bool.or_false]
theorem row_cells (ns : List Note) : ns.map rowN = (ns.map cellsN).map fun r => rowD r.1 r.2 := by
  rw [List.map_map]
  refine List.map_congr_left fun x _ => ?_
  obtain ⟨_, _, id, kd⟩ := x
  rfl
/-! sorted texts -/
theorem cps_eq {a b : Str} (h : a.cps.toList = b.cps.toList) : a = b := by
  obtain ⟨x⟩ := a
  obtain ⟨y⟩ := b
  have e : x.toList = y.toList := h
  rw [Array.toList_inj.mp e]
theorem leS_anti {a b : Str} (h1 : leS a b = true) (h2 : leS b a = true) : a = b :=
  cps_eq (List.le_antisymm (of_decide_eq_true h1) (of_decide_eq_true h2))
theorem leS_trans {a b c : Str} (h1 : leS a b = true) (h2 : leS b c = true) : leS a c = true :=
  decide_eq_true (List.le_trans (of_decide_eq_true h1) (of_decide_eq_true h2))
theorem leS_total (a b : Str) : (leS a b || leS b a) = true := by
  rw [Bool.or_eq_true]
  exact (List.le_total a.cps.toList b.cps.toList).imp decide_eq_true decide_eq_true
theorem sort_perm {xs ys : List Str} (h : xs.Perm ys) : xs.mergeSort leS = ys.mergeSort leS :=
  List.Perm.eq_of_pairwise (le := fun a b => leS a b = true) (fun a b _ _ h1 h2 => leS_anti h1 h2) (List.pairwise_mergeSort (le := leS) (fun a b c h1 h2 => leS_trans h1 h2) leS_total xs) (List.pairwise_mergeSort (le := leS) (fun a b c h1 h2 => leS_trans h1 h2) leS_total ys)
    ((List.mergeSort_perm xs leS).trans (h.trans (List.mergeSort_perm ys leS).symm))
/-! the texts of rows -/
def rowT (r : Row) : Str := (rowD r.1 r.2).shown
structure FineR (r : Row) : Prop where
  ge : 0 ≤ r.1
  lt : r.1 < 100000
  kd : fineKd r.2
theorem kd_show {d : PyData} (h : fineKd d) : d.showable = true ∧ d.hasDict = false ∧ d.depth = 0 ∧ d.shown.length ≤ 8 ∧ ∀ c ∈ d.shown.cps.toList, c < 128 := by
  rcases h with z | z | z | z | z | z | z <;> rw [z]
  · decide +kernel
  · decide +kernel
  · decide +kernel
  · decide +kernel
  · decide +kernel
  · decide +kernel
  · decide +kernel
theorem row_show {r : Row} (h : FineR r) : (rowD r.1 r.2).showable = true ∧ (rowD r.1 r.2).hasDict = false ∧ (rowD r.1 r.2).depth ≤ 2 ∧ (rowT r).length ≤ 40 ∧ ∀ c ∈ (rowT r).cps.toList, c < 128 := by
  obtain ⟨id, kd⟩ := r
  obtain ⟨k1, k2, k3, k4, k5⟩ := kd_show h.kd
  have k4 : kd.shown.length ≤ 8 := k4
  have h0 : 0 ≤ id := h.ge
  have h1 : id < 100000 := h.lt
  have nl : id.natAbs < 10 ^ 5 := by omega
  have lg : id.natAbs.log2 < 1920 := by
    by_cases z : id.natAbs = 0
    · rw [z]
      decide
    · rw [Nat.log2_lt z]
      exact Nat.lt_of_lt_of_le (by omega : id.natAbs < 2 ^ 17) (Nat.pow_le_pow_right (by decide) (by decide))
  have il : (PyData.int id).shown.length ≤ 6 := by
    rw [PyData.shown_int]
    have := int_text_length_le10 (k := 5) (by decide) nl
    show (Str.ofString (toString id)).length ≤ 6
    rw [ofString_length]
    exact this
  have et : rowT (id, kd) = tupleText [(PyData.int id).shown, kd.shown] := by
    show (PyData.tuple [.int id, kd]).shown = _
    simp only [PyData.shown, PyData.shownAll]
  refine ⟨?_, ?_, ?_, ?_, fun c hc => ?_⟩
  · show (PyData.tuple [.int id, kd]).showable = true
    simp only [PyData.showable, PyData.showableAll, k1, Bool.and_true, decide_eq_true_eq]
    exact lg
  · show (PyData.tuple [.int id, kd]).hasDict = false
    simp only [PyData.hasDict, PyData.hasDictAll, k2, Bool.or_false]
  · show (PyData.tuple [.int id, kd]).depth ≤ 2
    simp only [PyData.depth, PyData.depthAll, k3]
    decide
  · rw [et]
    have := tupleText_len_le [(PyData.int id).shown, kd.shown]
    simp only [List.map_cons, List.map_nil, List.sum_cons, List.sum_nil, List.length_cons, List.length_nil] at this
    omega
  · rw [et] at hc
    have hc : c ∈ ((("(" : String) : Str) ++ Str.join ", " [(PyData.int id).shown, kd.shown] ++ ((")" : String) : Str)).cps.toList := hc
    have app : ∀ a b : Str, c ∈ (a ++ b).cps.toList → c ∈ a.cps.toList ∨ c ∈ b.cps.toList := fun a b z => by
      have z : c ∈ (a.cps ++ b.cps).toList := z
      rw [Array.toList_append] at z
      exact List.mem_append.mp z
    have one : ∀ s : Str, (∀ k ∈ s.cps.toList, k < 128) → c ∈ s.cps.toList → c < 128 := fun s hs z => hs c z
    rcases app _ _ hc with z | z
    · rcases app _ _ z with z | z
      · exact one _ (by decide +kernel) z
      · rcases (PyProof.Rows.mem_join _ _ _).mp z with ⟨t, ht, z⟩ | ⟨_, z⟩
        · simp only [List.mem_cons, List.not_mem_nil, or_false] at ht
          rcases ht with y | y
          · rw [y] at z
            by_cases hc2 : c < 128
            · exact hc2
            · exact absurd z (PyProof.Rows.shown_int_free' ⟨by omega, .inr (by omega)⟩ id)
          · rw [y] at z
            exact k5 c z
        · exact one _ (by decide +kernel) z
    · exact one _ (by decide +kernel) z
/-- a list of texts -/
def strsD (zs : List Str) : PyData := .list (zs.map .str)
theorem strs_show : ∀ {zs : List Str}, (∀ z ∈ zs, z.length ≤ 40 ∧ ∀ c ∈ z.cps.toList, c < 128) →
    PyData.showableAll (zs.map .str) = true ∧ PyData.hasDictAll (zs.map .str) = false ∧ PyData.depthAll (zs.map .str) = 0 ∧ PyData.leavesShortAll 8 (zs.map .str) = true ∧ PyData.weightAll (zs.map .str) ≤ 60 * zs.length
  | [], _ => ⟨rfl, rfl, rfl, rfl, Nat.zero_le _⟩
  | z :: zs, h => by
    obtain ⟨i1, i2, i3, i4, i5⟩ := strs_show (zs := zs) fun y hy => h y (List.mem_cons_of_mem _ hy)
    obtain ⟨h1, h2⟩ := h z List.mem_cons_self
    refine ⟨?_, ?_, ?_, ?_, ?_⟩
    · simp only [List.map_cons, PyData.showableAll, PyData.showable, i1, Bool.and_true]
    · simp only [List.map_cons, PyData.hasDictAll, PyData.hasDict, i2, Bool.or_false]
    · simp only [List.map_cons, PyData.depthAll, PyData.depth, i3, Nat.max_self]
    · simp only [List.map_cons, PyData.leavesShortAll, PyData.leavesShort, i4, Bool.and_true, List.all_eq_true, decide_eq_true_eq]
      intro c hc
      exact Nat.lt_trans (h2 c hc) (by decide)
    · simp only [List.map_cons, PyData.weightAll, PyData.weight, List.length_cons]
      have e : z.length = z.cps.size := rfl
      omega
structure ShowOk (d : PyData) : Prop where
  sh : d.showable = true
  nd : d.hasDict = false
  dp : d.depth ≤ 50
  ln : d.shown.length ≤ sizeLine
theorem show_strs {zs : List Str} (h : ∀ z ∈ zs, z.length ≤ 40 ∧ ∀ c ∈ z.cps.toList, c < 128) (l : zs.length ≤ 1000) : ShowOk (strsD zs) := by
  obtain ⟨i1, i2, i3, i4, i5⟩ := strs_show h
  refine ⟨by simpa only [strsD, PyData.showable] using i1, by simpa only [strsD, PyData.hasDict] using i2, ?_, ?_⟩
  · simp only [strsD, PyData.depth, i3]
    decide
  · have a := PyData.shown_le 8 (by decide) (strsD zs) (by simpa only [strsD, PyData.leavesShort] using i4)
    have e : (strsD zs).weight = PyData.weightAll (zs.map .str) + 0 := by simp only [strsD, PyData.weight, Nat.add_zero]
    rw [sizeLine_eq]
    omega
theorem show_two {xs ys : List Str} (hx : ∀ z ∈ xs, z.length ≤ 40 ∧ ∀ c ∈ z.cps.toList, c < 128) (lx : xs.length ≤ 1000) (hy : ∀ z ∈ ys, z.length ≤ 40 ∧ ∀ c ∈ z.cps.toList, c < 128) (ly : ys.length ≤ 1000) : ShowOk (.list [strsD xs, strsD ys]) := by
  obtain ⟨i1, i2, i3, i4, i5⟩ := strs_show hx
  obtain ⟨j1, j2, j3, j4, j5⟩ := strs_show hy
  refine ⟨by simp only [strsD, PyData.showable, PyData.showableAll, i1, j1, Bool.and_true], by simp only [strsD, PyData.hasDict, PyData.hasDictAll, i2, j2, Bool.or_false], ?_, ?_⟩
  · simp only [strsD, PyData.depth, PyData.depthAll, i3, j3]
    decide
  · have a := PyData.shown_le 8 (by decide) (.list [strsD xs, strsD ys]) (by simp only [strsD, PyData.leavesShort, PyData.leavesShortAll, i4, j4, Bool.and_true])
    have e : (PyData.list [strsD xs, strsD ys]).weight = PyData.weightAll (xs.map .str) + 1 + (PyData.weightAll (ys.map .str) + 1 + 0) := by simp only [strsD, PyData.weight, PyData.weightAll]
    rw [sizeLine_eq]
    omega
end Rc

set_option Elab.async false
set_option linter.all false
set_option maxRecDepth 100000
set_option maxHeartbeats 4000000
/-! promises that are kept where no text of an object is under way; the text of data -/
namespace Rc
open PySem PySem.Spec PyProof.Rows L2 He
structure FnG (P : Program) (w : World) (K : PySem.W.Frag) (mg : Str → Option Value) (base : Heap) (k : Nat) (f : Addr) (fd : FuncData) (ps : List Str) (sp : Sp) : Prop where
  ln : ∀ vs H Q E, sp vs H Q E → vs.length = ps.length
  go : ∀ (A : Around) (out : List Env) (st : Shared) (H : Hp) (ag : Args) (us : List Value) (vs : List V) (Q : VK) (E : XK), A.guards = some [] → Room k A → Env0 P w K mg base A out st H → BindsTo st fd ag (ps.zip us) → Vals vs us → sp vs H Q E →
    codeAny (model P w) A (.call (.ref f) ag) (CR CX0 out P w H st Q E) st
structure DfG (P : Program) (w : World) (K : PySem.W.Frag) (mg : Str → Option Value) (base : Heap) (f : Addr) (k : Nat) (sp : Sp) : Prop where
  ex : ∃ (fd : FuncData) (ps : List Str), FnG P w K mg base k f fd ps sp ∧ Binds K fd ps []
  kp : PySem.W.keepIn K (.ref f) = true
section
variable {P : Program} {w : World} {K : PySem.W.Frag} {mg : Str → Option Value} {base : Heap} {x qual : Str} {params : Arguments} {body : List Stmt} {scope : Scope} {g : Addr} {fd : FuncData} {N ps : List Str} {k : Nat} {sp : Sp}
def BdG (P : Program) (w : World) (K : PySem.W.Frag) (mg : Str → Option Value) (base : Heap) (qual : Str) (scope : Scope) (g : Addr) (N : List Str) (k : Nat) (body : List Stmt) (vs : List V) (H : Hp) (Q : VK) : Prop :=
  ∀ (cdv : Value) (A : Around) (outer : List Env) (s : Shared) (E : XK), A.guards = some [] → Room k (A.deeper (envOfC qual scope s.heap.objs.size g cdv)) →
    ∃ t, PSs (cxOf CX0 P w K mg base N qual scope g cdv A outer s H E).nox body t ∧ t { nx := fun _ H' => Q .non H', rt := Q } (start N vs) H
theorem fnG_of (F : FunD K x qual params body scope [] [] g fd) (S : FnScope N ps scope) (ln : ∀ vs H Q E, sp vs H Q E → vs.length = ps.length)
    (hb : ∀ vs H Q E, sp vs H Q E → BdG P w K mg base qual scope g N k body vs H Q) : FnG P w K mg base (k + 1) g fd ps sp := by
  obtain ⟨_, _, _, _, _, _, _, cdv, _, _, rfl, lk, hcd, _, _⟩ := F.ex
  refine ⟨ln, fun A out st H ag us vs Q E hG hR ev hB rv hS => ?_⟩
  have kin : K.In st.heap := ev.mod.kin.keeps fun b o z => (ev.bs b o z).1
  have nol : st.heap.NoLimit := ev.mod.nolimit.keeps fun b o z => (ev.bs b o z).1
  refine codeAny_call_function hR.depth (kin _ _ lk) rfl S.co S.gen rfl (PySem.W.codeRec_of kin hcd) (hB _ _ _ _ ?_)
  refine wpAny_newFunctionEnv_cells S.kind (fun y hy => (S.par y.1 (List.of_mem_zip (show (y.1, y.2) ∈ ps.zip us from hy)).1).imp id fun q => ⟨q, PySem.W.cellsFrom_some _ _ _ (.inl q)⟩) fun e1 he st1 nw => ?_
  subst he
  refine ⟨nol.keeps nw.toInCall.keep, codeAny_func ?_⟩
  obtain ⟨t, ht, hq⟩ := hb vs H Q E hS cdv A out st E hG (hR.deeper _)
  have J : Inv (cxOf CX0 P w K mg base N qual scope g cdv A out st H E) [] (start N vs) H st1 := inv_start S hR.hd ev (ln _ _ _ _ hS) rv nw
  refine wpAny_mono ((PSs.nox ht).run [] st1 (start N vs) H _ J hq) (fun fl st2 h2 => ?_) fun _ _ z => z
  match fl, h2 with
  | .ret u, ⟨v, σ2, H2, J2, r2, q2⟩ => exact ⟨v, H2, J2.os, J2.bare, J2.base, J2.hok, r2, q2⟩
  | .next, ⟨σ2, H2, J2, q2⟩ => exact ⟨V.non, H2, J2.os, J2.bare, J2.base, J2.hok, (rfl : RelV V.non Value.none), q2⟩
  | .brk, ⟨_, _, _, q2⟩ => exact q2.elim
  | .cont, ⟨_, _, _, q2⟩ => exact q2.elim
theorem dfG_of (F : FunD K x qual params body scope [] [] g fd) (S : FnScope N ps scope) (bn : BindN x qual params body scope ps) (ln : ∀ vs H Q E, sp vs H Q E → vs.length = ps.length)
    (hb : ∀ vs H Q E, sp vs H Q E → BdG P w K mg base qual scope g N k body vs H Q) : DfG P w K mg base g (k + 1) sp :=
  ⟨⟨fd, ps, fnG_of F S ln hb, F.bindsN bn⟩, F.kp⟩
theorem fnG1 {p : V → Hp → VK → Prop} {a : Str} (F : FunD K x qual params body scope [] [] g fd) (S : FnScope N [a] scope) (hb : ∀ x H Q, p x H Q → BdG P w K mg base qual scope g N k body [x] H Q) : FnG P w K mg base (k + 1) g fd [a] (s1 p) :=
  fnG_of F S (fun _ _ _ _ ⟨_, e, _⟩ => by rw [e]; rfl) fun _ _ _ _ ⟨_, e, h⟩ => by rw [e]; exact hb _ _ _ h
theorem dfG1 {p : V → Hp → VK → Prop} {a : Str} (F : FunD K x qual params body scope [] [] g fd) (S : FnScope N [a] scope) (bn : BindN x qual params body scope [a])
    (hb : ∀ x H Q, p x H Q → BdG P w K mg base qual scope g N k body [x] H Q) : DfG P w K mg base g (k + 1) (s1 p) :=
  dfG_of F S bn (fun _ _ _ _ ⟨_, e, _⟩ => by rw [e]; rfl) fun _ _ _ _ ⟨_, e, h⟩ => by rw [e]; exact hb _ _ _ h
theorem dfG2 {p : V → V → Hp → VK → Prop} {a b : Str} (F : FunD K x qual params body scope [] [] g fd) (S : FnScope N [a, b] scope) (bn : BindN x qual params body scope [a, b])
    (hb : ∀ x y H Q, p x y H Q → BdG P w K mg base qual scope g N k body [x, y] H Q) : DfG P w K mg base g (k + 1) (s2 p) :=
  dfG_of F S bn (fun _ _ _ _ ⟨_, _, e, _⟩ => by rw [e]; rfl) fun _ _ _ _ ⟨_, _, e, h⟩ => by rw [e]; exact hb _ _ _ _ h
end
section
variable {X : Cx} {e : Expr} {es : List Expr} {pos p : Pos} {tr : TA} {x : Str} {k : Nat} {g : Addr} {sp : Sp}
/-- a call of such a def -/
theorem pe_cg (hG : X.A.guards = some []) (D : DfG X.prog X.w X.K X.mg X.base g k sp) (hr : Room k X.A) (hg : Gl X x) (hm : X.mg x = some (.ref g)) (ha : PA X (e :: es) tr) (hdb : (x == ("__debug__" : Str)) = false := by decide)
    (he : starEach (e :: es) X.env = (false, eval e X.env) :: starEach es X.env := by rfl) (hpl : (backTo pos (starEach es X.env)).any (·.1) = false := by rfl) : PE X (.Call (.Name x p) (e :: es) [] pos) (tCall sp [] E0 tr) := by
  obtain ⟨fd, ps, F, hb⟩ := D.ex
  refine ⟨fun pins st σ H Q J h => ?_⟩
  refine wpAny_Call_Name_kw (ld_glob J hg hm ?_ hdb)
  refine PySem.W.callWith_K (h₀ := X.base) J.ok.mod.kin D.kp (thn (ha.run pos pins st σ H _ J h) fun us s1 ⟨vs, H1, J1, r1, q1⟩ => ⟨J1.kIn, ?_⟩) he hpl
  have hl : (us ++ []).length = ps.length := by
    have := F.ln _ _ _ _ q1
    rw [List.append_nil] at this ⊢
    rw [← this]
    exact r1.length.symm
  refine wpAny_call (codeAny_mono (F.go X.A X.stack s1 H1 ⟨us, []⟩ (us ++ []) (vs ++ []) Q E0 hG hr J1.env0 (hb s1 us J1.kIn hl) (by rw [List.append_nil, List.append_nil]; exact r1) q1) fun r s2 hq => ?_)
  match r, hq with
  | .error z, hq => exact pass0 pins σ H1 s1 z s2 J1 hq
  | .ok (.ret u), hq => exact J1.after hq
  | .ok .next, hq => exact hq.elim
  | .ok .brk, hq => exact hq.elim
  | .ok .cont, hq => exact hq.elim
/-- repr(x), x data behind an address -/
def rRepr (K : PySem.W.Frag) : List V → Hp → VK → Prop := fun xs H Q => ∃ (a : Addr) (d : PyData), xs = [.ref a] ∧ Dp K H (.ref a) d ∧ d.showable = true ∧ d.hasDict = false ∧ d.depth ≤ 50 ∧ d.shown.length ≤ sizeLine ∧ Q (.str d.shown) H
theorem cr_repr (hG : X.A.guards = some []) (hu : X.A.units + 64 < cLine) : CallR X (.builtin "repr") (rRepr X.K) := by
  intro pins s σ H xs us Q J r h
  obtain ⟨a, d, ex, hd, h1, h2, h3, h4, q⟩ := h
  subst ex
  rw [Vals.ref1 r]
  obtain ⟨as, rd⟩ := Dp.reads J d (.ref a) (.ref a) hd rfl
  exact repr_of_reads' rd h1 (PyData.noDict_hsm h2) hG (by omega) (fun _ _ z => z) (fun h1 u tk hk => ⟨.str d.shown, H, J.kept hk, ⟨u, rfl⟩, q⟩) h4
theorem cr_reprK (K : PySem.W.Frag) (hG : X.A.guards = some []) (hu : X.A.units + 64 < cLine) (hK : X.K = K := by rfl) : CallR X (.builtin "repr") (rRepr K) := by subst hK; exact cr_repr hG hu
end
end Rc

set_option Elab.async false
set_option linter.all false
set_option maxRecDepth 100000
set_option maxHeartbeats 4000000
namespace Rc
open PySem PySem.Spec PyProof.Rows L2 He
def sp_law_same (K : PySem.W.Frag) : Sp := s2 fun x y H Q => ∃ (a b : Addr) (d : PyData), x = .ref a ∧ y = .ref b ∧ Dp K H (.ref a) d ∧ Dp K H (.ref b) d ∧ ShowOk d ∧ Q (.bl true) H
theorem ok_law_same {P : Program} {w : World} {K : PySem.W.Frag} {mg : Str → Option Value} {base : Heap} (T : Tx K mg)  : DfG P w K mg base (fAd K ("_law_same", none)) 2 (sp_law_same K) := by
  obtain ⟨fd, F⟩ := fn_law_same T
  refine dfG2 F sc_law_same (fun _ _ _ _ _ _ us hl => match us, hl with | [_, _], _ => rfl) fun found due H Q h => ?_
  intro cdv A outer s E hG hr
  have hu := hu_of hr
  refine ⟨_, (pss_one (ps_ret (pe_cmpR op_eq (pe_callB (cr_reprK K hG hr.units) (by rfl) (T.b_repr) (by decide +kernel) (pa_cons (pv 0) pa_nil)) (pe_callB (cr_reprK K hG hr.units) (by rfl) (T.b_repr) (by decide +kernel) (pa_cons (pv 1) pa_nil)) (nomark _)))), ?_⟩
  obtain ⟨a, b, d, ex, ey, ha, hb, hd, q⟩ := h
  subst ex ey
  refine ⟨_, rfl, a, d, rfl, ha, hd.sh, hd.nd, hd.dp, hd.ln, _, rfl, b, d, rfl, hb, hd.sh, hd.nd, hd.dp, hd.ln, rfl, ?_⟩
  show Q (.bl (decide (V.str d.shown = V.str d.shown))) H
  rw [decide_eq_true rfl]
  exact q
/-- a change of places that are new, or within -/
theorem chg_over {fp fp1 : List Addr} {H H1 H2 : Hp} (c1 : Chg fp H H1) (c2 : Chg fp1 H1 H2) (g : ∀ x ∈ fp1, x ∈ fp ∨ H x = none) : Chg fp H H2 :=
  ⟨fun a o e m => c2.keep a o (c1.keep a o e m) fun z => (g a z).elim m fun n => (by rw [e] at n; cases n), fun a o e i => c2.imm a o (c1.imm a o e i) i, fun a h => c2.live a (c1.live a h)⟩
theorem none_back {K : PySem.W.Frag} {H H' : Hp} {b : Addr} {S : Sto} (hS : StoAt K H b S) (c : Chg (S.fp b) H H') {l : Addr} (n : H' l = none) : H l = none := by
  cases eq : H l with
  | none => rfl
  | some o =>
    by_cases hm : l ∈ S.fp b
    · exact ((c.live l (hS.nt l hm)).not n).elim
    · have := c.keep _ _ eq hm
      rw [n] at this
      cases this
def sp_law_read_now (K : PySem.W.Frag) : Sp := s1 fun x H Q => ∃ (b : Addr) (S : Sto) (w : Nat) (M : List Row), x = .ref b ∧ StoAt K H b S ∧ Rest S w M ∧ S.L.owners.length < 63 ∧ (∀ r ∈ M, FineR r) ∧ M.length ≤ 400 ∧
  ∀ (l : Addr) (S' : Sto) (H' : Hp), H l = none → Chg (S.fp b) H H' → H' l = some (.lst (((M.map rowT).mergeSort leS).map V.str)) → StoAt K H' b S' → Rest S' w M → S'.L.owners.length = S.L.owners.length + 1 → (∀ x ∈ S'.fp b, x ∈ S.fp b ∨ H x = none) → Q (.ref l) H'
theorem ok_law_read_now {P : Program} {w : World} {K : PySem.W.Frag} {mg : Str → Option Value} {base : Heap} (T : Tx K mg)  : DfG P w K mg base (fAd K ("_law_read_now", none)) 12 (sp_law_read_now K) := by
  obtain ⟨fd, F⟩ := fn_law_read_now T
  refine dfG1 F sc_law_read_now (fun _ _ _ _ _ _ us hl => match us, hl with | [_], _ => rfl) fun store H Q h => ?_
  intro cdv A outer s E hG hr
  have hu := hu_of hr
  refine ⟨_, (pss_cons (ps_set (i := 1) (sc_law_read_now).nd rfl (.inl rfl) (pe_mt0 (ok_Base_begin_0 T) (T.m_Base_begin) (hr.mono (by decide)) (pv 0)))
    (pss_one (ps_ret (pe_callB (cr_sortedTK K hr.units) (by rfl) (T.b_sorted) (by decide +kernel) (pa_cons (pe_lc (own := [("_law_row", 2)]) (tt := tYes) rfl (sc_law_read_now).nd (pi_listK K (pe_mt (ok_Base_read_1 T) (T.m_Base_read) (hr.mono (by decide)) (pv 0) (pa_cons (pv 1) pa_nil))) (blkOk_by (N := ["_law_store", "_law_t", "_law_row"]) (sc := defScope t_law_read_now) (by decide +kernel)) (fun _ _ _ _ _ => (pg_name (i := 2) (sc_law_read_now).nd rfl (.inl rfl))) (fun _ _ _ _ _ => pts_nil) (fun _ _ _ _ _ => (pe_callB (cr_reprK K hG hr.units) (by rfl) (T.b_repr) (by decide +kernel) (pa_cons (pv 2) pa_nil)))) pa_nil))))), ?_⟩
  obtain ⟨b, S, w, M, ex, hS, hR, lo, hF, lM, q⟩ := h
  subst ex
  obtain ⟨dx, vc, f, _⟩ := hS.ob
  refine ⟨_, rfl, b, dx, _, rfl, f, _, _, rfl, b, S, rfl, rfl, hS, hR.kl, by omega, fun d H1 en ep ec na np c1 h1 => ?_⟩
  obtain ⟨k1, k2, k3, k4, k5, k6⟩ := idle_read hR en ep
  obtain ⟨dx1, vc1, f1, _⟩ := h1.ob
  refine ⟨_, rfl, b, dx1, _, rfl, f1, _, rfl, _, _, _, _, _, rfl, b, _, S.L.act, d, [], d.n, rfl, rfl, rfl, rfl, rfl, ⟨h1, k1, k2, k3⟩, hR.cs, k4, fun r vs rs H2 nr c2 h2 hr2 tds hrs => ⟨r, rfl, ⟨_, SqL.of hr2⟩, fun D hD => ?_⟩⟩
  have pm := k5 rs hrs
  rw [row_cells] at tds
  obtain ⟨rows, erows⟩ : ∃ rows : List Row, rows = (allVis S.T.pages (seesB (snNow (S.wL (S.L.begun d)) rs d) (withS (S.L.begun d).states .und))).map cellsN := ⟨_, rfl⟩
  have tds : Tds K H2 vs (rows.map fun r => rowD r.1 r.2) := erows ▸ tds
  rw [← erows] at pm
  have lr : rows.length ≤ 400 := by rw [pm.length_eq]; exact lM
  have lv := tds.length
  rw [List.length_map] at lv
  refine lc_list (K := K) (a := r) (xs := vs) (fun i H' => CmW H2 D (((rows.take i).map rowT).map V.str) H') (.start hD) (fun i H' _ c => SqL.of (c.sm _ _ hr2)) ?_ ?_
  · rintro i x H3 hi c
    have il : i < vs.length := (List.getElem?_eq_some_iff.mp hi).1
    obtain ⟨d1, hd1, hxd⟩ := tds.get2 hi
    rw [List.getElem?_map] at hd1
    obtain ⟨p, hp, e2⟩ := Option.map_eq_some_iff.mp hd1
    subst e2
    obtain ⟨s1, s2, s3, s4, _⟩ := row_show (hF p (pm.mem_iff.mp (List.mem_of_getElem? hp)))
    obtain ⟨xa, xxs, exx, hq, hrr⟩ := (hxd.same c.sm).tup_eq
    have hdp := (hxd.same c.sm).dp
    subst exx
    refine ⟨rfl, ?_⟩
    unfold tYes
    refine iteT ⟨_, rfl, xa, _, rfl, hdp, s1, s2, by omega, ?_, _, c.at_, small1000 ?_, ?_⟩
    · rw [sizeLine_eq]
      have : (rowD p.1 p.2).shown.length ≤ 40 := s4
      omega
    · rw [List.length_map, List.length_map, List.length_take]
      omega
    · rw [List.take_succ, hp, List.map_append, List.map_append]
      exact c.push hD _
  · rintro H3 c
    rw [lv, List.take_length] at c
    refine ⟨D, rows.map rowT, rfl, SqL.of c.at_, fun l nl => ?_⟩
    have sl : Same H3 (upd H3 l (.lst (((rows.map rowT).mergeSort leS).map V.str))) := same_new nl
    have gr : ∀ x ∈ (S.wL (S.L.begun d)).fp b, x ∈ S.fp b ∨ H x = none := fun x hx => (begun_grow x hx).imp id fun h => h.elim (fun z => z ▸ na) fun z => z ▸ np
    have c3 : Chg (S.fp b) H H3 := (chg_over c1 c2 gr).trans (Chg.of c.sm)
    have ef : ∀ o, Sto.fp b { S.wL (S.L.begun d) with L := stepD (S.L.begun d) S.L.act d [], opened := o, cs := [] } = (S.wL (S.L.begun d)).fp b := fun o => by
      have e1 : (stepD (S.L.begun d) S.L.act d []).fp S.l = (S.L.begun d).fp S.l := withD_fp (d' := { d with cmd := d.cmd + 1 }) k3.ac rfl rfl
      show Sto.own b S ++ ((stepD (S.L.begun d) S.L.act d []).fp S.l ++ S.T.fp S.t) = _
      rw [e1]
      rfl
    refine q l _ _ (none_back hS c3 nl) (c3.trans (Chg.of sl)) ?_ ((h2.same c.sm).same sl) (k6 _) ?_ fun x hx => gr x (ef _ ▸ hx)
    · rw [← sort_perm (pm.map rowT)]
      exact upd_same
    · show (S.L.owners ++ [d.n]).length = _
      rw [List.length_append]
      rfl
end Rc


set_option Elab.async false
set_option linter.all false
set_option maxRecDepth 100000
set_option maxHeartbeats 4000000
namespace Rc
open PySem PySem.Spec PyProof.Rows L2 He
theorem rest0 {S : Sto} (h : Sto0 S) : Rest S 0 [] := by
  have nr : RowsAll (fun m _ => 1 ≤ m ∧ m ≤ S.L.owners.length ∧ ∀ d ∈ S.L.act, m ∉ d.parts) S.T.pages := by
    rw [h.pg]
    exact fun p hp => absurd hp List.not_mem_nil
  refine ⟨fun x hx => ?_, fun x hx => ?_, by rw [h.ow, h.st]; rfl, nr, ?_, h.cs, h.va, ?_⟩
  · rw [h.kv] at hx
    cases hx
  · rw [h.kv] at hx
    cases hx
  · rw [h.pg]
    exact ⟨Nat.le_refl _, Nat.zero_le _⟩
  · rw [h.pg]
    exact List.Perm.refl _
theorem dp_strs {K : PySem.W.Frag} {H : Hp} : ∀ (zs : List Str), DpAll K H (zs.map V.str) (zs.map .str)
  | [] => .nil
  | z :: zs => .cons (.str z) (dp_strs zs)
theorem dp_z {K : PySem.W.Frag} {H : Hp} {l : Addr} {zs : List Str} (h : H l = some (.lst (zs.map V.str))) : Dp K H (.ref l) (strsD zs) := .lst (SqL.of h) (dp_strs zs)
def sp_law_right (PU PF : Addr) (K : PySem.W.Frag) : Sp := s1 fun x H Q => ∃ bx : Addr, x = .ref bx ∧ BoxAt H bx 0 ∧ LamX.Tabs (TL PU PF) H ∧ ∀ H', ChT [bx] H H' → LamX.Tabs (TL PU PF) H' → Q (.bl true) H'
theorem ok__law_right {P : Program} {w : World} {K : PySem.W.Frag} {mg : Str → Option Value} {base : Heap} (T : Tx K mg) {cU PU cF PF : Addr} (U : LamU K mg base cU PU cF PF) : DfG P w K mg base (fAd K ("_law_right", none)) 14 (sp_law_right PU PF K) := by
  obtain ⟨fd, F⟩ := fn_law_right T
  refine dfG1 F sc_law_right (fun _ _ _ _ _ _ us hl => match us, hl with | [_], _ => rfl) fun box H Q h => ?_
  intro cdv A outer s E hG hr
  have hu := hu_of hr
  refine ⟨_, (pss_cons (ps_par3 (i := 3) (j := 4) (l := 5) (by rfl) (sc_law_right).nd rfl rfl rfl (by decide) (by decide) (by decide) rfl rfl rfl (pa_cons (pe_mk (ok_Base_init T) (T.k_Base) (hr.mono (by decide)) rfl (T.g_Base) (pa_cons (pe_tupdK K (pa_cons pe_str (pa_cons pe_str pa_nil))) pa_nil)) (pa_cons (pe_mk (ok_Base_init T) (T.k_Base) (hr.mono (by decide)) rfl (T.g_Base) (pa_cons (pe_tupdK K (pa_cons pe_str (pa_cons pe_str pa_nil))) pa_nil)) (pa_cons pe_dnewK pa_nil))) (by rfl))
    (pss_cons (ps_for PassesOwn.never rfl (pi_range1 (by rfl) (T.b_range) (pa_cons (pe_op op_add pe_int (pe_cf (ok_law_take T) (hr.mono (by decide)) rfl (T.g__law_take) (pa_cons (pv 0) (pa_cons pe_int pa_nil)))) pa_nil)) (pg_name (i := 1) (sc_law_right).nd rfl (.inl rfl))
    (pss_cons (ps_set (i := 5) (sc_law_right).nd rfl (.inl rfl) (pe_cf (ok__law_session T U) (hr.mono (by decide)) rfl (T.g__law_session) (pa_cons (pv 0) (pa_cons (pv 3) (pa_cons (pv 4) (pa_cons (pv 5) (pa_cons (pe_op op_mul pe_int (pv 1)) pa_nil)))))))
    (pss_one (ps_if (PW.pt (pw_or (pt_cmp (pc_isN (pv 5)) rfl) (pw_or1 (PW.pt (pw_and (pt_cmpR op_eq (pe_cf (ok_law_take T) (hr.mono (by decide)) rfl (T.g__law_take) (pa_cons (pv 0) (pa_cons pe_int pa_nil))) pe_int (nomark _)) (pw_and1 (pt_not (pt_val (pe_cf (ok_law_swept T) (hr.mono (by decide)) rfl (T.g__law_swept) (pa_cons (pv 3) pa_nil)))))))))) (pss_one (ps_ret pe_bl)) pss_nil))))
    (pss_cons (ps_set (i := 2) (sc_law_right).nd rfl (.inl rfl) (pe_callB (cr_sortedTK K hr.units) (by rfl) (T.b_sorted) (by decide +kernel) (pa_cons (pe_lock (pe_lc (own := [("_law_row", 6)]) (tt := tYes) rfl (sc_law_right).nd (pi_values (pv 5)) (blkOk_by (N := ["_law_box_here", "_law_turn", "_law_due", "_law_store", "_law_bare", "_law_rows_so", "_law_row"]) (sc := defScope t_law_right) (by decide +kernel)) (fun _ _ _ _ _ => (pg_name (i := 6) (sc_law_right).nd rfl (.inl rfl))) (fun _ _ _ _ _ => pts_nil) (fun _ _ _ _ _ => (pe_callB (cr_reprK K hG hr.units) (by rfl) (T.b_repr) (by decide +kernel) (pa_cons (pv 6) pa_nil))))) pa_nil)))
    (pss_cons (ps_if (PW.pt (pw_or (pt_not (pt_val (pe_cg hG (ok_law_same T) (hr.mono (by decide)) rfl (T.g__law_same) (pa_cons (pe_lst (pa_cons (pe_cg hG (ok_law_read_now T) (hr.mono (by decide)) rfl (T.g__law_read_now) (pa_cons (pv 3) pa_nil)) (pa_cons (pe_cg hG (ok_law_read_now T) (hr.mono (by decide)) rfl (T.g__law_read_now) (pa_cons (pv 4) pa_nil)) pa_nil))) (pa_cons (pe_lst (pa_cons (pv 2) (pa_cons (pv 2) pa_nil))) pa_nil))))) (pw_or1 (pt_not (pt_val (pe_cf (ok_law_swept T) (hr.mono (by decide)) rfl (T.g__law_swept) (pa_cons (pv 3) pa_nil))))))) (pss_one (ps_ret pe_bl)) pss_nil)
    (pss_one (ps_ret (pe_cg hG (ok_law_same T) (hr.mono (by decide)) rfl (T.g__law_same) (pa_cons (pe_cg hG (ok_law_read_now T) (hr.mono (by decide)) rfl (T.g__law_read_now) (pa_cons (pv 3) pa_nil)) (pa_cons (pv 2) pa_nil))))))))), ?_⟩
  obtain ⟨bx, ex, hb, ht, q⟩ := h
  subst ex
  refine ⟨_, Tds.cons (.str _) (.cons (.str _) .nil), Nat.le_of_ble_eq_true rfl, fun v1 H1 s1 hv1 b1 d1 nb1 nd1 ne1 => ⟨_, _, rfl, b1, d1, rfl, upd_same, hv1.same (same_mk nb1 nd1), fun S1 H2 c2 h2 z1 f1 => ⟨rfl, ?_⟩⟩⟩
  have sa : Same H H2 := s1.trans (same_of_chg (same_mk nb1 nd1) c2 fun x hx => by rw [List.mem_singleton.mp hx]; exact nb1)
  have w1 : ∀ x ∈ S1.fp b1, H x = none := fun x hx => (f1 x hx).elim (fun z => z ▸ none_of s1 nb1) fun z => none_of s1 (none_of (same_mk nb1 nd1) z)
  refine ⟨_, Tds.cons (.str _) (.cons (.str _) .nil), Nat.le_of_ble_eq_true rfl, fun v2 H3 s3 hv2 b2 d2 nb2 nd2 ne2 => ⟨_, _, rfl, b2, d2, rfl, upd_same, hv2.same (same_mk nb2 nd2), fun S2 H4 c4 h4 z2 f2 => ⟨rfl, ?_⟩⟩⟩
  have sb : Same H2 H4 := s3.trans (same_of_chg (same_mk nb2 nd2) c4 fun x hx => by rw [List.mem_singleton.mp hx]; exact nb2)
  have w2 : ∀ x ∈ S2.fp b2, H2 x = none := fun x hx => (f2 x hx).elim (fun z => z ▸ none_of s3 nb2) fun z => none_of s3 (none_of (same_mk nb2 nd2) z)
  refine fun a0 na0 => ⟨_, _, _, rfl, ?_⟩
  simp only [L2.start, List.map_cons, List.map_nil, List.length_cons, List.length_nil, List.replicate, List.cons_append, List.nil_append, List.set_cons_succ, List.set_cons_zero, Nat.reduceAdd, Nat.reduceSub]
  have sc : Same H4 (upd H4 a0 (.dK [])) := same_new na0
  have sm : Same H (upd H4 a0 (.dK [])) := (sa.trans sb).trans sc
  have hb5 := hb.keep (sm bx)
  have t0 : Two K (TL PU PF) H (upd H4 a0 (.dK [])) bx b1 b2 0 S1 S2 [(a0, [])] := by
    refine ⟨hb5, (h2.same sb).same sc, h4.same sc, fun x hx hy => h2.there hx (w2 x hy), fun z => hb.nt.not (w1 _ z), fun z => hb.nt.not (none_of sa (w2 _ z)), fun p hp => ?_, (Chg.of sm).t, fun x hx => not_nt (w1 x hx), fun x hx => not_nt (none_of sa (w2 x hx)), tabs_keep ht (Chg.of (fp := []) sm)⟩
    rw [List.mem_singleton.mp hp]
    exact ⟨⟨[], upd_same, rfl, .nil⟩, fun z => (h2.same sb).there z na0, fun z => h4.there z na0, fun z => (hb.keep ((sa.trans sb) bx)).nt.not (z ▸ na0)⟩
  generalize hH5 : upd H4 a0 (.dK []) = H5 at t0 ⊢
  have r1 := rest0 z1
  have r2 := rest0 z2
  refine ⟨_, rfl, _, _, rfl, bx, 0, 10, rfl, rfl, by decide, by decide, t0.bo, by omega, fun rt H6 hrt c6 hb6 => ⟨_, _, rfl, rfl, _, rfl, by omega, by omega, ?_⟩⟩
  have t6 := t0.box c6 hb6
  refine for_range (fun k σ' H' => ∃ ut a n S1 S2 w1 w2 M, σ' = [some (.ref bx), ut, none, some (.ref b1), some (.ref b2), some (.ref a), none] ∧ Two K (TL PU PF) H H' bx b1 b2 n S1 S2 [(a, M)] ∧ Rest S1 w1 M ∧ Rest S2 w2 M ∧ S1.L.act = [] ∧ S2.L.act = [] ∧ w1 ≤ 12 * k ∧ w2 ≤ 12 * k ∧ n ≤ 1 + 201 * k ∧ S1.L.owners.length ≤ 4 * k ∧ S2.L.owners.length ≤ 4 * k ∧ RecOk M (100 * (k : Int)) ∧ M.length ≤ 12 * k)
    ⟨_, a0, 1, S1, S2, 0, 0, [], rfl, t6, r1, r2, z1.ac, z2.ac, by omega, by omega, by omega, by rw [z1.ow]; exact Nat.zero_le _, by rw [z2.ow]; exact Nat.zero_le _, ⟨List.nodup_nil, nofun, by omega, nofun, nofun, Nat.zero_le _⟩, Nat.zero_le _⟩ ?_ ?_
  · rintro k σ' H7 hk ⟨ut, a, n, S1, S2, w1, w2, M, rfl, t7, r1, r2, ac1, ac2, l1, l2, l3, l4, l5, m7, l6⟩
    have hk9 : k ≤ 9 := by omega
    have ei : ((0 : Int) + (k : Nat)) = ((k : Nat) : Int) := by omega
    rw [ei]
    refine ⟨_, rfl, _, rfl, _, rfl, _, rfl, _, rfl, 100, (k : Int), rfl, rfl, .inl ⟨by decide, by decide⟩, _, _, _, _, _, rfl, H, bx, b1, b2, a, n, S1, S2, w1, w2, M, _, rfl, rfl, rfl, rfl, rfl, t7, r1, r2, ac1, ac2, by omega, by omega, by omega, by omega, by omega, m7, by omega, fun a' n' S1' S2' w1' w2' M' H8 t8 R1 R2 A1 A2 i1 i2 i3 i4 i5 m8 i6 => ?_⟩
    simp only [L2.start, List.map_cons, List.map_nil, List.length_cons, List.length_nil, List.replicate, List.cons_append, List.nil_append, List.set_cons_succ, List.set_cons_zero, Nat.reduceAdd, Nat.reduceSub]
    refine ⟨_, rfl, _, rfl, ite2 (fun h => absurd h (by simp)) fun _ => ?_⟩
    refine ⟨_, rfl, _, _, rfl, bx, n', 3, rfl, rfl, by decide, by decide, t8.bo, by omega, fun r H9 hr3 c9 hb9 => ⟨rfl, _, rfl, ?_⟩⟩
    have t9 := t8.box c9 hb9
    refine ite2 (fun hz => ?_) (fun hz => ?_)
    · refine ⟨_, rfl, _, rfl, b1, S1', w1', M', rfl, t9.s1, R1, by omega, fun ps H10 c10 h10 R10 => ⟨_, rfl, ite2 (fun h => absurd h (by decide)) fun _ => ?_⟩⟩
      have t10 := t9.one c10 h10 fun x hx => .inl hx
      exact ⟨_, a', n' + 1, S1'.wT ps, S2', w1', w2', M', rfl, t10, R10, R2, A1, A2, by omega, by omega, by omega, (show S1'.L.owners.length ≤ _ by omega), by omega, m8.le (by omega), by omega⟩
    · exact ⟨_, a', n' + 1, S1', S2', w1', w2', M', rfl, t9, R1, R2, A1, A2, by omega, by omega, by omega, by omega, by omega, m8.le (by omega), by omega⟩
  · rintro σ' H7 ⟨ut, a, n, S1, S2, w1, w2, M, rfl, t7, r1, r2, ac1, ac2, l1, l2, l3, l4, l5, m7, l6⟩
    have hT : (1 + (rt : Int)).toNat ≤ 10 := by omega
    have hF : ∀ r ∈ M, FineR r := fun r hr => ⟨m7.ge r hr, Int.lt_trans (m7.lt r hr) (by omega), m7.ok r hr⟩
    have lM : M.length ≤ 400 := m7.ln
    obtain ⟨da, na1, na2, nab⟩ := t7.dd (a, M) List.mem_cons_self
    obtain ⟨kvs, hk, hks, hkd⟩ := da.at_
    have kl : kvs.length = M.length := by
      have := congrArg List.length hks
      simpa using this
    refine ⟨a, _, hk, True.intro, fun od => ?_⟩
    refine ⟨_, rfl, a, od, _, rfl, upd_same, fun D hD => ?_⟩
    have Da : D ≠ a := fun z => by rw [z, upd_same] at hD; cases hD
    refine lc_any (n := kvs.length) (tt := tYes) (fun i H' => CmW (upd H7 a (.frz od (.dK (recK kvs)))) D (((M.take i).map rowT).map V.str) H') (.start hD) (fun i H' hi c => ⟨c.sm _ _ upd_same, by unfold recK; rw [List.length_map]; exact hi⟩) (fun H' c => ⟨c.sm _ _ upd_same, by unfold recK; rw [List.length_map]; exact Nat.le_refl _⟩) ?_ ?_
    · rintro i H8 x H9 hi c ⟨eH, ky, hky⟩
      subst eH
      unfold recK at hky
      rw [List.getElem?_map] at hky
      obtain ⟨p, hp, ep⟩ := Option.map_eq_some_iff.mp hky
      have hv : (kvs.map (·.2))[i]? = some x := by
        rw [List.getElem?_map, hp]
        exact congrArg (fun q : Key × V => some q.2) ep
      have tk : TKeep H7 H9 := fun b xs e => Same.tk c.sm b xs (tk_dk hk b xs e)
      obtain ⟨dd, hd1, hxd⟩ := (hkd.keep tk).get2 hv
      rw [List.getElem?_map] at hd1
      obtain ⟨rw1, hrw, e2⟩ := Option.map_eq_some_iff.mp hd1
      subst e2
      obtain ⟨s1, s2, s3, s4, _⟩ := row_show (hF rw1 (List.mem_of_getElem? hrw))
      obtain ⟨xa, xxs, exx, hq, hrr⟩ := hxd.tup_eq
      have hdp := hxd.dp
      subst exx
      refine ⟨rfl, ?_⟩
      unfold tYes
      refine iteT ⟨_, rfl, xa, _, rfl, hdp, s1, s2, by omega, ?_, _, c.at_, small1000 ?_, ?_⟩
      · rw [sizeLine_eq]
        have : (rowD rw1.1 rw1.2).shown.length ≤ 40 := s4
        omega
      · rw [List.length_map, List.length_map, List.length_take]
        omega
      · rw [List.take_succ, hrw, List.map_append, List.map_append]
        exact c.push hD _
    · rintro H8 c
      rw [kl, List.take_length] at c
      have sU : Same H7 (upd H8 a (.dK (recK kvs))) := fun x o eo => by
        by_cases hx : x = a
        · subst hx
          rw [upd_same, ← hk]
          exact eo
        · rw [upd_ne hx]
          refine c.sm _ _ ?_
          rw [upd_ne hx]
          exact eo
      refine ⟨c.sm _ _ upd_same, D, M.map rowT, rfl, SqL.of (by rw [upd_ne Da]; exact c.at_), fun due ndue => ?_⟩
      simp only [L2.start, List.map_cons, List.map_nil, List.length_cons, List.length_nil, List.replicate, List.cons_append, List.nil_append, List.set_cons_succ, List.set_cons_zero, Nat.reduceAdd, Nat.reduceSub]
      generalize hHu : upd H8 a (.dK (recK kvs)) = Hu at sU ndue ⊢
      have tU := t7.same sU
      have s9 : Same Hu (upd Hu due (.lst (((M.map rowT).mergeSort leS).map V.str))) := same_new ndue
      have t9 := tU.same s9
      have hdue : upd Hu due (.lst (((M.map rowT).mergeSort leS).map V.str)) due = some (.lst (((M.map rowT).mergeSort leS).map V.str)) := upd_same
      have du1 : due ∉ S1.fp b1 := fun z => tU.s1.there z ndue
      have du2 : due ∉ S2.fp b2 := fun z => tU.s2.there z ndue
      generalize hH9 : upd Hu due (.lst (((M.map rowT).mergeSort leS).map V.str)) = H9 at t9 hdue ⊢
      obtain ⟨zs, ezs⟩ : ∃ zs : List Str, zs = (M.map rowT).mergeSort leS := ⟨_, rfl⟩
      rw [← ezs] at hdue
      have zsl : zs.length ≤ 1000 := by
        rw [ezs, (List.mergeSort_perm _ _).length_eq, List.length_map]
        omega
      have zsok : ∀ z ∈ zs, z.length ≤ 40 ∧ ∀ c ∈ z.cps.toList, c < 128 := fun z hz => by
        rw [ezs] at hz
        obtain ⟨r, hr, e⟩ := List.mem_map.mp ((List.mergeSort_perm _ _).mem_iff.mp hz)
        rw [← e]
        obtain ⟨_, _, _, p4, p5⟩ := row_show (hF r hr)
        exact ⟨p4, p5⟩
      refine ⟨_, rfl, _, rfl, b1, S1, w1, M, rfl, t9.s1, r1, by omega, hF, lM, fun q1 S1' H10 nq1 c10 hq1 h10 R1 o1 g1 => ?_⟩
      rw [← ezs] at hq1
      have t10 := t9.one c10 h10 fun x hx => (g1 x hx).imp id not_nt
      have due10 : H10 due = some (.lst (zs.map V.str)) := c10.keep _ _ hdue du1
      have du1' : due ∉ S1'.fp b1 := fun z => (g1 _ z).elim du1 fun y => by
        rw [y] at hdue
        cases hdue
      refine ⟨_, rfl, _, rfl, b2, S2, w2, M, rfl, t10.s2, r2, by omega, hF, lM, fun q2 S2' H11 nq2 c11 hq2 h11 R2 o2 g2 => ?_⟩
      rw [← ezs] at hq2
      have t11 := t10.two c11 h11 fun x hx => (g2 x hx).imp id not_nt
      have due11 : H11 due = some (.lst (zs.map V.str)) := c11.keep _ _ due10 du2
      have q11 : H11 q1 = some (.lst (zs.map V.str)) := c11.keep _ _ hq1 fun z => t9.s2.there z nq1
      refine ⟨Nat.le_of_ble_eq_true rfl, fun p1 np1 => ?_⟩
      have s12 : Same H11 (upd H11 p1 (.lst [.ref q1, .ref q2])) := same_new np1
      have hp1 : upd H11 p1 (.lst [.ref q1, .ref q2]) p1 = some (.lst [.ref q1, .ref q2]) := upd_same
      generalize hH12 : upd H11 p1 (.lst [.ref q1, .ref q2]) = H12 at s12 hp1 ⊢
      refine ⟨_, rfl, _, rfl, Nat.le_of_ble_eq_true rfl, fun p2 np2 => ?_⟩
      have s13 : Same H12 (upd H12 p2 (.lst [.ref due, .ref due])) := same_new np2
      have hp2 : upd H12 p2 (.lst [.ref due, .ref due]) p2 = some (.lst [.ref due, .ref due]) := upd_same
      generalize hH13 : upd H12 p2 (.lst [.ref due, .ref due]) = H13 at s13 hp2 ⊢
      have s1113 := s12.trans s13
      have t13 := t11.same s1113
      have dA : Dp K H13 (.ref q1) (strsD zs) := dp_z (s1113 _ _ q11)
      have dB : Dp K H13 (.ref q2) (strsD zs) := dp_z (s1113 _ _ hq2)
      have dC : Dp K H13 (.ref due) (strsD zs) := dp_z (s1113 _ _ due11)
      refine ⟨_, _, rfl, p1, p2, .list [strsD zs, strsD zs], rfl, rfl, .lst (SqL.of (s13 _ _ hp1)) (.cons dA (.cons dB .nil)), .lst (SqL.of hp2) (.cons dC (.cons dC .nil)), show_two zsok zsl zsok zsl, ?_⟩
      refine ⟨_, rfl, ite2 (fun h => absurd h (by decide)) fun _ => ?_⟩
      refine ⟨_, rfl, _, rfl, b1, S1', w1, M, rfl, t13.s1, R1, by omega, fun ps H14 c14 h14 R14 => ⟨_, rfl, ite2 (fun h => absurd h (by decide)) fun _ => ?_⟩⟩
      have t14 := t13.one c14 h14 fun x hx => .inl hx
      have due14 : H14 due = some (.lst (zs.map V.str)) := c14.keep _ _ (s1113 _ _ due11) du1'
      refine ⟨_, rfl, _, rfl, b1, S1'.wT ps, w1, M, rfl, t14.s1, R14, (show S1'.L.owners.length < 63 by omega), hF, lM, fun q3 S1'' H15 nq3 c15 hq3 h15 R15 o15 g15 => ?_⟩
      rw [← ezs] at hq3
      have t15 := t14.one c15 h15 fun x hx => (g15 x hx).imp id not_nt
      have due15 : H15 due = some (.lst (zs.map V.str)) := c15.keep _ _ due14 du1'
      exact ⟨_, rfl, _, _, rfl, q3, due, strsD zs, rfl, rfl, dp_z hq3, dp_z due15, show_strs zsok zsl, q H15 t15.fr t15.tb⟩
def sp_law (PU PF : Addr) (K : PySem.W.Frag) : Sp := s1 fun x H Q => ∃ (a : Addr) (ns : List Int), x = .ref a ∧ SqL K H a (ns.map V.int) ∧ LamX.Tabs (TL PU PF) H ∧ ∀ H', Q (.bl true) H'
theorem fnG_law {P : Program} {w : World} {K : PySem.W.Frag} {mg : Str → Option Value} {base : Heap} (T : Tx K mg) {cU PU cF PF : Addr} (U : LamU K mg base cU PU cF PF) {fd : FuncData} (F : FunD K "law" "law" (defArgs t_law) (defBody t_law) (defScope t_law) [] [] (fAd K ("law", none)) fd) : FnG P w K mg base 16 (fAd K ("law", none)) fd ["_law_script"] (sp_law PU PF K) := by
  refine fnG1 F sc_law fun script H Q h => ?_
  intro cdv A outer s E hG hr
  have hu := hu_of hr
  refine ⟨_, (pss_cons (ps_set (i := 1) (sc_law).nd rfl (.inr rfl) (pe_cf (ok_law_cells T) (hr.mono (by decide)) rfl (T.g__law_cells) (pa_cons (pv 0) (pa_cons pe_int pa_nil))))
    (pss_one (ps_ret (pe_callB (cr_allK K rfl) (by rfl) (T.b_all) (by decide +kernel) (pa_cons (pe_lc (own := [("_law_k", 2)]) (tt := tYes) rfl (sc_law).nd (pi_range1 (by rfl) (T.b_range) (pa_cons (pe_callB (call_len_seqK K) (by rfl) (T.b_len) (by decide +kernel) (pa_cons (pv 1) pa_nil)) pa_nil)) (blkOk_by (N := ["_law_script", "_law_cells_here", "_law_k"]) (sc := defScope t_law) (by decide +kernel)) (fun _ _ _ _ _ => (pg_name (i := 2) (sc_law).nd rfl (.inl rfl))) (fun _ _ _ _ _ => pts_nil) (fun _ _ _ _ _ => (pe_cg hG (ok__law_right T U) (hr.mono (by decide)) rfl (T.g__law_right) (pa_cons (pe_cf (ok_law_box T) (hr.mono (by decide)) rfl (T.g__law_box) (pa_cons (pv 1) (pa_cons (pv 2) pa_nil))) pa_nil)))) pa_nil))))), ?_⟩
  obtain ⟨a, ns, ex, ha, ht, q⟩ := h
  subst ex
  refine ⟨_, rfl, _, _, rfl, a, ns, rfl, rfl, ha, fun r fs H1 sm nr hr l1 l3 => ?_⟩
  simp only [L2.start, List.map_cons, List.map_nil, List.length_cons, List.length_nil, List.replicate, List.cons_append, List.nil_append, List.set_cons_succ, List.set_cons_zero, Nat.reduceAdd, Nat.reduceSub]
  have t1 := tabs_keep ht (Chg.of (fp := []) sm)
  refine ⟨_, rfl, r, _, rfl, .inl (SqL.of hr), ((fs.map V.int).length : Int), rfl, by rw [List.length_map]; omega, by rw [List.length_map]; omega, fun D hD => ?_⟩
  have Dr : r ≠ D := fun z => by
    rw [← z, hr] at hD
    cases hD
  refine lc_range (fun i H' => H' D = some (.lst ((List.replicate i true).map V.bl)) ∧ H' r = some (.lst (fs.map V.int)) ∧ LamX.Tabs (TL PU PF) H') ⟨upd_same, by rw [upd_ne Dr]; exact hr, tabs_keep t1 (Chg.of (fp := []) (same_new hD))⟩ ?_ ?_
  · rintro i H2 hi ⟨hD2, hr2, t2⟩
    have hi' : i < fs.length := by
      rw [List.length_map] at hi
      omega
    refine ⟨rfl, ?_⟩
    unfold tYes
    refine iteT ⟨_, rfl, _, rfl, _, _, rfl, r, fs, i, rfl, congrArg V.int (Int.zero_add _), hr2, hi', by omega, fun b H3 s3 nb hb3 => ⟨_, rfl, b, rfl, hb3, tabs_keep t2 (Chg.of (fp := []) s3), fun H4 c4 t4 => ?_⟩⟩
    have Db : D ∉ [b] := fun z => by
      rw [← List.mem_singleton.mp z, hD2] at nb
      cases nb
    have rb : r ∉ [b] := fun z => by
      rw [← List.mem_singleton.mp z, hr2] at nb
      cases nb
    have hD4 := c4.keep _ _ (s3 _ _ hD2) Db nofun
    have hr4 := c4.keep _ _ (s3 _ _ hr2) rb nofun
    refine ⟨_, hD4, small1000 (by rw [List.length_map, List.length_replicate]; omega), ?_, by rw [upd_ne Dr]; exact hr4, tabs_keep t4 (Chg.upd (fp := [D]) hD4 (by simp))⟩
    rw [upd_same, List.replicate_succ', List.map_append]
    rfl
  · rintro H2 ⟨hD2, hr2, t2⟩
    refine ⟨D, List.replicate _ true, rfl, SqL.of hD2, ?_⟩
    have e : ∀ n, (List.replicate n true).all id = true := fun n => by
      rw [List.all_eq_true]
      intro x hx
      exact (List.mem_replicate.mp hx).2
    rw [e]
    exact q H2
end Rc


set_option Elab.async false
set_option linter.all false
set_option maxRecDepth 100000
set_option maxHeartbeats 4000000
/-! the end of the law for a promise that wants no text under way -/
namespace Rc
open PySem PySem.Spec PyProof.Rows L2 He
abbrev lstO (vs : List Value) : Obj := { cls := .type "list", data := .seq vs.toArray }
abbrev tabO : Obj := { cls := .none, data := .fields #[] }
/-- what is tracked at the call: the tables, and the script where K does not hold it -/
theorem hp_at (K : PySem.W.Frag) (a : Addr) (T : List Addr) (o : Obj) (u : HO) : ∃ H : Hp, (∀ b ∈ T, H b = some (.tbl #[])) ∧ ∀ b, b ∉ T → (b = a ∧ K.lookup a = none ∧ H b = some (.frz o u)) ∨ (¬ (b = a ∧ K.lookup a = none) ∧ H b = none) := by
  refine ⟨fun b => if b ∈ T then some (.tbl #[]) else if b = a ∧ K.lookup a = none then some (.frz o u) else none, fun b hb => if_pos hb, fun b hb => ?_⟩
  show (b = a ∧ K.lookup a = none ∧ (if b ∈ T then some (HO.tbl #[]) else if b = a ∧ K.lookup a = none then some (.frz o u) else none) = _) ∨ (_ ∧ (if b ∈ T then some (HO.tbl #[]) else if b = a ∧ K.lookup a = none then some (.frz o u) else none) = none)
  rw [if_neg hb]
  by_cases z : b = a ∧ K.lookup a = none
  · exact .inl ⟨z.1, z.2, if_pos z⟩
  · exact .inr ⟨z, if_neg z⟩
section
variable {P : Program} {w : World} {K : PySem.W.Frag} {mg mb : Str → Option Value} {k : Nat} {fa a : Addr} {cs : List (Addr × Addr)} {fd : FuncData} {x : Str} {sp : Sp} {s1 : Shared} {vs : List Value} {ns : List Int}
theorem law_callG (kin : K.In s1.heap) (gl : s1.heap.Ns mainGlobals mg) (bl : s1.heap.Ns builtinsNs mb) (bb : ∀ y : Str, y ≠ "__name__" → mb y = bootBuiltins y) (nl : s1.heap.NoLimit) (ge : s1.gens = #[])
    (tE : ∀ p ∈ cs, s1.heap.get? p.2 = some tabO) (tN : ∀ p ∈ cs, K.lookup p.2 = none) (cd : ∀ p ∈ cs, PySem.W.CodeHd s1.heap p.1 p.2)
    (bm : ∃ (m : Addr) (om : Obj), mg "__builtins__" = some (.ref m) ∧ m ≠ builtinsNs ∧ s1.heap.get? m = some om ∧ om.cls = .type "module" ∧ om.dict = some builtinsNs ∧ om.data = .plain)
    (la : s1.heap.get? a = some (lstO vs)) (iv : IntsAre vs ns) (ll : ns.length ≤ sizeLine) (rm : Room k callerA)
    (F : ∀ base : Heap, K.In base → base.Ns mainGlobals mg → (∀ p ∈ cs, LamX.TabB base mg p.1 p.2) → FnG P w K mg base k fa fd [x] sp) (bi : ∀ (s : Shared) (u : Value), BindsTo s fd ⟨[u], []⟩ [(x, u)])
    (hs : ∀ H : Hp, (∀ p ∈ cs, H p.2 = some (.tbl #[])) → SqL K H a (ns.map V.int) → sp [.ref a] H (fun v _ => v = .bl true) E0) :
    codeAny (model P w) callerA (.call (.ref fa) ⟨[.ref a], []⟩) (fun r s2 => r = .ok (.ret (.bool true)) ∧ OldK s1.heap s2.heap ∧ s2.os = s1.os ∧ AllBare s2.gens) s1 := by
  have vi := vals_ints iv
  have vl := iv.length
  obtain ⟨H, hT, hO⟩ := hp_at K a (cs.map (·.2)) (lstO vs) (.lst (ns.map V.int))
  have tT : ∀ p ∈ cs, p.2 ∈ cs.map (·.2) := fun p hp => List.mem_map.mpr ⟨p, hp, rfl⟩
  have eT : ∀ b ∈ cs.map (·.2), s1.heap.get? b = some tabO ∧ K.lookup b = none ∧ ∃ c, PySem.W.CodeHd s1.heap c b := fun b hb => by
    obtain ⟨p, hp, z⟩ := List.mem_map.mp hb
    rw [← z]
    exact ⟨tE p hp, tN p hp, p.1, cd p hp⟩
  -- an object that is neither a list nor empty fields is not tracked
  have un : ∀ {b : Addr} {o : Obj}, s1.heap.get? b = some o → (∀ us m, o.data ≠ .seq us m) → o.data ≠ .fields #[] → H b = none := fun {b o} e n1 n2 => by
    by_cases hb : b ∈ cs.map (·.2)
    · rw [(eT b hb).1] at e
      cases e
      exact absurd rfl n2
    · rcases hO b hb with ⟨z, _, _⟩ | ⟨_, z⟩
      · rw [z, la] at e
        cases e
        exact absurd rfl (n1 _ _)
      · exact z
  have got : ∀ {b : Addr} {o : Obj}, s1.heap.get? b = some o → (∀ us m, o.data ≠ .seq us m) → o.data ≠ .fields #[] → (hidT s1.heap H).get? b = some o := fun e n1 n2 => hidT_get e (un e n1 n2)
  have gns : ∀ {b : Addr} {m : Str → Option Value}, s1.heap.Ns b m → (hidT s1.heap H).Ns b m := fun {b m} h => by
    obtain ⟨o, es, ep, e, d, r⟩ := h
    refine ⟨o, es, ep, got e (fun us m z => ?_) (fun z => ?_), d, r⟩ <;> rw [d] at z <;> cases z
  have kinB : K.In (hidT s1.heap H) := fun b o e => by
    refine hidT_get (kin b o e) ?_
    by_cases hb : b ∈ cs.map (·.2)
    · rw [(eT b hb).2.1] at e
      cases e
    · rcases hO b hb with ⟨z, y, _⟩ | ⟨_, z⟩
      · rw [z, y] at e
        cases e
      · exact z
  have md : L2.Mod K mg (hidT s1.heap H) := ⟨kinB, gns gl, ⟨mb, gns bl, bb⟩, nl.imp fun c h => ⟨gns h.1, h.2⟩⟩
  have tb : ∀ p ∈ cs, LamX.TabB (hidT s1.heap H) mg p.1 p.2 := fun p hp => by
    refine ⟨?_, ?_, fun z => ?_⟩
    · obtain ⟨oc, us, f1, f2, g1, g2, i1, x1, x2, e, r1, r2, r3, r4, r5, r6, r7, r8, r9⟩ := cd p hp
      refine ⟨oc, us, f1, f2, g1, g2, i1, x1, x2, got e (fun us' m z => ?_) (fun z => ?_), r1, r2, r3, r4, r5, r6, r7, r8, r9⟩
      · rw [r2] at z
        cases z
      · rw [r2] at z
        have z2 : us = #[] := by
          injection z
        rw [z2] at r3
        simp at r3
    · obtain ⟨m, om, b1, b2, b3, b4, b5, b6⟩ := bm
      have ng : m ≠ mainGlobals := fun q => by
        obtain ⟨og, es, ep, e, d, _⟩ := gl
        rw [← q, b3] at e
        cases e
        rw [b6] at d
        cases d
      have np : m ≠ p.2 := fun q => by
        have e := tE p hp
        rw [← q, b3] at e
        cases e
        cases b6
      refine ⟨m, om, b1, b2, ng, np, got b3 (fun us m z => ?_) (fun z => ?_), b4, b5, b6⟩ <;> rw [b6] at z <;> cases z
    · obtain ⟨og, es, ep, e, d, _⟩ := gl
      rw [z, tE p hp] at e
      cases e
      cases d
  have sz : (ns.map V.int).length ≤ sizeLine := by rw [List.length_map]; exact ll
  have hk : HOk P w H s1.heap := fun b u z => by
    by_cases hb : b ∈ cs.map (·.2)
    · rw [hT b hb] at z
      cases z
      exact (eT b hb).1
    · rcases hO b hb with ⟨y, _, z2⟩ | ⟨_, z2⟩
      · rw [z2] at z
        cases z
        rw [y]
        exact ⟨la, sz, vs, _, vi, la⟩
      · rw [z2] at z
        cases z
  have aT : a ∉ cs.map (·.2) := fun z => by
    have e := (eT a z).1
    rw [la] at e
    cases e
  have sq : SqL K H a (ns.map V.int) := by
    cases q : K.lookup a with
    | some o =>
      have e := kin a o q
      rw [la] at e
      cases e
      exact .inr ⟨lstO vs, vs.toArray, _, q, rfl, rfl, rfl, by rw [List.size_toArray, vl]; exact ll, vi⟩
    | none =>
      rcases hO a aT with ⟨_, _, z⟩ | ⟨z, _⟩
      · exact .inl (.inr ⟨lstO vs, z⟩)
      · exact absurd ⟨rfl, q⟩ z
  have ev : Env0 P w K mg (hidT s1.heap H) callerA [] s1 H := ⟨rfl, md, fun b o e => of_hidT e, Nat.le_of_eq (hidT_size _ _), trivial, fun b hb => absurd (show b ∈ ([] : List Addr) from hb) List.not_mem_nil, hk, .of_eq ge⟩
  refine codeAny_mono ((F _ kinB (gns gl) tb).go callerA [] s1 H ⟨[.ref a], []⟩ [.ref a] [.ref a] (fun v _ => v = .bl true) E0 rfl rm ev (bi s1 (.ref a)) (.cons rfl .nil) (hs H (fun p hp => hT _ (tT p hp)) sq)) fun r s2 hq => ?_
  match r, hq with
  | .error z, hq => exact False.elim hq
  | .ok .next, hq => exact False.elim hq
  | .ok .brk, hq => exact False.elim hq
  | .ok .cont, hq => exact False.elim hq
  | .ok (.ret u), hq =>
    obtain ⟨v, H2, eo, br, u2, hk2, rv, ez⟩ := hq
    have ez : v = .bl true := ez
    subst ez
    obtain rfl : u = Value.bool true := rv
    have kp : ∀ b o, b ∉ cs.map (·.2) → s1.heap.get? b = some o → s2.heap.get? b = some o := fun b o nb e => by
      rcases hO b nb with ⟨_, _, z⟩ | ⟨_, z⟩
      · have f1 := (hk b _ z).1
        have f2 := (hk2 b _ (u2.frzs b _ _ z)).1
        rw [e] at f1
        cases f1
        exact f2
      · exact u2.keep b o e z (fun y => absurd (show b ∈ ([] : List Addr) from y) List.not_mem_nil) List.not_mem_nil
    have tg : ∀ b ∈ cs.map (·.2), ∃ more : Array Value, s2.heap.get? b = some { cls := .none, data := .fields more } := fun b hb => by
      obtain ⟨more, z⟩ := u2.tbls b #[] (hT b hb)
      exact ⟨_, hk2 b _ z⟩
    refine ⟨rfl, ⟨fun b o e => ?_, fun b o e => ?_⟩, eo, br⟩ <;> by_cases hb : b ∈ cs.map (·.2)
    · obtain ⟨h1, _, c, h2⟩ := eT b hb
      obtain ⟨more, hm⟩ := tg b hb
      rw [h1] at e
      cases e
      exact .inr (.inl ⟨(h2.tab h1).isCodeTable, rfl, #[], more, rfl, by rw [Array.empty_append]; exact hm⟩)
    · exact .inl (kp b o hb e)
    · obtain ⟨more, hm⟩ := tg b hb
      exact ⟨_, hm⟩
    · exact ⟨o, kp b o hb e⟩
end
/-- what is known of the law at the head's heap h -/
def LawG (l : PySem.W.OpenLaw) (w : World) (K : PySem.W.Frag) (k n : Nat) (x : Str) (mg : Str → Option Value) (fa : Addr) (h : Heap) : Prop :=
  ∃ (fd : FuncData) (cs : List (Addr × Addr)) (sp : Sp), (∀ p ∈ cs, h.get? p.2 = some tabO) ∧ (∀ p ∈ cs, K.lookup p.2 = none) ∧ (∀ p ∈ cs, PySem.W.CodeHd h p.1 p.2) ∧ (∀ (s : Shared) (u : Value), BindsTo s fd ⟨[u], []⟩ [(x, u)]) ∧
    (∀ (H : Hp) (a : Addr) (ns : List Int), ns.length ≤ n → (∀ p ∈ cs, H p.2 = some (.tbl #[])) → SqL K H a (ns.map V.int) → sp [.ref a] H (fun v _ => v = .bl true) E0) ∧
    ∀ base : Heap, K.In base → base.Ns mainGlobals mg → (∀ p ∈ cs, LamX.TabB base mg p.1 p.2) → FnG l.prog w K mg base k fa fd [x] sp
theorem walkG {l : PySem.W.OpenLaw} {n k : Nat} {q : Program} {loose : List Str} {XP : (Str → Option Value) → Heap → Prop} {YP : World → Heap → Prop} {d : DefRec} {x : Str} (hn : l.most = some n) (ln : n ≤ sizeLine) (hd : d.params.defaults = []) (rm : Room k callerA)
    (F : ∀ (w : World) (mg : Str → Option Value) (fa : Addr) (h : Heap), YP w h → h.Ns mainGlobals mg → mg d.name = some (.ref fa) → ∃ K : PySem.W.Frag, K.In h ∧ LawG l w K k n x mg fa h) :
    PySem.W.WalkO q loose XP YP l.row.toRowW d [] (fun f us => PySem.call f us) := by
  refine Att.attach_callB hn hd fun w s0 s1 mg mb fa o pm cd doc a us ns G Y _ _ _ em ha hi hl _ hg => ?_
  obtain ⟨K, kin, fd, cs, sp, t1, t2, t3, t4, t5, t6⟩ := F w mg fa _ Y G.T.g em
  exact law_callG kin G.T.g G.T.b G.T.builtins G.T.nolimit hg t1 t2 t3 G.T.bmain ha hi (Nat.le_trans hl ln) rm t6 t4 fun H h1 h2 => t5 H a ns hl h1 h2
end Rc

set_option Elab.async false
set_option linter.all false
set_option maxRecDepth 100000
set_option maxHeartbeats 0
/-! the head: what is looked at behind the top -/
namespace Rc
open PySem PySem.Spec PyProof.Rows L2 He
abbrev ObL : Type := (Bool × List He.FnW) × Bool
def obsL (g : Addr → Option Obj) : ObL := (He.obsD fa fn (He.frT g LA), exB (He.frT g LA) && He.tabsB g tfD (He.frT g LA))
def valL : ObL := ((true, fn.map He.DefD.val), true)
structure SaysL (h : Heap) (K : PySem.W.Frag) : Prop where
  d : He.SaysD fa fn K
  more : exB K = true
  hd : ∀ p ∈ tfD, PySem.W.codeHdIn K (He.cT K p).1 (He.cT K p).2 = true
  out : ∀ p ∈ tfD, K.lookup (He.cT K p).2 = none
  empty : ∀ p ∈ tfD, h.get? (He.cT K p).2 = some tabO
theorem saysL_of {h : Heap} (e : obsL h.get? = valL) : SaysL h (He.frT h.get? LA) := by
  have e1 : He.obsD fa fn (He.frT h.get? LA) = He.valD fn := congrArg (fun z : ObL => z.1) e
  obtain ⟨h1, h2⟩ := ba (show (exB (He.frT h.get? LA) && He.tabsB h.get? tfD (He.frT h.get? LA)) = true from congrArg (fun z : ObL => z.2) e)
  have key : ∀ p ∈ tfD, PySem.W.codeHdIn (He.frT h.get? LA) (He.cT (He.frT h.get? LA) p).1 (He.cT (He.frT h.get? LA) p).2 = true ∧ ∃ o, h.get? (He.cT (He.frT h.get? LA) p).2 = some o ∧ He.emptyTab o = true := fun p hp => by
    obtain ⟨k1, k2⟩ := ba (List.all_eq_true.mp h2 p hp)
    refine ⟨k1, ?_⟩
    cases q : h.get? (He.cT (He.frT h.get? LA) p).2 with
    | some o =>
      rw [q] at k2
      exact ⟨o, rfl, k2⟩
    | none =>
      rw [q] at k2
      cases k2
  refine ⟨e1, h1, fun p hp => (key p hp).1, fun p hp => ?_, fun p hp => ?_⟩ <;> obtain ⟨_, o, q, z⟩ := key p hp
  · exact He.frT_none q z
  · rw [q, He.emptyTab_eq z]
def hookL : PySem.W.Hook where
  α := ObL
  obs := fun s => obsL s.heap.get?
  val := fun _ => valL
  says := fun _ h => ∃ K : PySem.W.Frag, K.In h ∧ SaysL h K
  of := fun _ _ e => ⟨_, He.frT_in, saysL_of e⟩
  keeps := fun _ _ _ ⟨K, hK, c⟩ k => ⟨K, PySem.W.Frag.In.keeps hK k, ⟨c.d, c.more, c.hd, c.out, fun p hp => k _ _ (c.empty p hp)⟩⟩
theorem obsL_eq {g : Addr → Option Obj} {s : Shared} (h : ∀ a, g a = s.heap.get? a) : obsL g = hookL.obs s := by
  have e : g = s.heap.get? := funext h
  rw [e] <;> rfl
def ob (s : PySem.W.SharedT) : ObL := obsL (HandSHeadRun.getT s)
theorem ob_eq (s : PySem.W.SharedT) : ob s = hookL.obs s.abs := obsL_eq (HandSHeadRun.getT_eq s)
theorem EndSays.at {α : Type} {w : World} {os : OsState} {f : PySem.W.SharedT → α} {v : α} {s : PySem.W.SharedT} (h : EndSays w os f v) (e : HandSHeadRun.endF (HandSHeadRun.stepQ (HandSHeadRun.denQ HandSHeadRun.tabQ) RR.prog w) 14000 RR.prog w os = some s) : f s = v := by
  unfold EndSays at h
  rw [e] at h
  exact Option.some.inj h
theorem all_two {α : Type} (n : Nat) {l : List α} {f : α → Bool} (h1 : (l.take n).all f = true) (h2 : (l.drop n).all f = true) : l.all f = true := by
  rw [← List.take_append_drop n l, List.all_append, h1, h2]
  rfl
theorem run (w : World) : HandSHeadRun.RunEq RR qv hookL ob 14000 loose w := fun os => by
  obtain ⟨s, es, _⟩ := Option.map_eq_some_iff.mp (runLook w os)
  have l1 := (runLook w os).at es
  have l2 := (runSeen w os).at es
  have l4 := (runDefs w os).at es
  obtain ⟨l5, l3⟩ := ba ((runFn2 w os).at es)
  have l6 := (runFa1 w os).at es
  obtain ⟨l7, l8⟩ := ba ((runFa2 w os).at es)
  have l9 := (runFn3 w os).at es
  have f1 : (fa.all fun f => f.ok (kOf s)) = true := all_two 180 l6 l7
  have f2 : (fn.all fun d => d.ok (kOf s)) = true := all_two 42 l8 (all_two 42 l5 l9)
  have e1 : He.obsD fa fn (kOf s) = (true, fn.map He.DefD.val) := by
    unfold He.obsD
    rw [f1, f2]
    exact Prod.ext rfl l4
  have eo : ob s = hookL.val w := Prod.ext e1 l3
  show Option.map _ (HandSHeadRun.endF (HandSHeadRun.stepQ (HandSHeadRun.denQ HandSHeadRun.tabQ) RR.prog w) 14000 RR.prog w os) = _
  rw [es]
  show some (_, _, ob s) = _
  rw [eo]
  exact congrArg some (Prod.ext l1 (Prod.ext l2 rfl))
theorem codeAt_eq {K : PySem.W.Frag} {p : Str × Option Str} {x q : Str} {params : Arguments} {body : List Stmt} {scope : Scope} {dvs : List V} {kws : List (Str × V)} {fd : FuncData} (F : FunD K x q params body scope dvs kws (fAd K p) fd) : codeAt K (fAd K p) = some (He.codeOf K p) := by
  obtain ⟨oc, od, dV, kV, doc, pm, an, cdv, ct, osl, rfl, lk, hcd, _, _⟩ := F.ex
  obtain ⟨c, ec⟩ := He.codeIn_ref hcd
  subst ec
  rw [He.codeOf_eq lk rfl]
  unfold codeAt
  rw [lk]
  rfl
theorem rd_of {K : PySem.W.Frag} {x : Str} (h : rdB K x = true) : PySem.W.readsIn K (ga K x) (.type "type") = true ∧ PySem.W.specialIn K (.ref (ga K x)) "__getattribute__" = some (some (.builtin "type.__getattribute__")) ∧ PySem.W.findCls K (.ref (ga K x)) (.type "type") "__init__" = some (.val (.ref (fAd K (x, some "__init__")))) := by
  obtain ⟨h1, h2⟩ := ba h
  obtain ⟨h3, h4⟩ := ba h2
  refine ⟨h1, ?_, ?_⟩
  · split at h3
    · rename_i i e
      rw [e, of_decide_eq_true h3]
    · cases h3
  · split at h4
    · rename_i f e
      rw [e, of_decide_eq_true h4]
    · cases h4
theorem factsL {w : World} {K : PySem.W.Frag} {h : Heap} {mg : Str → Option Value} {f : Addr} (X : K.In h) (G : h.Ns mainGlobals mg) (hf : mg ("law" : Str) = some (.ref f)) (c : SaysL h K) :
    LawG PySem.Challenge.rw_rowchains_k08_whole_undone_as_if_never w K 16 63 "_law_script" mg f h := by
  obtain ⟨e1, e2⟩ := ba c.more
  obtain ⟨e3, e4⟩ := ba e2
  obtain ⟨e5, e6⟩ := ba e4
  obtain ⟨e7, e8⟩ := ba e6
  have T : Tx K mg := ⟨fun i f hi => c.d.fact i hi, fun i d hi => c.d.def_ i hi, ⟨h, X, G⟩, e1, e3, rd_of e5, rd_of e7⟩
  obtain ⟨fd, F⟩ := fn_law T
  obtain ⟨fu, FU⟩ := fn_Base_undo T
  obtain ⟨ff, FF⟩ := fn_Base_finish T
  have ef : f = ga K "law" := by
    have z := hf.symm.trans (T.g_law)
    cases z
    rfl
  subst ef
  refine ⟨fd, tfD.map (He.cT K), sp_law (He.cT K ("Base", some "undo")).2 (He.cT K ("Base", some "finish")).2 K, fun p hp => ?_, fun p hp => ?_, fun p hp => ?_, fun s v => ?_, fun H a ns _ ht hs => ?_, fun base _ _ tb => ?_⟩
  · obtain ⟨q, hq, z⟩ := List.mem_map.mp hp
    rw [← z]
    exact c.empty q hq
  · obtain ⟨q, hq, z⟩ := List.mem_map.mp hp
    rw [← z]
    exact c.out q hq
  · obtain ⟨q, hq, z⟩ := List.mem_map.mp hp
    rw [← z]
    exact PySem.W.codeHd_of_K X (c.hd q hq)
  · have b := FunD.bindsA (ps := ["_law_script"]) F fun _ _ _ _ _ _ us hl => match us, hl with | [_], _ => rfl
    exact b s [v] rfl
  · have h1 : H (He.cT K ("Base", some "undo")).2 = some (.tbl #[]) := ht (He.cT K ("Base", some "undo")) (List.mem_map.mpr ⟨_, List.mem_cons_self, rfl⟩)
    have h2 : H (He.cT K ("Base", some "finish")).2 = some (.tbl #[]) := ht (He.cT K ("Base", some "finish")) (List.mem_map.mpr ⟨_, List.mem_cons_of_mem _ List.mem_cons_self, rfl⟩)
    refine ⟨_, rfl, a, ns, rfl, hs, fun p hp => ?_, fun _ => rfl⟩
    rcases List.mem_cons.mp hp with z | z
    · rw [z]
      exact LamX.TabS.nil h1
    · rw [List.mem_singleton.mp z]
      exact LamX.TabS.nil h2
  · have U : LamU K mg base (He.cT K ("Base", some "undo")).1 (He.cT K ("Base", some "undo")).2 (He.cT K ("Base", some "finish")).1 (He.cT K ("Base", some "finish")).2 := by
      refine ⟨tb (He.cT K ("Base", some "undo")) (List.mem_map.mpr ⟨_, List.mem_cons_self, rfl⟩), tb (He.cT K ("Base", some "finish")) (List.mem_map.mpr ⟨_, List.mem_cons_of_mem _ List.mem_cons_self, rfl⟩), codeAt_eq FU, codeAt_eq FF, fun z => ?_⟩
      rw [z] at e8
      simp at e8
    exact fnG_law T U F
end Rc

set_option Elab.async false
set_option linter.all false
set_option maxRecDepth 100000
set_option maxHeartbeats 0
open PySem PySem.W PySem.Calls PyProof.Rows
theorem PySem.Challenge.cw_rowchains_k08_whole_undone_as_if_never_holds : PySem.Challenge.rw_rowchains_k08_whole_undone_as_if_never.Holds := by
  refine Rc.lawOf fun said => ?_
  refine HandSHeadRun.head_any (r := Rc.RR) (q := Rc.qv) (H := Rc.hookL) (ob := Rc.ob) (M := 14000) (loose := Rc.loose) (d := Rc.lawD) (kwd := []) Rc.ob_eq
    Rc.hdE Rc.hdF Rc.run Rc.hdD Rc.hdP Rc.hdK (by rfl) said Rc.hdO Rc.hdB ?hw ?hc
  case hw => w_witness2
  case hc =>
    refine Rc.walkG (l := PySem.Challenge.rw_rowchains_k08_whole_undone_as_if_never) (n := 63) (k := 16) (x := "_law_script") rfl (by decide) (by kernel_rfl) ⟨rfl, by decide, by decide⟩ ?_
    intro w mg fa h Y G hm
    obtain ⟨K, KX, c⟩ := Y
    have hn : mg ("law" : PySem.Str) = some (.ref fa) := by
      rw [← Rc.hdN]
      exact hm
    exact ⟨K, KX, Rc.factsL KX G hn c⟩
