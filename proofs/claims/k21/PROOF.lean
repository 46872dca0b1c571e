import PyProof.Rows.All
import Wide.All
import OpenK.AllK
import Wide.FinOn
import PySem.Challenge.RW_setbooks_k21_whole_pairs_tried
import HandS.Base
import HandS.Call
import HandS.List
import HandS.Comp
import HandS.Ends
import HandS.Dict
import HandS.Iter
import HandS.Text
import HandS.More
import HandS.Exc
import HandS.Words
import HandS.WordsList
import HandS.WordsDict
import HandS.WordsExc
import HandS.TryOnly
import HandS.TryMany
import HandS.ExcOwn
import HandS.ExcInit
import HandS.ExcIs
import HandS.ExcField
import HandS.Defaults
import HandS.Property
import HandS.IsInst
import HandS.OwnEq
import HandS.TupAny
import HandS.TupMul
import HandS.Star
import HandS.Codes
import HandS.Lambda
import HandS.Nested
import HandS.Zip
import HandS.Walk
import HandS.Flow
import HandS.Head0
import HandS.Head1
import HandS.Head2
import HandS.HeadEnd
import HandS.HeadHook1
import HandS.HeadHook2
import HandS.HeadHook3
import HandS.HeadHook4
import HandS.HeadWalk
import HandS.EndTab
import KE.KWithOwn
import KE.KExcInit
import KE.KExcIs
import HandS.Conv
import KE.GoesEnum
import HandS.SlotsOwn
import Lean
set_option Elab.async false
set_option linter.all false
set_option maxRecDepth 100000
set_option maxHeartbeats 0
namespace K21
open PySem PySem.Spec PyProof.Rows L2 He
abbrev R : PySem.W.OpenRow := PySem.W.OpenLaw.row PySem.Challenge.rw_setbooks_k21_whole_pairs_tried
def top (i : Nat) : Stmt := PySem.Challenge.pw_setbooks_k21_whole_pairs_tried.main.body.getD i (.Pass ⟨0, 0, 0, 0⟩)
abbrev s_BadRound_init : Stmt := inClass (top 8) 0
abbrev s_BadRun_init : Stmt := inClass (top 9) 0
abbrev s_TooGreat_init : Stmt := inClass (top 15) 0
abbrev s_NothingLeft_init : Stmt := inClass (top 16) 0
abbrev s_is_integer : Stmt := top 18
abbrev s_is_whole : Stmt := top 19
abbrev s_is_world : Stmt := top 34
abbrev s_need_world : Stmt := top 35
abbrev s_is_deed : Stmt := top 36
abbrev s_is_entry : Stmt := top 37
abbrev s_are_cuts : Stmt := top 38
abbrev s_is_mode : Stmt := top 39
abbrev s_need_rule : Stmt := top 40
abbrev s_taken_by : Stmt := top 41
abbrev s_is_round : Stmt := top 42
abbrev s_entry_at : Stmt := top 43
abbrev s_stepped : Stmt := top 44
abbrev s_gone_through : Stmt := top 45
abbrev s_Trial_init : Stmt := inClass (top 48) 0
abbrev s_Trial_enter : Stmt := inClass (top 48) 1
abbrev s_Trial_exit : Stmt := inClass (top 48) 2
abbrev s_under : Stmt := top 49
abbrev s_Pair_init : Stmt := inClass (top 50) 0
abbrev s_Pair_world : Stmt := inClass (top 50) 1
abbrev s_Pair_rule : Stmt := inClass (top 50) 2
abbrev s_Pair_stand : Stmt := inClass (top 50) 3
abbrev s_Pair_rounds : Stmt := inClass (top 50) 4
abbrev s_Pair_farthest : Stmt := inClass (top 50) 5
abbrev s_Pair_do : Stmt := inClass (top 50) 6
abbrev s_Pair_call : Stmt := inClass (top 50) 7
abbrev s_Pair_iadd : Stmt := inClass (top 50) 8
abbrev s_Pair_len : Stmt := inClass (top 50) 9
abbrev s_Pair_eq : Stmt := inClass (top 50) 12
abbrev s_Pair_undo : Stmt := inClass (top 50) 13
abbrev s_Pair_redo : Stmt := inClass (top 50) 14
abbrev s_Pair_copy : Stmt := inClass (top 50) 16
abbrev s_Pair_trial : Stmt := inClass (top 50) 17
abbrev s_need_many : Stmt := top 51
abbrev s_law_begin : Stmt := top 53
abbrev s_law_next : Stmt := top 54
abbrev s_law_pick : Stmt := top 55
abbrev s_law_deed : Stmt := top 56
abbrev s_law_mode : Stmt := top 57
abbrev s_law_rule : Stmt := top 58
abbrev s_law_world : Stmt := top 59
abbrev s_law_rounds : Stmt := top 60
abbrev s_law_fault : Stmt := top 61
abbrev s_law_said : Stmt := top 62
abbrev s_law_all : Stmt := top 63
abbrev s_law_started : Stmt := top 64
abbrev s_law_goes_on : Stmt := top 65
abbrev s_law_inside : Stmt := top 66
abbrev s_law_ended : Stmt := top 67
abbrev s_law_within : Stmt := top 68
abbrev s_law_added : Stmt := top 69
abbrev s_law_thousand_right : Stmt := top 70
abbrev s_law : Stmt := top 71
abbrev n_BadRound_init : List Str := ["self", "given"]
abbrev p_BadRound_init : List Str := ["self", "given"]
theorem sc_BadRound_init : FnScope n_BadRound_init p_BadRound_init (defScope s_BadRound_init) := ⟨rfl, rfl, rfl, by decide +kernel, rfl, by decide +kernel, by decide +kernel⟩
abbrev n_BadRun_init : List Str := ["self", "number"]
abbrev p_BadRun_init : List Str := ["self", "number"]
theorem sc_BadRun_init : FnScope n_BadRun_init p_BadRun_init (defScope s_BadRun_init) := ⟨rfl, rfl, rfl, by decide +kernel, rfl, by decide +kernel, by decide +kernel⟩
abbrev n_TooGreat_init : List Str := ["self", "most"]
abbrev p_TooGreat_init : List Str := ["self", "most"]
theorem sc_TooGreat_init : FnScope n_TooGreat_init p_TooGreat_init (defScope s_TooGreat_init) := ⟨rfl, rfl, rfl, by decide +kernel, rfl, by decide +kernel, by decide +kernel⟩
abbrev n_NothingLeft_init : List Str := ["self", "many"]
abbrev p_NothingLeft_init : List Str := ["self", "many"]
theorem sc_NothingLeft_init : FnScope n_NothingLeft_init p_NothingLeft_init (defScope s_NothingLeft_init) := ⟨rfl, rfl, rfl, by decide +kernel, rfl, by decide +kernel, by decide +kernel⟩
abbrev n_is_integer : List Str := ["thing"]
abbrev p_is_integer : List Str := ["thing"]
theorem sc_is_integer : FnScope n_is_integer p_is_integer (defScope s_is_integer) := ⟨rfl, rfl, rfl, by decide +kernel, rfl, by decide +kernel, by decide +kernel⟩
abbrev n_is_whole : List Str := ["thing", "least", "most"]
abbrev p_is_whole : List Str := ["thing", "least", "most"]
theorem sc_is_whole : FnScope n_is_whole p_is_whole (defScope s_is_whole) := ⟨rfl, rfl, rfl, by decide +kernel, rfl, by decide +kernel, by decide +kernel⟩
abbrev n_is_world : List Str := ["thing"]
abbrev p_is_world : List Str := ["thing"]
theorem sc_is_world : FnScope n_is_world p_is_world (defScope s_is_world) := ⟨rfl, rfl, rfl, by decide +kernel, rfl, by decide +kernel, by decide +kernel⟩
abbrev n_need_world : List Str := ["thing"]
abbrev p_need_world : List Str := ["thing"]
theorem sc_need_world : FnScope n_need_world p_need_world (defScope s_need_world) := ⟨rfl, rfl, rfl, by decide +kernel, rfl, by decide +kernel, by decide +kernel⟩
abbrev n_is_deed : List Str := ["thing"]
abbrev p_is_deed : List Str := ["thing"]
theorem sc_is_deed : FnScope n_is_deed p_is_deed (defScope s_is_deed) := ⟨rfl, rfl, rfl, by decide +kernel, rfl, by decide +kernel, by decide +kernel⟩
abbrev n_is_entry : List Str := ["thing", "modes"]
abbrev p_is_entry : List Str := ["thing", "modes"]
theorem sc_is_entry : FnScope n_is_entry p_is_entry (defScope s_is_entry) := ⟨rfl, rfl, rfl, by decide +kernel, rfl, by decide +kernel, by decide +kernel⟩
abbrev n_are_cuts : List Str := ["thing", "cut", "one", "other"]
abbrev p_are_cuts : List Str := ["thing"]
theorem sc_are_cuts : FnScope n_are_cuts p_are_cuts (defScope s_are_cuts) := ⟨rfl, rfl, rfl, by decide +kernel, rfl, by decide +kernel, by decide +kernel⟩
abbrev n_is_mode : List Str := ["thing", "modes", "entry"]
abbrev p_is_mode : List Str := ["thing", "modes"]
theorem sc_is_mode : FnScope n_is_mode p_is_mode (defScope s_is_mode) := ⟨rfl, rfl, rfl, by decide +kernel, rfl, by decide +kernel, by decide +kernel⟩
abbrev n_need_rule : List Str := ["thing", "number", "mode"]
abbrev p_need_rule : List Str := ["thing"]
theorem sc_need_rule : FnScope n_need_rule p_need_rule (defScope s_need_rule) := ⟨rfl, rfl, rfl, by decide +kernel, rfl, by decide +kernel, by decide +kernel⟩
abbrev n_taken_by : List Str := ["deed", "estimate", "part"]
abbrev p_taken_by : List Str := ["deed", "estimate"]
theorem sc_taken_by : FnScope n_taken_by p_taken_by (defScope s_taken_by) := ⟨rfl, rfl, rfl, by decide +kernel, rfl, by decide +kernel, by decide +kernel⟩
abbrev n_is_round : List Str := ["world", "missed", "thing"]
abbrev p_is_round : List Str := ["world", "missed", "thing"]
theorem sc_is_round : FnScope n_is_round p_is_round (defScope s_is_round) := ⟨rfl, rfl, rfl, by decide +kernel, rfl, by decide +kernel, by decide +kernel⟩
abbrev n_entry_at : List Str := ["mode", "estimate", "cut"]
abbrev p_entry_at : List Str := ["mode", "estimate"]
theorem sc_entry_at : FnScope n_entry_at p_entry_at (defScope s_entry_at) := ⟨rfl, rfl, rfl, by decide +kernel, rfl, by decide +kernel, by decide +kernel⟩
abbrev n_stepped : List Str := ["rule", "stand", "drift", "error", "mode", "missed", "difference", "amid", "deed", "later", "gone"]
abbrev p_stepped : List Str := ["rule", "stand", "drift", "error"]
theorem sc_stepped : FnScope n_stepped p_stepped (defScope s_stepped) := ⟨rfl, rfl, rfl, by decide +kernel, rfl, by decide +kernel, by decide +kernel⟩
abbrev n_gone_through : List Str := ["world", "rule", "begin", "rounds", "stand", "found", "number", "one", "amid", "gone"]
abbrev p_gone_through : List Str := ["world", "rule", "begin", "rounds"]
theorem sc_gone_through : FnScope n_gone_through p_gone_through (defScope s_gone_through) := ⟨rfl, rfl, rfl, by decide +kernel, rfl, by decide +kernel, by decide +kernel⟩
abbrev n_Trial_init : List Str := ["self", "pair"]
abbrev p_Trial_init : List Str := ["self", "pair"]
theorem sc_Trial_init : FnScope n_Trial_init p_Trial_init (defScope s_Trial_init) := ⟨rfl, rfl, rfl, by decide +kernel, rfl, by decide +kernel, by decide +kernel⟩
abbrev n_Trial_enter : List Str := ["self"]
abbrev p_Trial_enter : List Str := ["self"]
theorem sc_Trial_enter : FnScope n_Trial_enter p_Trial_enter (defScope s_Trial_enter) := ⟨rfl, rfl, rfl, by decide +kernel, rfl, by decide +kernel, by decide +kernel⟩
abbrev n_Trial_exit : List Str := ["self", "kind", "error", "trace"]
abbrev p_Trial_exit : List Str := ["self", "kind", "error", "trace"]
theorem sc_Trial_exit : FnScope n_Trial_exit p_Trial_exit (defScope s_Trial_exit) := ⟨rfl, rfl, rfl, by decide +kernel, rfl, by decide +kernel, by decide +kernel⟩
abbrev n_under : List Str := ["manager", "deed", "found", "one"]
abbrev p_under : List Str := ["manager", "deed"]
theorem sc_under : FnScope n_under p_under (defScope s_under) := ⟨rfl, rfl, rfl, by decide +kernel, rfl, by decide +kernel, by decide +kernel⟩
abbrev n_Pair_init : List Str := ["self", "world", "rule", "difference"]
abbrev p_Pair_init : List Str := ["self", "world", "rule", "difference"]
theorem sc_Pair_init : FnScope n_Pair_init p_Pair_init (defScope s_Pair_init) := ⟨rfl, rfl, rfl, by decide +kernel, rfl, by decide +kernel, by decide +kernel⟩
abbrev n_Pair_world : List Str := ["self"]
abbrev p_Pair_world : List Str := ["self"]
theorem sc_Pair_world : FnScope n_Pair_world p_Pair_world (defScope s_Pair_world) := ⟨rfl, rfl, rfl, by decide +kernel, rfl, by decide +kernel, by decide +kernel⟩
abbrev n_Pair_rule : List Str := ["self"]
abbrev p_Pair_rule : List Str := ["self"]
theorem sc_Pair_rule : FnScope n_Pair_rule p_Pair_rule (defScope s_Pair_rule) := ⟨rfl, rfl, rfl, by decide +kernel, rfl, by decide +kernel, by decide +kernel⟩
abbrev n_Pair_stand : List Str := ["self"]
abbrev p_Pair_stand : List Str := ["self"]
theorem sc_Pair_stand : FnScope n_Pair_stand p_Pair_stand (defScope s_Pair_stand) := ⟨rfl, rfl, rfl, by decide +kernel, rfl, by decide +kernel, by decide +kernel⟩
abbrev n_Pair_rounds : List Str := ["self"]
abbrev p_Pair_rounds : List Str := ["self"]
theorem sc_Pair_rounds : FnScope n_Pair_rounds p_Pair_rounds (defScope s_Pair_rounds) := ⟨rfl, rfl, rfl, by decide +kernel, rfl, by decide +kernel, by decide +kernel⟩
abbrev n_Pair_farthest : List Str := ["self"]
abbrev p_Pair_farthest : List Str := ["self"]
theorem sc_Pair_farthest : FnScope n_Pair_farthest p_Pair_farthest (defScope s_Pair_farthest) := ⟨rfl, rfl, rfl, by decide +kernel, rfl, by decide +kernel, by decide +kernel⟩
abbrev n_Pair_do : List Str := ["self", "some", "wrong", "found", "stand"]
abbrev p_Pair_do : List Str := ["self", "some"]
theorem sc_Pair_do : FnScope n_Pair_do p_Pair_do (defScope s_Pair_do) := ⟨rfl, rfl, rfl, by decide +kernel, rfl, by decide +kernel, by decide +kernel⟩
abbrev n_Pair_call : List Str := ["self", "drift", "error", "ahead"]
abbrev p_Pair_call : List Str := ["self", "drift", "error"]
theorem sc_Pair_call : FnScope n_Pair_call p_Pair_call (defScope s_Pair_call) := ⟨rfl, rfl, rfl, by decide +kernel, rfl, by decide +kernel, by decide +kernel⟩
abbrev n_Pair_iadd : List Str := ["self", "other"]
abbrev p_Pair_iadd : List Str := ["self", "other"]
theorem sc_Pair_iadd : FnScope n_Pair_iadd p_Pair_iadd (defScope s_Pair_iadd) := ⟨rfl, rfl, rfl, by decide +kernel, rfl, by decide +kernel, by decide +kernel⟩
abbrev n_Pair_len : List Str := ["self"]
abbrev p_Pair_len : List Str := ["self"]
theorem sc_Pair_len : FnScope n_Pair_len p_Pair_len (defScope s_Pair_len) := ⟨rfl, rfl, rfl, by decide +kernel, rfl, by decide +kernel, by decide +kernel⟩
abbrev n_Pair_eq : List Str := ["self", "other"]
abbrev p_Pair_eq : List Str := ["self", "other"]
theorem sc_Pair_eq : FnScope n_Pair_eq p_Pair_eq (defScope s_Pair_eq) := ⟨rfl, rfl, rfl, by decide +kernel, rfl, by decide +kernel, by decide +kernel⟩
abbrev n_Pair_undo : List Str := ["self", "many", "cut"]
abbrev p_Pair_undo : List Str := ["self", "many"]
theorem sc_Pair_undo : FnScope n_Pair_undo p_Pair_undo (defScope s_Pair_undo) := ⟨rfl, rfl, rfl, by decide +kernel, rfl, by decide +kernel, by decide +kernel⟩
abbrev n_Pair_redo : List Str := ["self", "many", "cut"]
abbrev p_Pair_redo : List Str := ["self", "many"]
theorem sc_Pair_redo : FnScope n_Pair_redo p_Pair_redo (defScope s_Pair_redo) := ⟨rfl, rfl, rfl, by decide +kernel, rfl, by decide +kernel, by decide +kernel⟩
abbrev n_Pair_copy : List Str := ["self", "found"]
abbrev p_Pair_copy : List Str := ["self"]
theorem sc_Pair_copy : FnScope n_Pair_copy p_Pair_copy (defScope s_Pair_copy) := ⟨rfl, rfl, rfl, by decide +kernel, rfl, by decide +kernel, by decide +kernel⟩
abbrev n_Pair_trial : List Str := ["self"]
abbrev p_Pair_trial : List Str := ["self"]
theorem sc_Pair_trial : FnScope n_Pair_trial p_Pair_trial (defScope s_Pair_trial) := ⟨rfl, rfl, rfl, by decide +kernel, rfl, by decide +kernel, by decide +kernel⟩
abbrev n_need_many : List Str := ["many", "some"]
abbrev p_need_many : List Str := ["many", "some"]
theorem sc_need_many : FnScope n_need_many p_need_many (defScope s_need_many) := ⟨rfl, rfl, rfl, by decide +kernel, rfl, by decide +kernel, by decide +kernel⟩
abbrev n_law_begin : List Str := ["_law_script"]
abbrev p_law_begin : List Str := ["_law_script"]
theorem sc_law_begin : FnScope n_law_begin p_law_begin (defScope s_law_begin) := ⟨rfl, rfl, rfl, by decide +kernel, rfl, by decide +kernel, by decide +kernel⟩
abbrev n_law_next : List Str := ["_law_draw", "_law_many", "_law_cell", "_law_cells", "_law_number", "_law_k"]
abbrev p_law_next : List Str := ["_law_draw", "_law_many"]
theorem sc_law_next : FnScope n_law_next p_law_next (defScope s_law_next) := ⟨rfl, rfl, rfl, by decide +kernel, rfl, by decide +kernel, by decide +kernel⟩
abbrev n_law_pick : List Str := ["_law_draw", "_law_some"]
abbrev p_law_pick : List Str := ["_law_draw", "_law_some"]
theorem sc_law_pick : FnScope n_law_pick p_law_pick (defScope s_law_pick) := ⟨rfl, rfl, rfl, by decide +kernel, rfl, by decide +kernel, by decide +kernel⟩
abbrev n_law_deed : List Str := ["_law_draw", "_law_wide", "_law_way", "_law_whole"]
abbrev p_law_deed : List Str := ["_law_draw", "_law_wide"]
theorem sc_law_deed : FnScope n_law_deed p_law_deed (defScope s_law_deed) := ⟨rfl, rfl, rfl, by decide +kernel, rfl, by decide +kernel, by decide +kernel⟩
abbrev n_law_mode : List Str := ["_law_draw", "_law_modes", "_law_wide", "_law_cuts", "_law_here", "_law_k", "_law_entries", "_law_miss"]
abbrev p_law_mode : List Str := ["_law_draw", "_law_modes", "_law_wide"]
theorem sc_law_mode : FnScope n_law_mode p_law_mode (defScope s_law_mode) := ⟨rfl, rfl, rfl, by decide +kernel, rfl, by decide +kernel, by decide +kernel⟩
abbrev n_law_rule : List Str := ["_law_draw", "_law_modes", "_law_wide", "_law_many", "_law_k"]
abbrev p_law_rule : List Str := ["_law_draw", "_law_modes", "_law_wide"]
theorem sc_law_rule : FnScope n_law_rule p_law_rule (defScope s_law_rule) := ⟨rfl, rfl, rfl, by decide +kernel, rfl, by decide +kernel, by decide +kernel⟩
abbrev n_law_world : List Str := ["_law_draw", "_law_wide", "_law_low", "_law_errors"]
abbrev p_law_world : List Str := ["_law_draw", "_law_wide"]
theorem sc_law_world : FnScope n_law_world p_law_world (defScope s_law_world) := ⟨rfl, rfl, rfl, by decide +kernel, rfl, by decide +kernel, by decide +kernel⟩
abbrev n_law_rounds : List Str := ["_law_world_here", "_law_missed", "_law_errors", "_law_found", "_law_drift", "_law_error"]
abbrev p_law_rounds : List Str := ["_law_world_here", "_law_missed"]
theorem sc_law_rounds : FnScope n_law_rounds p_law_rounds (defScope s_law_rounds) := ⟨rfl, rfl, rfl, by decide +kernel, rfl, by decide +kernel, by decide +kernel⟩
abbrev n_law_fault : List Str := ["_law_error", "_law_some", "_law_found", "_law_word", "_law_is_so"]
abbrev p_law_fault : List Str := ["_law_error"]
theorem sc_law_fault : FnScope n_law_fault p_law_fault (defScope s_law_fault) := ⟨rfl, rfl, rfl, by decide +kernel, rfl, by decide +kernel, by decide +kernel⟩
abbrev n_law_said : List Str := ["_law_call", "_law_caught", "_law_found", "e"]
abbrev p_law_said : List Str := ["_law_call"]
theorem sc_law_said : FnScope n_law_said p_law_said (defScope s_law_said) := ⟨rfl, rfl, rfl, by decide +kernel, rfl, by decide +kernel, by decide +kernel⟩
abbrev n_law_all : List Str := ["_law_pair", "_law_other", "_law_found"]
abbrev p_law_all : List Str := ["_law_pair"]
theorem sc_law_all : FnScope n_law_all p_law_all (defScope s_law_all) := ⟨rfl, rfl, rfl, by decide +kernel, rfl, by decide +kernel, by decide +kernel⟩
abbrev n_law_started : List Str := ["_law_draw", "_law_world_here", "_law_rule_here", "_law_begin_here", "_law_pair", "_law_k"]
abbrev p_law_started : List Str := ["_law_draw", "_law_world_here", "_law_rule_here", "_law_begin_here"]
theorem sc_law_started : FnScope n_law_started p_law_started (defScope s_law_started) := ⟨rfl, rfl, rfl, by decide +kernel, rfl, by decide +kernel, by decide +kernel⟩
abbrev n_law_goes_on : List Str := ["_law_draw", "_law_pair", "_law_world_here", "_law_one"]
abbrev p_law_goes_on : List Str := ["_law_draw", "_law_pair", "_law_world_here"]
theorem sc_law_goes_on : FnScope n_law_goes_on p_law_goes_on (defScope s_law_goes_on) := ⟨rfl, rfl, rfl, by decide +kernel, rfl, by decide +kernel, by decide +kernel⟩
abbrev n_law_inside : List Str := ["_law_draw", "_law_one", "_law_pair", "_law_world_here", "_law_k"]
abbrev p_law_inside : List Str := ["_law_draw", "_law_one", "_law_pair", "_law_world_here"]
theorem sc_law_inside : FnScope n_law_inside p_law_inside (defScope s_law_inside) := ⟨rfl, rfl, rfl, by decide +kernel, rfl, by decide +kernel, by decide +kernel⟩
abbrev n_law_ended : List Str := ["_law_draw", "_law_pair", "_law_world_here", "_law_kind", "_law_calls"]
abbrev p_law_ended : List Str := ["_law_draw", "_law_pair", "_law_world_here", "_law_kind"]
theorem sc_law_ended : FnScope n_law_ended p_law_ended (defScope s_law_ended) := ⟨rfl, rfl, rfl, by decide +kernel, rfl, by decide +kernel, by decide +kernel⟩
abbrev n_law_within : List Str := ["_law_draw", "_law_one", "_law_world_here", "_law_ahead"]
abbrev p_law_within : List Str := ["_law_draw", "_law_one", "_law_world_here"]
theorem sc_law_within : FnScope n_law_within p_law_within (defScope s_law_within) := ⟨rfl, rfl, rfl, by decide +kernel, rfl, by decide +kernel, by decide +kernel⟩
abbrev n_law_added : List Str := ["_law_pair", "_law_some"]
abbrev p_law_added : List Str := ["_law_pair", "_law_some"]
theorem sc_law_added : FnScope n_law_added p_law_added (defScope s_law_added) := ⟨rfl, rfl, rfl, by decide +kernel, rfl, by decide +kernel, by decide +kernel⟩
abbrev n_law_thousand_right : List Str := ["_law_hold", "_law_pair", "_law_told"]
abbrev p_law_thousand_right : List Str := []
theorem sc_law_thousand_right : FnScope n_law_thousand_right p_law_thousand_right (defScope s_law_thousand_right) := ⟨rfl, rfl, rfl, by decide +kernel, rfl, by decide +kernel, by decide +kernel⟩
abbrev n_law : List Str := ["_law_script", "_law_draw", "_law_turn", "_law_world_here", "_law_rule_here", "_law_begin_here", "_law_pair", "_law_ahead", "_law_made", "_law_other", "_law_now"]
abbrev p_law : List Str := ["_law_script"]
theorem sc_law : FnScope n_law p_law (defScope s_law) := ⟨rfl, rfl, rfl, by decide +kernel, rfl, by decide +kernel, by decide +kernel⟩
/-! ### defs found by a path -/
structure DD where
  at_ : PySem.W.Frag → Addr
  name : Str
  qual : Str
  params : Arguments
  body : List Stmt
  scope : Scope
  dfl : List Dv := []
def ddW (K : PySem.W.Frag) (d : DD) : FnW := match K.lookup (d.at_ K) with
  | some ⟨_, _, .func fd, _⟩ => some (fd.name, fd.qualname, fd.params, fd.body, fd.scope, fd.globals, fd.closure, fd.builtins)
  | _ => none
def DD.val (d : DD) : FnW := some (d.name, d.qual, d.params, .stmts d.body, d.scope, mainGlobals, [], builtinsNs)
def DD.ok (K : PySem.W.Frag) (d : DD) : Bool := PySem.W.keepIn K (.ref (d.at_ K)) && (match K.lookup (d.at_ K) with
  | some ⟨_, _, .func fd, _⟩ => PySem.W.codeIn K fd.code d.qual && dflB K fd.defaults (d.dfl.map (Dv.v K))
  | _ => false)
theorem DD.funD {K : PySem.W.Frag} {d : DD} (e : ddW K d = d.val) (c : d.ok K = true) : ∃ fd, FunD K d.name d.qual d.params d.body d.scope (d.dfl.map (Dv.v K)) [] (d.at_ K) fd := by
  obtain ⟨kp, c2⟩ := ba c
  unfold ddW at e
  cases q : K.lookup (d.at_ K) with
  | none =>
    rw [q] at c2
    cases c2
  | some o =>
    obtain ⟨oc, od, dt, osl⟩ := o
    rw [q] at c2 e
    cases dt with
    | func fd =>
      obtain ⟨n1, n2, n3, n4, n5, n6, n7, n8, n9, n10, n11, n12, n13, n14, n15⟩ := fd
      have e2 : (some (n1, n2, n3, n4, n5, n6, n7, n15) : FnW) = some (d.name, d.qual, d.params, .stmts d.body, d.scope, mainGlobals, [], builtinsNs) := e
      simp only [Option.some.injEq, Prod.mk.injEq] at e2
      obtain ⟨h1, h2, h3, h4, h5, h6, h7, h8⟩ := e2
      subst h1 h2 h3 h4 h5 h6 h7 h8
      have c3 : (PySem.W.codeIn K n13 d.qual && dflB K n8 (d.dfl.map (Dv.v K))) = true := c2
      obtain ⟨k1, k2⟩ := ba c3
      exact ⟨_, ⟨oc, od, n8, n9, n10, n11, n12, n13, n14, osl, rfl, q, k1, dflB_ok k2, .inl rfl⟩, kp⟩
    | _ => cases c2
/-- the getter of the property f of the class at C -/
def prA (K : PySem.W.Frag) (C : Addr) (f : Str) : Addr := match PySem.W.recIn K (ma K C f) "property" with
  | some (.ref g :: _) => g
  | _ => 0
/-! ### the defs -/
def d_BadRound_init : DD := { at_ := fun K => ma K (ga K "BadRound") "__init__", name := "__init__", qual := "BadRound.__init__", params := defArgs s_BadRound_init, body := defBody s_BadRound_init, scope := defScope s_BadRound_init, dfl := [] }
def d_BadRun_init : DD := { at_ := fun K => ma K (ga K "BadRun") "__init__", name := "__init__", qual := "BadRun.__init__", params := defArgs s_BadRun_init, body := defBody s_BadRun_init, scope := defScope s_BadRun_init, dfl := [] }
def d_TooGreat_init : DD := { at_ := fun K => ma K (ga K "TooGreat") "__init__", name := "__init__", qual := "TooGreat.__init__", params := defArgs s_TooGreat_init, body := defBody s_TooGreat_init, scope := defScope s_TooGreat_init, dfl := [] }
def d_NothingLeft_init : DD := { at_ := fun K => ma K (ga K "NothingLeft") "__init__", name := "__init__", qual := "NothingLeft.__init__", params := defArgs s_NothingLeft_init, body := defBody s_NothingLeft_init, scope := defScope s_NothingLeft_init, dfl := [] }
def d_is_integer : DD := { at_ := fun K => ga K "is_integer", name := "is_integer", qual := "is_integer", params := defArgs s_is_integer, body := defBody s_is_integer, scope := defScope s_is_integer, dfl := [] }
def d_is_whole : DD := { at_ := fun K => ga K "is_whole", name := "is_whole", qual := "is_whole", params := defArgs s_is_whole, body := defBody s_is_whole, scope := defScope s_is_whole, dfl := [] }
def d_is_world : DD := { at_ := fun K => ga K "is_world", name := "is_world", qual := "is_world", params := defArgs s_is_world, body := defBody s_is_world, scope := defScope s_is_world, dfl := [] }
def d_need_world : DD := { at_ := fun K => ga K "need_world", name := "need_world", qual := "need_world", params := defArgs s_need_world, body := defBody s_need_world, scope := defScope s_need_world, dfl := [] }
def d_is_deed : DD := { at_ := fun K => ga K "is_deed", name := "is_deed", qual := "is_deed", params := defArgs s_is_deed, body := defBody s_is_deed, scope := defScope s_is_deed, dfl := [] }
def d_is_entry : DD := { at_ := fun K => ga K "is_entry", name := "is_entry", qual := "is_entry", params := defArgs s_is_entry, body := defBody s_is_entry, scope := defScope s_is_entry, dfl := [] }
def d_are_cuts : DD := { at_ := fun K => ga K "are_cuts", name := "are_cuts", qual := "are_cuts", params := defArgs s_are_cuts, body := defBody s_are_cuts, scope := defScope s_are_cuts, dfl := [] }
def d_is_mode : DD := { at_ := fun K => ga K "is_mode", name := "is_mode", qual := "is_mode", params := defArgs s_is_mode, body := defBody s_is_mode, scope := defScope s_is_mode, dfl := [] }
def d_need_rule : DD := { at_ := fun K => ga K "need_rule", name := "need_rule", qual := "need_rule", params := defArgs s_need_rule, body := defBody s_need_rule, scope := defScope s_need_rule, dfl := [] }
def d_taken_by : DD := { at_ := fun K => ga K "taken_by", name := "taken_by", qual := "taken_by", params := defArgs s_taken_by, body := defBody s_taken_by, scope := defScope s_taken_by, dfl := [] }
def d_is_round : DD := { at_ := fun K => ga K "is_round", name := "is_round", qual := "is_round", params := defArgs s_is_round, body := defBody s_is_round, scope := defScope s_is_round, dfl := [] }
def d_entry_at : DD := { at_ := fun K => ga K "entry_at", name := "entry_at", qual := "entry_at", params := defArgs s_entry_at, body := defBody s_entry_at, scope := defScope s_entry_at, dfl := [] }
def d_stepped : DD := { at_ := fun K => ga K "stepped", name := "stepped", qual := "stepped", params := defArgs s_stepped, body := defBody s_stepped, scope := defScope s_stepped, dfl := [] }
def d_gone_through : DD := { at_ := fun K => ga K "gone_through", name := "gone_through", qual := "gone_through", params := defArgs s_gone_through, body := defBody s_gone_through, scope := defScope s_gone_through, dfl := [] }
def d_Trial_init : DD := { at_ := fun K => ma K (ga K "Trial") "__init__", name := "__init__", qual := "Trial.__init__", params := defArgs s_Trial_init, body := defBody s_Trial_init, scope := defScope s_Trial_init, dfl := [] }
def d_Trial_enter : DD := { at_ := fun K => ma K (ga K "Trial") "__enter__", name := "__enter__", qual := "Trial.__enter__", params := defArgs s_Trial_enter, body := defBody s_Trial_enter, scope := defScope s_Trial_enter, dfl := [] }
def d_Trial_exit : DD := { at_ := fun K => ma K (ga K "Trial") "__exit__", name := "__exit__", qual := "Trial.__exit__", params := defArgs s_Trial_exit, body := defBody s_Trial_exit, scope := defScope s_Trial_exit, dfl := [] }
def d_under : DD := { at_ := fun K => ga K "under", name := "under", qual := "under", params := defArgs s_under, body := defBody s_under, scope := defScope s_under, dfl := [] }
def d_Pair_init : DD := { at_ := fun K => ma K (ga K "Pair") "__init__", name := "__init__", qual := "Pair.__init__", params := defArgs s_Pair_init, body := defBody s_Pair_init, scope := defScope s_Pair_init, dfl := [] }
def d_Pair_world : DD := { at_ := fun K => prA K (ga K "Pair") "world", name := "world", qual := "Pair.world", params := defArgs s_Pair_world, body := defBody s_Pair_world, scope := defScope s_Pair_world, dfl := [] }
def d_Pair_rule : DD := { at_ := fun K => prA K (ga K "Pair") "rule", name := "rule", qual := "Pair.rule", params := defArgs s_Pair_rule, body := defBody s_Pair_rule, scope := defScope s_Pair_rule, dfl := [] }
def d_Pair_stand : DD := { at_ := fun K => prA K (ga K "Pair") "stand", name := "stand", qual := "Pair.stand", params := defArgs s_Pair_stand, body := defBody s_Pair_stand, scope := defScope s_Pair_stand, dfl := [] }
def d_Pair_rounds : DD := { at_ := fun K => prA K (ga K "Pair") "rounds", name := "rounds", qual := "Pair.rounds", params := defArgs s_Pair_rounds, body := defBody s_Pair_rounds, scope := defScope s_Pair_rounds, dfl := [] }
def d_Pair_farthest : DD := { at_ := fun K => prA K (ga K "Pair") "farthest", name := "farthest", qual := "Pair.farthest", params := defArgs s_Pair_farthest, body := defBody s_Pair_farthest, scope := defScope s_Pair_farthest, dfl := [] }
def d_Pair_do : DD := { at_ := fun K => ma K (ga K "Pair") "do", name := "do", qual := "Pair.do", params := defArgs s_Pair_do, body := defBody s_Pair_do, scope := defScope s_Pair_do, dfl := [] }
def d_Pair_call : DD := { at_ := fun K => ma K (ga K "Pair") "__call__", name := "__call__", qual := "Pair.__call__", params := defArgs s_Pair_call, body := defBody s_Pair_call, scope := defScope s_Pair_call, dfl := [.non] }
def d_Pair_iadd : DD := { at_ := fun K => ma K (ga K "Pair") "__iadd__", name := "__iadd__", qual := "Pair.__iadd__", params := defArgs s_Pair_iadd, body := defBody s_Pair_iadd, scope := defScope s_Pair_iadd, dfl := [] }
def d_Pair_len : DD := { at_ := fun K => ma K (ga K "Pair") "__len__", name := "__len__", qual := "Pair.__len__", params := defArgs s_Pair_len, body := defBody s_Pair_len, scope := defScope s_Pair_len, dfl := [] }
def d_Pair_eq : DD := { at_ := fun K => ma K (ga K "Pair") "__eq__", name := "__eq__", qual := "Pair.__eq__", params := defArgs s_Pair_eq, body := defBody s_Pair_eq, scope := defScope s_Pair_eq, dfl := [] }
def d_Pair_undo : DD := { at_ := fun K => ma K (ga K "Pair") "undo", name := "undo", qual := "Pair.undo", params := defArgs s_Pair_undo, body := defBody s_Pair_undo, scope := defScope s_Pair_undo, dfl := [.int 1] }
def d_Pair_redo : DD := { at_ := fun K => ma K (ga K "Pair") "redo", name := "redo", qual := "Pair.redo", params := defArgs s_Pair_redo, body := defBody s_Pair_redo, scope := defScope s_Pair_redo, dfl := [.int 1] }
def d_Pair_copy : DD := { at_ := fun K => ma K (ga K "Pair") "copy", name := "copy", qual := "Pair.copy", params := defArgs s_Pair_copy, body := defBody s_Pair_copy, scope := defScope s_Pair_copy, dfl := [] }
def d_Pair_trial : DD := { at_ := fun K => ma K (ga K "Pair") "trial", name := "trial", qual := "Pair.trial", params := defArgs s_Pair_trial, body := defBody s_Pair_trial, scope := defScope s_Pair_trial, dfl := [] }
def d_need_many : DD := { at_ := fun K => ga K "need_many", name := "need_many", qual := "need_many", params := defArgs s_need_many, body := defBody s_need_many, scope := defScope s_need_many, dfl := [] }
def d_law_begin : DD := { at_ := fun K => ga K "_law_begin", name := "_law_begin", qual := "_law_begin", params := defArgs s_law_begin, body := defBody s_law_begin, scope := defScope s_law_begin, dfl := [] }
def d_law_next : DD := { at_ := fun K => ga K "_law_next", name := "_law_next", qual := "_law_next", params := defArgs s_law_next, body := defBody s_law_next, scope := defScope s_law_next, dfl := [] }
def d_law_pick : DD := { at_ := fun K => ga K "_law_pick", name := "_law_pick", qual := "_law_pick", params := defArgs s_law_pick, body := defBody s_law_pick, scope := defScope s_law_pick, dfl := [] }
def d_law_deed : DD := { at_ := fun K => ga K "_law_deed", name := "_law_deed", qual := "_law_deed", params := defArgs s_law_deed, body := defBody s_law_deed, scope := defScope s_law_deed, dfl := [] }
def d_law_mode : DD := { at_ := fun K => ga K "_law_mode", name := "_law_mode", qual := "_law_mode", params := defArgs s_law_mode, body := defBody s_law_mode, scope := defScope s_law_mode, dfl := [] }
def d_law_rule : DD := { at_ := fun K => ga K "_law_rule", name := "_law_rule", qual := "_law_rule", params := defArgs s_law_rule, body := defBody s_law_rule, scope := defScope s_law_rule, dfl := [] }
def d_law_world : DD := { at_ := fun K => ga K "_law_world", name := "_law_world", qual := "_law_world", params := defArgs s_law_world, body := defBody s_law_world, scope := defScope s_law_world, dfl := [] }
def d_law_rounds : DD := { at_ := fun K => ga K "_law_rounds", name := "_law_rounds", qual := "_law_rounds", params := defArgs s_law_rounds, body := defBody s_law_rounds, scope := defScope s_law_rounds, dfl := [] }
def d_law_fault : DD := { at_ := fun K => ga K "_law_fault", name := "_law_fault", qual := "_law_fault", params := defArgs s_law_fault, body := defBody s_law_fault, scope := defScope s_law_fault, dfl := [] }
def d_law_said : DD := { at_ := fun K => ga K "_law_said", name := "_law_said", qual := "_law_said", params := defArgs s_law_said, body := defBody s_law_said, scope := defScope s_law_said, dfl := [] }
def d_law_all : DD := { at_ := fun K => ga K "_law_all", name := "_law_all", qual := "_law_all", params := defArgs s_law_all, body := defBody s_law_all, scope := defScope s_law_all, dfl := [] }
def d_law_started : DD := { at_ := fun K => ga K "_law_started", name := "_law_started", qual := "_law_started", params := defArgs s_law_started, body := defBody s_law_started, scope := defScope s_law_started, dfl := [] }
def d_law_goes_on : DD := { at_ := fun K => ga K "_law_goes_on", name := "_law_goes_on", qual := "_law_goes_on", params := defArgs s_law_goes_on, body := defBody s_law_goes_on, scope := defScope s_law_goes_on, dfl := [] }
def d_law_inside : DD := { at_ := fun K => ga K "_law_inside", name := "_law_inside", qual := "_law_inside", params := defArgs s_law_inside, body := defBody s_law_inside, scope := defScope s_law_inside, dfl := [] }
def d_law_ended : DD := { at_ := fun K => ga K "_law_ended", name := "_law_ended", qual := "_law_ended", params := defArgs s_law_ended, body := defBody s_law_ended, scope := defScope s_law_ended, dfl := [] }
def d_law_within : DD := { at_ := fun K => ga K "_law_within", name := "_law_within", qual := "_law_within", params := defArgs s_law_within, body := defBody s_law_within, scope := defScope s_law_within, dfl := [] }
def d_law_added : DD := { at_ := fun K => ga K "_law_added", name := "_law_added", qual := "_law_added", params := defArgs s_law_added, body := defBody s_law_added, scope := defScope s_law_added, dfl := [] }
def d_law_thousand_right : DD := { at_ := fun K => ga K "_law_thousand_right", name := "_law_thousand_right", qual := "_law_thousand_right", params := defArgs s_law_thousand_right, body := defBody s_law_thousand_right, scope := defScope s_law_thousand_right, dfl := [] }
def d_law : DD := { at_ := fun K => ga K "law", name := "law", qual := "law", params := defArgs s_law, body := defBody s_law, scope := defScope s_law, dfl := [] }
def dds1 : List DD := [d_BadRound_init, d_BadRun_init, d_TooGreat_init, d_NothingLeft_init, d_is_integer, d_is_whole, d_is_world, d_need_world, d_is_deed, d_is_entry, d_are_cuts, d_is_mode, d_need_rule, d_taken_by, d_is_round, d_entry_at, d_stepped, d_gone_through, d_Trial_init, d_Trial_enter, d_Trial_exit, d_under, d_Pair_init, d_Pair_world, d_Pair_rule, d_Pair_stand, d_Pair_rounds, d_Pair_farthest]
def dds2 : List DD := [d_Pair_do, d_Pair_call, d_Pair_iadd, d_Pair_len, d_Pair_eq, d_Pair_undo, d_Pair_redo, d_Pair_copy, d_Pair_trial, d_need_many, d_law_begin, d_law_next, d_law_pick, d_law_deed, d_law_mode, d_law_rule, d_law_world, d_law_rounds, d_law_fault, d_law_said, d_law_all, d_law_started, d_law_goes_on, d_law_inside, d_law_ended, d_law_within, d_law_added, d_law_thousand_right, d_law]
def dds : List DD := dds1 ++ dds2
def fa1 : List Fa := [.glo "SetError", .glo "BadWorld", .glo "BadRule", .glo "BadStart", .glo "BadBound", .glo "BadStand", .glo "BadRound", .glo "BadRun", .glo "BadRanges", .glo "BadPaper", .glo "BadRow", .glo "BadText", .glo "BadNumber", .glo "TooGreat", .glo "NothingLeft", .glo "is_integer", .glo "is_whole", .glo "is_world", .glo "need_world", .glo "is_deed", .glo "is_entry", .glo "are_cuts", .glo "is_mode", .glo "need_rule", .glo "taken_by", .glo "is_round", .glo "entry_at", .glo "stepped", .glo "gone_through", .glo "Trial", .glo "under", .glo "Pair", .glo "need_many", .glo "_law_begin", .glo "_law_next", .glo "_law_pick", .glo "_law_deed", .glo "_law_mode", .glo "_law_rule", .glo "_law_world"]
def fa2 : List Fa := [.glo "_law_rounds", .glo "_law_fault", .glo "_law_said", .glo "_law_all", .glo "_law_started", .glo "_law_goes_on", .glo "_law_inside", .glo "_law_ended", .glo "_law_within", .glo "_law_added", .glo "_law_thousand_right", .glo "law"]
def fa3 : List Fa := [.free "isinstance", .free "int", .free "bool", .free "len", .free "tuple", .free "str", .free "all", .free "zip", .free "enumerate", .free "max", .free "min", .free "abs", .free "list", .free "range", .free "OverflowError", .free "RuntimeError", .free "ValueError", .int "MOST_DRIFT" 60, .int "MOST_ERROR" 60, .int "MOST_LOSSES" 3, .int "MOST_RUN" 60, .int "MOST_PARTS" 60, .int "MOST_MODES" 3, .int "MOST_CUTS" 4, .int "MOST_CUT" 300, .int "MOST_BEGIN" 500, .str "HOLD" "hold", .str "SHIFT" "shift", .str "RUN" "run", .str "JUMP" "jump", .int "MOST_DONE" 1000]
def fa4 : List Fa := [.cls "Trial", .cls "Pair", .mkr "Trial", .mkr "Pair", .noat "Trial" "pair_so", .noat "Trial" "now_ahead", .noat "Trial" "past_ahead", .noat "Trial" "coming_ahead", .noat "Pair" "own_world", .noat "Pair" "own_rule", .noat "Pair" "begin", .noat "Pair" "now", .noat "Pair" "past", .noat "Pair" "coming", .meth "Trial" "__enter__", .meth "Trial" "__exit__", .meth "Pair" "do", .meth "Pair" "undo", .meth "Pair" "redo", .meth "Pair" "copy", .meth "Pair" "trial", .meth "Pair" "__call__", .meth "Pair" "__iadd__", .meth "Pair" "__len__", .meth "Pair" "__eq__"]
def fas : List Fa := fa1 ++ (fa2 ++ (fa3 ++ fa4))
/-! ### further facts, as Bools -/
def veB : List Value := [.type "ValueError", .type "Exception", .type "BaseException", .type "object"]
def ovB : List Value := [.type "OverflowError", .type "ArithmeticError", .type "Exception", .type "BaseException", .type "object"]
def rtB : List Value := [.type "RuntimeError", .type "Exception", .type "BaseException", .type "object"]
def propB (K : PySem.W.Frag) (f : Str) : Bool :=
  eqO (PySem.W.findIn K (.ref (ga K "Pair")) f) (some (some (.ref (ma K (ga K "Pair") f)))) && (eqO (PySem.W.specialIn K (.ref (ma K (ga K "Pair") f)) "__get__") (some (some (.builtin "property.__get__"))) &&
  (decide (PySem.W.takesIn K (.ref (ma K (ga K "Pair") f)) = some true) && (match PySem.W.recIn K (ma K (ga K "Pair") f) "property" with
    | some (.ref g :: _) => decide (g = prA K (ga K "Pair") f)
    | _ => false)))
theorem propB_ok {K : PySem.W.Frag} {f : Str} (h : propB K f = true) : PropOf K (ga K "Pair") f (ma K (ga K "Pair") f) (prA K (ga K "Pair") f) := by
  obtain ⟨h1, h⟩ := ba h
  obtain ⟨h2, h⟩ := ba h
  obtain ⟨h3, h4⟩ := ba h
  have e1 := eqO_ok h1
  have e2 := eqO_ok h2
  have e3 : PySem.W.takesIn K (.ref (ma K (ga K "Pair") f)) = some true := of_decide_eq_true h3
  refine { at_ := e1, get := e2, tak := e3, rec_ := ?_ }
  split at h4
  · rename_i g rest e
    exact ⟨rest, by rw [e, of_decide_eq_true h4]⟩
  · cases h4
/-- what isinstance asks of the class of an instance -/
def tyB (K : PySem.W.Frag) (x : Str) : Bool :=
  eqO (PySem.W.findIn K (.ref (ga K x)) "__class__") (some (some (.builtin "object.__class__"))) && (eqO (PySem.W.specialIn K (.builtin "object.__class__") "__get__") (some (some (.builtin "getset_descriptor.__get__"))) &&
  (decide (PySem.W.takesIn K (.builtin "object.__class__") = some true) && decide (PySem.W.mroIn K (ga K x) (.type "object") = some true)))
/-- one own exception class: its name, the field that its __init__ stores, its built-in base's chain and maker -/
structure EC where
  nm : Str
  fld : Str
  bm : List Value
  new : String
def ecs : List EC := [⟨"BadRound", "given", veB, "ValueError.__new__"⟩, ⟨"BadRun", "number", veB, "ValueError.__new__"⟩, ⟨"TooGreat", "most", ovB, "OverflowError.__new__"⟩, ⟨"NothingLeft", "many", rtB, "RuntimeError.__new__"⟩]
def enames : List Str := ["BadWorld", "BadRule", "BadStart", "BadBound", "BadStand", "BadRound", "BadRun", "BadRanges", "BadPaper", "BadRow", "BadText", "BadNumber", "TooGreat", "NothingLeft"]
def ecB (K : PySem.W.Frag) (e : EC) : Bool :=
  PySem.W.excInitIn K (ga K e.nm) e.bm e.new && (PySem.W.excOver K (ga K e.nm) e.bm && (PySem.W.keepIn K (.ref (ga K e.nm)) && (decide (PySem.W.subIn K (.ref (ga K e.nm)) (.type "BaseException") = some true) &&
  (decide (PySem.W.typeIn K (.ref (ga K e.nm)) = some (.type "type")) && (PySem.W.hasDictIn K (ga K e.nm) && (eqO (PySem.W.findIn K (.ref (ga K e.nm)) "__setattr__") (some (some (.builtin "object.__setattr__"))) &&
  (eqO (PySem.W.findIn K (.ref (ga K e.nm)) "__getattribute__") (some (some (.builtin "BaseException.__getattribute__"))) && (eqO (PySem.W.findIn K (.ref (ga K e.nm)) "__getattr__") (some none) &&
  (eqO (PySem.W.findIn K (.ref (ga K e.nm)) e.fld) (some none) && (decide (PySem.W.takerIn K (ga K e.nm) e.fld = some none) && (eqO (PySem.W.findIn K (.ref (ga K e.nm)) "__init__") (some (some (.ref (ma K (ga K e.nm) "__init__")))) &&
  (PySem.W.isFn K (.ref (ma K (ga K e.nm) "__init__")) && (tyB K e.nm && enames.all fun y => decide (PySem.W.kitOne K (.ref (ga K e.nm)) (.ref (ga K y)) = some (decide (e.nm = y))) && decide (PySem.W.exmOne K (.ref (ga K e.nm)) (.ref (ga K y)) = some (decide (e.nm = y)))
  )))))))))))))
def clsInitB (K : PySem.W.Frag) (c : Value) (b : String) : Bool := match PySem.W.findCls K c (.type "type") "__init__" with
  | some (.val (.builtin x)) => decide (x = b)
  | _ => false
def moreB (K : PySem.W.Frag) : Bool := tyB K "Pair" && (PySem.W.fnIn K (ma K (ga K "Pair") "__call__") && ((PySem.W.readsIn K (ga K "SetError") (.type "type") && eqO (PySem.W.specialIn K (.ref (ga K "SetError")) "__getattribute__") (some (some (.builtin "type.__getattribute__")))) && (clsInitB K (.ref (ga K "SetError")) "ValueError.__init__" && (clsInitB K (.type "OverflowError") "OverflowError.__init__" && clsInitB K (.type "RuntimeError") "RuntimeError.__init__"))))
def exB (K : PySem.W.Frag) : Bool := (["world", "rule", "stand", "rounds", "farthest"] : List Str).all (propB K) && (ecs.all (ecB K) && moreB K)
/-- the defs that make lambdas -/
def tfs : List Defn := [("_law_all", none), ("_law_ended", none), ("_law_within", none), ("_law_thousand_right", none), ("law", none)]
/-! ### the part of the heap that is told: reached by paths, no repetition looked for -/
def kfun (o : Obj) : List Addr := match o.data with
  | .func fd => refV fd.code ++ refV fd.defaults
  | _ => []
def kmem (g : Addr → Option Obj) (a : Addr) : List Addr := match g a with
  | some o => (match o.data with
    | .func fd => refV fd.code ++ refV fd.defaults
    | .fields vs => vs.toList.flatMap fun v => match v with
      | .ref b => b :: (match g b with
        | some ob => kfun ob
        | none => [])
      | _ => []
    | _ => [])
  | none => []
def kglo (g : Addr → Option Obj) (a : Addr) : List Addr := match g a with
  | some o => (match o.data with
    | .func fd => refV fd.code ++ refV fd.defaults
    | .cls cd => cd.ns :: (match g cd.ns with
      | some on => (match on.data with
        | .dict es _ => es.toList.flatMap fun e => match e.val with
          | .ref b => b :: kmem g b
          | _ => []
        | _ => [])
      | none => [])
    | _ => [])
  | none => []
def kAs (g : Addr → Option Obj) : List Addr := mainGlobals :: cStatics :: (match g mainGlobals with
  | some o => (match o.data with
    | .dict es _ => es.toList.flatMap fun e => match e.val with
      | .ref b => b :: kglo g b
      | _ => []
    | _ => [])
  | none => [])
/-! ### the Hook -/
abbrev AlK : Type := Bool × List FnW
def obsB (K : PySem.W.Frag) : Bool := (fas.all fun f => f.ok K) && ((dds.all fun d => d.ok K) && exB K)
/-- the code tables lie apart -/
def ndB (K : PySem.W.Frag) : Bool := decide ((tfs.map fun p => (cT K p).2).Nodup)
/-- facts of pairs' own operators -/
def pairB (K : PySem.W.Frag) : Bool := PySem.W.selfFirst K (ga K "Pair") && (eqO (PySem.W.findIn K (.ref (ga K "Pair")) "__ne__") (some (some (.builtin "object.__ne__"))) && decide (PySem.W.subIn K (.ref (ga K "Pair")) (.type "object") = some true))
def obsK (g : Addr → Option Obj) : AlK := (obsB (frT g (kAs g)) && (tabsB g tfs (frT g (kAs g)) && (ndB (frT g (kAs g)) && pairB (frT g (kAs g)))), dds.map (ddW (frT g (kAs g))))
def valK : AlK := (true, dds.map DD.val)
structure SaysK (h : Heap) (K : PySem.W.Frag) : Prop where
  ok : obsB K = true
  nd : ndB K = true
  pr : pairB K = true
  dd : dds.map (ddW K) = dds.map DD.val
  hd : ∀ p ∈ tfs, PySem.W.codeHdIn K (cT K p).1 (cT K p).2 = true
  out : ∀ p ∈ tfs, K.lookup (cT K p).2 = none
  empty : ∀ p ∈ tfs, h.get? (cT K p).2 = some { cls := .none, data := .fields #[] }
theorem tabsB_ok {g : Addr → Option Obj} {tf : List Defn} {K : PySem.W.Frag} (h : tabsB g tf K = true) {p : Defn} (hp : p ∈ tf) : PySem.W.codeHdIn K (cT K p).1 (cT K p).2 = true ∧ ∃ o, g (cT K p).2 = some o ∧ emptyTab o = true := by
  obtain ⟨h3, h4⟩ := ba (List.all_eq_true.mp h p hp)
  refine ⟨h3, ?_⟩
  cases q : g (cT K p).2 with
  | none =>
    rw [q] at h4
    cases h4
  | some o =>
    rw [q] at h4
    exact ⟨o, rfl, h4⟩
theorem saysK_of {h : Heap} (e : obsK h.get? = valK) : SaysK h (frT h.get? (kAs h.get?)) := by
  unfold obsK valK at e
  obtain ⟨e1, e2⟩ := Prod.mk.inj e
  obtain ⟨h1, h2⟩ := ba e1
  obtain ⟨h2, h3⟩ := ba h2
  obtain ⟨h3, h4⟩ := ba h3
  refine { ok := h1, nd := h3, pr := h4, dd := e2, hd := fun p hp => (tabsB_ok h2 hp).1, out := fun p hp => ?_, empty := fun p hp => ?_ }
  · obtain ⟨_, o, q, z⟩ := tabsB_ok h2 hp
    exact frT_none q z
  · obtain ⟨_, o, q, z⟩ := tabsB_ok h2 hp
    rw [q, emptyTab_eq z]
def hookK : PySem.W.Hook where
  α := AlK
  obs := fun s => obsK s.heap.get?
  val := fun _ => valK
  says := fun _ h => ∃ K : PySem.W.Frag, K.In h ∧ SaysK h K
  of := fun _ _ e => ⟨_, frT_in, saysK_of e⟩
  keeps := fun _ _ _ ⟨K, hK, c⟩ k => ⟨K, PySem.W.Frag.In.keeps hK k, ⟨c.ok, c.nd, c.pr, c.dd, c.hd, c.out, fun p hp => k _ _ (c.empty p hp)⟩⟩
theorem obsK_eq {g : Addr → Option Obj} {s : Shared} (h : ∀ a, g a = s.heap.get? a) : obsK g = hookK.obs s := by
  have e : g = s.heap.get? := funext h
  rw [e] <;> rfl
/-! ### what the walk leans on -/
structure Tx (K : PySem.W.Frag) (mg : Str → Option Value) : Prop where
  hp : ∃ h : Heap, K.In h ∧ h.Ns mainGlobals mg
  ok : obsB K = true
  nd : ndB K = true
  pr : pairB K = true
  dd : dds.map (ddW K) = dds.map DD.val
section
variable {K : PySem.W.Frag} {mg : Str → Option Value}
theorem Tx.fact (Z : Tx K mg) {f : Fa} (h : f ∈ fas) : f.ok K = true := List.all_eq_true.mp (ba Z.ok).1 f h
theorem Tx.def_ (Z : Tx K mg) {d : DD} (h : d ∈ dds) : ∃ fd, FunD K d.name d.qual d.params d.body d.scope (d.dfl.map (Dv.v K)) [] (d.at_ K) fd := by
  have c := List.all_eq_true.mp (ba (ba Z.ok).2).1 d h
  obtain ⟨i, hi, e⟩ := List.mem_iff_getElem.mp h
  have e2 : (dds.map (ddW K))[i]? = (dds.map DD.val)[i]? := by rw [Z.dd]
  have e3 : dds[i]? = some d := by rw [List.getElem?_eq_getElem hi, e]
  rw [List.getElem?_map, List.getElem?_map, e3] at e2
  exact DD.funD (Option.some.inj e2) c
theorem Tx.ex (Z : Tx K mg) : exB K = true := (ba (ba Z.ok).2).2
theorem Tx.glo (Z : Tx K mg) {x : Str} (h : Fa.glo x ∈ fas) : mg x = some (.ref (ga K x)) := by
  obtain ⟨h0, X, G⟩ := Z.hp
  exact glo_ok X G (Z.fact h)
theorem Tx.free (Z : Tx K mg) {x : Str} (h : Fa.free x ∈ fas) : mg x = none := by
  obtain ⟨h0, X, G⟩ := Z.hp
  exact free_ok X G (Z.fact h)
theorem Tx.int (Z : Tx K mg) {x : Str} {i : Int} (h : Fa.int x i ∈ fas) : ∃ t, mg x = some (.int i t) := by
  obtain ⟨h0, X, G⟩ := Z.hp
  exact int_ok X G (Z.fact h)
theorem Tx.str (Z : Tx K mg) {x z : Str} (h : Fa.str x z ∈ fas) : ∃ t, mg x = some (.str z t) := by
  obtain ⟨h0, X, G⟩ := Z.hp
  exact str_ok X G (Z.fact h)
theorem Tx.prop (Z : Tx K mg) {f : Str} (h : f ∈ (["world", "rule", "stand", "rounds", "farthest"] : List Str)) : PropOf K (ga K "Pair") f (ma K (ga K "Pair") f) (prA K (ga K "Pair") f) := propB_ok (List.all_eq_true.mp (ba Z.ex).1 f h)
theorem Tx.ec (Z : Tx K mg) {e : EC} (h : e ∈ ecs) : ecB K e = true := List.all_eq_true.mp (ba (ba Z.ex).2).1 e h
theorem Tx.more (Z : Tx K mg) : moreB K = true := (ba (ba Z.ex).2).2
end
theorem fa_mem1 {i : Nat} {f : Fa} (h : fa1[i]? = some f) : f ∈ fas := List.mem_append_left _ (List.mem_of_getElem? h)
theorem fa_mem2 {i : Nat} {f : Fa} (h : fa2[i]? = some f) : f ∈ fas := List.mem_append_right _ (List.mem_append_left _ (List.mem_of_getElem? h))
theorem fa_mem3 {i : Nat} {f : Fa} (h : fa3[i]? = some f) : f ∈ fas := List.mem_append_right _ (List.mem_append_right _ (List.mem_append_left _ (List.mem_of_getElem? h)))
theorem fa_mem4 {i : Nat} {f : Fa} (h : fa4[i]? = some f) : f ∈ fas := List.mem_append_right _ (List.mem_append_right _ (List.mem_append_right _ (List.mem_of_getElem? h)))
theorem dd_mem1 {i : Nat} {d : DD} (h : dds1[i]? = some d) : d ∈ dds := List.mem_append_left _ (List.mem_of_getElem? h)
theorem dd_mem2 {i : Nat} {d : DD} (h : dds2[i]? = some d) : d ∈ dds := List.mem_append_right _ (List.mem_of_getElem? h)
section
variable {K : PySem.W.Frag} {mg : Str → Option Value}
theorem Tx.g_SetError (Z : Tx K mg) : mg "SetError" = some (.ref (ga K "SetError")) := Z.glo (fa_mem1 (i := 0) rfl)
theorem Tx.g_BadWorld (Z : Tx K mg) : mg "BadWorld" = some (.ref (ga K "BadWorld")) := Z.glo (fa_mem1 (i := 1) rfl)
theorem Tx.g_BadRule (Z : Tx K mg) : mg "BadRule" = some (.ref (ga K "BadRule")) := Z.glo (fa_mem1 (i := 2) rfl)
theorem Tx.g_BadStart (Z : Tx K mg) : mg "BadStart" = some (.ref (ga K "BadStart")) := Z.glo (fa_mem1 (i := 3) rfl)
theorem Tx.g_BadBound (Z : Tx K mg) : mg "BadBound" = some (.ref (ga K "BadBound")) := Z.glo (fa_mem1 (i := 4) rfl)
theorem Tx.g_BadStand (Z : Tx K mg) : mg "BadStand" = some (.ref (ga K "BadStand")) := Z.glo (fa_mem1 (i := 5) rfl)
theorem Tx.g_BadRound (Z : Tx K mg) : mg "BadRound" = some (.ref (ga K "BadRound")) := Z.glo (fa_mem1 (i := 6) rfl)
theorem Tx.g_BadRun (Z : Tx K mg) : mg "BadRun" = some (.ref (ga K "BadRun")) := Z.glo (fa_mem1 (i := 7) rfl)
theorem Tx.g_BadRanges (Z : Tx K mg) : mg "BadRanges" = some (.ref (ga K "BadRanges")) := Z.glo (fa_mem1 (i := 8) rfl)
theorem Tx.g_BadPaper (Z : Tx K mg) : mg "BadPaper" = some (.ref (ga K "BadPaper")) := Z.glo (fa_mem1 (i := 9) rfl)
theorem Tx.g_BadRow (Z : Tx K mg) : mg "BadRow" = some (.ref (ga K "BadRow")) := Z.glo (fa_mem1 (i := 10) rfl)
theorem Tx.g_BadText (Z : Tx K mg) : mg "BadText" = some (.ref (ga K "BadText")) := Z.glo (fa_mem1 (i := 11) rfl)
theorem Tx.g_BadNumber (Z : Tx K mg) : mg "BadNumber" = some (.ref (ga K "BadNumber")) := Z.glo (fa_mem1 (i := 12) rfl)
theorem Tx.g_TooGreat (Z : Tx K mg) : mg "TooGreat" = some (.ref (ga K "TooGreat")) := Z.glo (fa_mem1 (i := 13) rfl)
theorem Tx.g_NothingLeft (Z : Tx K mg) : mg "NothingLeft" = some (.ref (ga K "NothingLeft")) := Z.glo (fa_mem1 (i := 14) rfl)
theorem Tx.g_is_integer (Z : Tx K mg) : mg "is_integer" = some (.ref (ga K "is_integer")) := Z.glo (fa_mem1 (i := 15) rfl)
theorem Tx.g_is_whole (Z : Tx K mg) : mg "is_whole" = some (.ref (ga K "is_whole")) := Z.glo (fa_mem1 (i := 16) rfl)
theorem Tx.g_is_world (Z : Tx K mg) : mg "is_world" = some (.ref (ga K "is_world")) := Z.glo (fa_mem1 (i := 17) rfl)
theorem Tx.g_need_world (Z : Tx K mg) : mg "need_world" = some (.ref (ga K "need_world")) := Z.glo (fa_mem1 (i := 18) rfl)
theorem Tx.g_is_deed (Z : Tx K mg) : mg "is_deed" = some (.ref (ga K "is_deed")) := Z.glo (fa_mem1 (i := 19) rfl)
theorem Tx.g_is_entry (Z : Tx K mg) : mg "is_entry" = some (.ref (ga K "is_entry")) := Z.glo (fa_mem1 (i := 20) rfl)
theorem Tx.g_are_cuts (Z : Tx K mg) : mg "are_cuts" = some (.ref (ga K "are_cuts")) := Z.glo (fa_mem1 (i := 21) rfl)
theorem Tx.g_is_mode (Z : Tx K mg) : mg "is_mode" = some (.ref (ga K "is_mode")) := Z.glo (fa_mem1 (i := 22) rfl)
theorem Tx.g_need_rule (Z : Tx K mg) : mg "need_rule" = some (.ref (ga K "need_rule")) := Z.glo (fa_mem1 (i := 23) rfl)
theorem Tx.g_taken_by (Z : Tx K mg) : mg "taken_by" = some (.ref (ga K "taken_by")) := Z.glo (fa_mem1 (i := 24) rfl)
theorem Tx.g_is_round (Z : Tx K mg) : mg "is_round" = some (.ref (ga K "is_round")) := Z.glo (fa_mem1 (i := 25) rfl)
theorem Tx.g_entry_at (Z : Tx K mg) : mg "entry_at" = some (.ref (ga K "entry_at")) := Z.glo (fa_mem1 (i := 26) rfl)
theorem Tx.g_stepped (Z : Tx K mg) : mg "stepped" = some (.ref (ga K "stepped")) := Z.glo (fa_mem1 (i := 27) rfl)
theorem Tx.g_gone_through (Z : Tx K mg) : mg "gone_through" = some (.ref (ga K "gone_through")) := Z.glo (fa_mem1 (i := 28) rfl)
theorem Tx.g_Trial (Z : Tx K mg) : mg "Trial" = some (.ref (ga K "Trial")) := Z.glo (fa_mem1 (i := 29) rfl)
theorem Tx.g_under (Z : Tx K mg) : mg "under" = some (.ref (ga K "under")) := Z.glo (fa_mem1 (i := 30) rfl)
theorem Tx.g_Pair (Z : Tx K mg) : mg "Pair" = some (.ref (ga K "Pair")) := Z.glo (fa_mem1 (i := 31) rfl)
theorem Tx.g_need_many (Z : Tx K mg) : mg "need_many" = some (.ref (ga K "need_many")) := Z.glo (fa_mem1 (i := 32) rfl)
theorem Tx.g_law_begin (Z : Tx K mg) : mg "_law_begin" = some (.ref (ga K "_law_begin")) := Z.glo (fa_mem1 (i := 33) rfl)
theorem Tx.g_law_next (Z : Tx K mg) : mg "_law_next" = some (.ref (ga K "_law_next")) := Z.glo (fa_mem1 (i := 34) rfl)
theorem Tx.g_law_pick (Z : Tx K mg) : mg "_law_pick" = some (.ref (ga K "_law_pick")) := Z.glo (fa_mem1 (i := 35) rfl)
theorem Tx.g_law_deed (Z : Tx K mg) : mg "_law_deed" = some (.ref (ga K "_law_deed")) := Z.glo (fa_mem1 (i := 36) rfl)
theorem Tx.g_law_mode (Z : Tx K mg) : mg "_law_mode" = some (.ref (ga K "_law_mode")) := Z.glo (fa_mem1 (i := 37) rfl)
theorem Tx.g_law_rule (Z : Tx K mg) : mg "_law_rule" = some (.ref (ga K "_law_rule")) := Z.glo (fa_mem1 (i := 38) rfl)
theorem Tx.g_law_world (Z : Tx K mg) : mg "_law_world" = some (.ref (ga K "_law_world")) := Z.glo (fa_mem1 (i := 39) rfl)
theorem Tx.g_law_rounds (Z : Tx K mg) : mg "_law_rounds" = some (.ref (ga K "_law_rounds")) := Z.glo (fa_mem2 (i := 0) rfl)
theorem Tx.g_law_fault (Z : Tx K mg) : mg "_law_fault" = some (.ref (ga K "_law_fault")) := Z.glo (fa_mem2 (i := 1) rfl)
theorem Tx.g_law_said (Z : Tx K mg) : mg "_law_said" = some (.ref (ga K "_law_said")) := Z.glo (fa_mem2 (i := 2) rfl)
theorem Tx.g_law_all (Z : Tx K mg) : mg "_law_all" = some (.ref (ga K "_law_all")) := Z.glo (fa_mem2 (i := 3) rfl)
theorem Tx.g_law_started (Z : Tx K mg) : mg "_law_started" = some (.ref (ga K "_law_started")) := Z.glo (fa_mem2 (i := 4) rfl)
theorem Tx.g_law_goes_on (Z : Tx K mg) : mg "_law_goes_on" = some (.ref (ga K "_law_goes_on")) := Z.glo (fa_mem2 (i := 5) rfl)
theorem Tx.g_law_inside (Z : Tx K mg) : mg "_law_inside" = some (.ref (ga K "_law_inside")) := Z.glo (fa_mem2 (i := 6) rfl)
theorem Tx.g_law_ended (Z : Tx K mg) : mg "_law_ended" = some (.ref (ga K "_law_ended")) := Z.glo (fa_mem2 (i := 7) rfl)
theorem Tx.g_law_within (Z : Tx K mg) : mg "_law_within" = some (.ref (ga K "_law_within")) := Z.glo (fa_mem2 (i := 8) rfl)
theorem Tx.g_law_added (Z : Tx K mg) : mg "_law_added" = some (.ref (ga K "_law_added")) := Z.glo (fa_mem2 (i := 9) rfl)
theorem Tx.g_law_thousand_right (Z : Tx K mg) : mg "_law_thousand_right" = some (.ref (ga K "_law_thousand_right")) := Z.glo (fa_mem2 (i := 10) rfl)
theorem Tx.g_law (Z : Tx K mg) : mg "law" = some (.ref (ga K "law")) := Z.glo (fa_mem2 (i := 11) rfl)
theorem Tx.f_isinstance (Z : Tx K mg) : mg "isinstance" = none := Z.free (fa_mem3 (i := 0) rfl)
theorem Tx.f_int (Z : Tx K mg) : mg "int" = none := Z.free (fa_mem3 (i := 1) rfl)
theorem Tx.f_bool (Z : Tx K mg) : mg "bool" = none := Z.free (fa_mem3 (i := 2) rfl)
theorem Tx.f_len (Z : Tx K mg) : mg "len" = none := Z.free (fa_mem3 (i := 3) rfl)
theorem Tx.f_tuple (Z : Tx K mg) : mg "tuple" = none := Z.free (fa_mem3 (i := 4) rfl)
theorem Tx.f_str (Z : Tx K mg) : mg "str" = none := Z.free (fa_mem3 (i := 5) rfl)
theorem Tx.f_all (Z : Tx K mg) : mg "all" = none := Z.free (fa_mem3 (i := 6) rfl)
theorem Tx.f_zip (Z : Tx K mg) : mg "zip" = none := Z.free (fa_mem3 (i := 7) rfl)
theorem Tx.f_enumerate (Z : Tx K mg) : mg "enumerate" = none := Z.free (fa_mem3 (i := 8) rfl)
theorem Tx.f_max (Z : Tx K mg) : mg "max" = none := Z.free (fa_mem3 (i := 9) rfl)
theorem Tx.f_min (Z : Tx K mg) : mg "min" = none := Z.free (fa_mem3 (i := 10) rfl)
theorem Tx.f_abs (Z : Tx K mg) : mg "abs" = none := Z.free (fa_mem3 (i := 11) rfl)
theorem Tx.f_list (Z : Tx K mg) : mg "list" = none := Z.free (fa_mem3 (i := 12) rfl)
theorem Tx.f_range (Z : Tx K mg) : mg "range" = none := Z.free (fa_mem3 (i := 13) rfl)
theorem Tx.f_OverflowError (Z : Tx K mg) : mg "OverflowError" = none := Z.free (fa_mem3 (i := 14) rfl)
theorem Tx.f_RuntimeError (Z : Tx K mg) : mg "RuntimeError" = none := Z.free (fa_mem3 (i := 15) rfl)
theorem Tx.f_ValueError (Z : Tx K mg) : mg "ValueError" = none := Z.free (fa_mem3 (i := 16) rfl)
theorem Tx.c_MOST_DRIFT (Z : Tx K mg) : ∃ t, mg "MOST_DRIFT" = some (.int 60 t) := Z.int (fa_mem3 (i := 17) rfl)
theorem Tx.c_MOST_ERROR (Z : Tx K mg) : ∃ t, mg "MOST_ERROR" = some (.int 60 t) := Z.int (fa_mem3 (i := 18) rfl)
theorem Tx.c_MOST_LOSSES (Z : Tx K mg) : ∃ t, mg "MOST_LOSSES" = some (.int 3 t) := Z.int (fa_mem3 (i := 19) rfl)
theorem Tx.c_MOST_RUN (Z : Tx K mg) : ∃ t, mg "MOST_RUN" = some (.int 60 t) := Z.int (fa_mem3 (i := 20) rfl)
theorem Tx.c_MOST_PARTS (Z : Tx K mg) : ∃ t, mg "MOST_PARTS" = some (.int 60 t) := Z.int (fa_mem3 (i := 21) rfl)
theorem Tx.c_MOST_MODES (Z : Tx K mg) : ∃ t, mg "MOST_MODES" = some (.int 3 t) := Z.int (fa_mem3 (i := 22) rfl)
theorem Tx.c_MOST_CUTS (Z : Tx K mg) : ∃ t, mg "MOST_CUTS" = some (.int 4 t) := Z.int (fa_mem3 (i := 23) rfl)
theorem Tx.c_MOST_CUT (Z : Tx K mg) : ∃ t, mg "MOST_CUT" = some (.int 300 t) := Z.int (fa_mem3 (i := 24) rfl)
theorem Tx.c_MOST_BEGIN (Z : Tx K mg) : ∃ t, mg "MOST_BEGIN" = some (.int 500 t) := Z.int (fa_mem3 (i := 25) rfl)
theorem Tx.c_HOLD (Z : Tx K mg) : ∃ t, mg "HOLD" = some (.str "hold" t) := Z.str (fa_mem3 (i := 26) rfl)
theorem Tx.c_SHIFT (Z : Tx K mg) : ∃ t, mg "SHIFT" = some (.str "shift" t) := Z.str (fa_mem3 (i := 27) rfl)
theorem Tx.c_RUN (Z : Tx K mg) : ∃ t, mg "RUN" = some (.str "run" t) := Z.str (fa_mem3 (i := 28) rfl)
theorem Tx.c_JUMP (Z : Tx K mg) : ∃ t, mg "JUMP" = some (.str "jump" t) := Z.str (fa_mem3 (i := 29) rfl)
theorem Tx.c_MOST_DONE (Z : Tx K mg) : ∃ t, mg "MOST_DONE" = some (.int 1000 t) := Z.int (fa_mem3 (i := 30) rfl)
theorem Tx.clsT (Z : Tx K mg) : Cls K (ga K "Trial") := cls_ok (Z.fact (fa_mem4 (i := 0) rfl))
theorem Tx.clsP (Z : Tx K mg) : Cls K (ga K "Pair") := cls_ok (Z.fact (fa_mem4 (i := 1) rfl))
theorem Tx.mkT (Z : Tx K mg) : Mk K (ga K "Trial") (ma K (ga K "Trial") "__init__") := mkr_ok (Z.fact (fa_mem4 (i := 2) rfl))
theorem Tx.mkP (Z : Tx K mg) : Mk K (ga K "Pair") (ma K (ga K "Pair") "__init__") := mkr_ok (Z.fact (fa_mem4 (i := 3) rfl))
theorem Tx.no_pair_so (Z : Tx K mg) : NoAttr K (ga K "Trial") "pair_so" := noat_ok (Z.fact (fa_mem4 (i := 4) rfl))
theorem Tx.no_now_ahead (Z : Tx K mg) : NoAttr K (ga K "Trial") "now_ahead" := noat_ok (Z.fact (fa_mem4 (i := 5) rfl))
theorem Tx.no_past_ahead (Z : Tx K mg) : NoAttr K (ga K "Trial") "past_ahead" := noat_ok (Z.fact (fa_mem4 (i := 6) rfl))
theorem Tx.no_coming_ahead (Z : Tx K mg) : NoAttr K (ga K "Trial") "coming_ahead" := noat_ok (Z.fact (fa_mem4 (i := 7) rfl))
theorem Tx.no_own_world (Z : Tx K mg) : NoAttr K (ga K "Pair") "own_world" := noat_ok (Z.fact (fa_mem4 (i := 8) rfl))
theorem Tx.no_own_rule (Z : Tx K mg) : NoAttr K (ga K "Pair") "own_rule" := noat_ok (Z.fact (fa_mem4 (i := 9) rfl))
theorem Tx.no_begin (Z : Tx K mg) : NoAttr K (ga K "Pair") "begin" := noat_ok (Z.fact (fa_mem4 (i := 10) rfl))
theorem Tx.no_now (Z : Tx K mg) : NoAttr K (ga K "Pair") "now" := noat_ok (Z.fact (fa_mem4 (i := 11) rfl))
theorem Tx.no_past (Z : Tx K mg) : NoAttr K (ga K "Pair") "past" := noat_ok (Z.fact (fa_mem4 (i := 12) rfl))
theorem Tx.no_coming (Z : Tx K mg) : NoAttr K (ga K "Pair") "coming" := noat_ok (Z.fact (fa_mem4 (i := 13) rfl))
theorem Tx.m_enter (Z : Tx K mg) : Meth K (ga K "Trial") "__enter__" (ma K (ga K "Trial") "__enter__") := meth_ok (Z.fact (fa_mem4 (i := 14) rfl))
theorem Tx.m_exit (Z : Tx K mg) : Meth K (ga K "Trial") "__exit__" (ma K (ga K "Trial") "__exit__") := meth_ok (Z.fact (fa_mem4 (i := 15) rfl))
theorem Tx.m_do (Z : Tx K mg) : Meth K (ga K "Pair") "do" (ma K (ga K "Pair") "do") := meth_ok (Z.fact (fa_mem4 (i := 16) rfl))
theorem Tx.m_undo (Z : Tx K mg) : Meth K (ga K "Pair") "undo" (ma K (ga K "Pair") "undo") := meth_ok (Z.fact (fa_mem4 (i := 17) rfl))
theorem Tx.m_redo (Z : Tx K mg) : Meth K (ga K "Pair") "redo" (ma K (ga K "Pair") "redo") := meth_ok (Z.fact (fa_mem4 (i := 18) rfl))
theorem Tx.m_copy (Z : Tx K mg) : Meth K (ga K "Pair") "copy" (ma K (ga K "Pair") "copy") := meth_ok (Z.fact (fa_mem4 (i := 19) rfl))
theorem Tx.m_trial (Z : Tx K mg) : Meth K (ga K "Pair") "trial" (ma K (ga K "Pair") "trial") := meth_ok (Z.fact (fa_mem4 (i := 20) rfl))
theorem Tx.m_call (Z : Tx K mg) : Meth K (ga K "Pair") "__call__" (ma K (ga K "Pair") "__call__") := meth_ok (Z.fact (fa_mem4 (i := 21) rfl))
theorem Tx.m_iadd (Z : Tx K mg) : Meth K (ga K "Pair") "__iadd__" (ma K (ga K "Pair") "__iadd__") := meth_ok (Z.fact (fa_mem4 (i := 22) rfl))
theorem Tx.m_len (Z : Tx K mg) : Meth K (ga K "Pair") "__len__" (ma K (ga K "Pair") "__len__") := meth_ok (Z.fact (fa_mem4 (i := 23) rfl))
theorem Tx.m_eq (Z : Tx K mg) : Meth K (ga K "Pair") "__eq__" (ma K (ga K "Pair") "__eq__") := meth_ok (Z.fact (fa_mem4 (i := 24) rfl))
theorem Tx.fn_BadRound_init (Z : Tx K mg) : ∃ fd, FunD K d_BadRound_init.name d_BadRound_init.qual (defArgs s_BadRound_init) (defBody s_BadRound_init) (defScope s_BadRound_init) (d_BadRound_init.dfl.map (Dv.v K)) [] (d_BadRound_init.at_ K) fd := Z.def_ (d := d_BadRound_init) (dd_mem1 (i := 0) rfl)
theorem Tx.fn_BadRun_init (Z : Tx K mg) : ∃ fd, FunD K d_BadRun_init.name d_BadRun_init.qual (defArgs s_BadRun_init) (defBody s_BadRun_init) (defScope s_BadRun_init) (d_BadRun_init.dfl.map (Dv.v K)) [] (d_BadRun_init.at_ K) fd := Z.def_ (d := d_BadRun_init) (dd_mem1 (i := 1) rfl)
theorem Tx.fn_TooGreat_init (Z : Tx K mg) : ∃ fd, FunD K d_TooGreat_init.name d_TooGreat_init.qual (defArgs s_TooGreat_init) (defBody s_TooGreat_init) (defScope s_TooGreat_init) (d_TooGreat_init.dfl.map (Dv.v K)) [] (d_TooGreat_init.at_ K) fd := Z.def_ (d := d_TooGreat_init) (dd_mem1 (i := 2) rfl)
theorem Tx.fn_NothingLeft_init (Z : Tx K mg) : ∃ fd, FunD K d_NothingLeft_init.name d_NothingLeft_init.qual (defArgs s_NothingLeft_init) (defBody s_NothingLeft_init) (defScope s_NothingLeft_init) (d_NothingLeft_init.dfl.map (Dv.v K)) [] (d_NothingLeft_init.at_ K) fd := Z.def_ (d := d_NothingLeft_init) (dd_mem1 (i := 3) rfl)
theorem Tx.fn_is_integer (Z : Tx K mg) : ∃ fd, FunD K d_is_integer.name d_is_integer.qual (defArgs s_is_integer) (defBody s_is_integer) (defScope s_is_integer) (d_is_integer.dfl.map (Dv.v K)) [] (d_is_integer.at_ K) fd := Z.def_ (d := d_is_integer) (dd_mem1 (i := 4) rfl)
theorem Tx.fn_is_whole (Z : Tx K mg) : ∃ fd, FunD K d_is_whole.name d_is_whole.qual (defArgs s_is_whole) (defBody s_is_whole) (defScope s_is_whole) (d_is_whole.dfl.map (Dv.v K)) [] (d_is_whole.at_ K) fd := Z.def_ (d := d_is_whole) (dd_mem1 (i := 5) rfl)
theorem Tx.fn_is_world (Z : Tx K mg) : ∃ fd, FunD K d_is_world.name d_is_world.qual (defArgs s_is_world) (defBody s_is_world) (defScope s_is_world) (d_is_world.dfl.map (Dv.v K)) [] (d_is_world.at_ K) fd := Z.def_ (d := d_is_world) (dd_mem1 (i := 6) rfl)
theorem Tx.fn_need_world (Z : Tx K mg) : ∃ fd, FunD K d_need_world.name d_need_world.qual (defArgs s_need_world) (defBody s_need_world) (defScope s_need_world) (d_need_world.dfl.map (Dv.v K)) [] (d_need_world.at_ K) fd := Z.def_ (d := d_need_world) (dd_mem1 (i := 7) rfl)
theorem Tx.fn_is_deed (Z : Tx K mg) : ∃ fd, FunD K d_is_deed.name d_is_deed.qual (defArgs s_is_deed) (defBody s_is_deed) (defScope s_is_deed) (d_is_deed.dfl.map (Dv.v K)) [] (d_is_deed.at_ K) fd := Z.def_ (d := d_is_deed) (dd_mem1 (i := 8) rfl)
theorem Tx.fn_is_entry (Z : Tx K mg) : ∃ fd, FunD K d_is_entry.name d_is_entry.qual (defArgs s_is_entry) (defBody s_is_entry) (defScope s_is_entry) (d_is_entry.dfl.map (Dv.v K)) [] (d_is_entry.at_ K) fd := Z.def_ (d := d_is_entry) (dd_mem1 (i := 9) rfl)
theorem Tx.fn_are_cuts (Z : Tx K mg) : ∃ fd, FunD K d_are_cuts.name d_are_cuts.qual (defArgs s_are_cuts) (defBody s_are_cuts) (defScope s_are_cuts) (d_are_cuts.dfl.map (Dv.v K)) [] (d_are_cuts.at_ K) fd := Z.def_ (d := d_are_cuts) (dd_mem1 (i := 10) rfl)
theorem Tx.fn_is_mode (Z : Tx K mg) : ∃ fd, FunD K d_is_mode.name d_is_mode.qual (defArgs s_is_mode) (defBody s_is_mode) (defScope s_is_mode) (d_is_mode.dfl.map (Dv.v K)) [] (d_is_mode.at_ K) fd := Z.def_ (d := d_is_mode) (dd_mem1 (i := 11) rfl)
theorem Tx.fn_need_rule (Z : Tx K mg) : ∃ fd, FunD K d_need_rule.name d_need_rule.qual (defArgs s_need_rule) (defBody s_need_rule) (defScope s_need_rule) (d_need_rule.dfl.map (Dv.v K)) [] (d_need_rule.at_ K) fd := Z.def_ (d := d_need_rule) (dd_mem1 (i := 12) rfl)
theorem Tx.fn_taken_by (Z : Tx K mg) : ∃ fd, FunD K d_taken_by.name d_taken_by.qual (defArgs s_taken_by) (defBody s_taken_by) (defScope s_taken_by) (d_taken_by.dfl.map (Dv.v K)) [] (d_taken_by.at_ K) fd := Z.def_ (d := d_taken_by) (dd_mem1 (i := 13) rfl)
theorem Tx.fn_is_round (Z : Tx K mg) : ∃ fd, FunD K d_is_round.name d_is_round.qual (defArgs s_is_round) (defBody s_is_round) (defScope s_is_round) (d_is_round.dfl.map (Dv.v K)) [] (d_is_round.at_ K) fd := Z.def_ (d := d_is_round) (dd_mem1 (i := 14) rfl)
theorem Tx.fn_entry_at (Z : Tx K mg) : ∃ fd, FunD K d_entry_at.name d_entry_at.qual (defArgs s_entry_at) (defBody s_entry_at) (defScope s_entry_at) (d_entry_at.dfl.map (Dv.v K)) [] (d_entry_at.at_ K) fd := Z.def_ (d := d_entry_at) (dd_mem1 (i := 15) rfl)
theorem Tx.fn_stepped (Z : Tx K mg) : ∃ fd, FunD K d_stepped.name d_stepped.qual (defArgs s_stepped) (defBody s_stepped) (defScope s_stepped) (d_stepped.dfl.map (Dv.v K)) [] (d_stepped.at_ K) fd := Z.def_ (d := d_stepped) (dd_mem1 (i := 16) rfl)
theorem Tx.fn_gone_through (Z : Tx K mg) : ∃ fd, FunD K d_gone_through.name d_gone_through.qual (defArgs s_gone_through) (defBody s_gone_through) (defScope s_gone_through) (d_gone_through.dfl.map (Dv.v K)) [] (d_gone_through.at_ K) fd := Z.def_ (d := d_gone_through) (dd_mem1 (i := 17) rfl)
theorem Tx.fn_Trial_init (Z : Tx K mg) : ∃ fd, FunD K d_Trial_init.name d_Trial_init.qual (defArgs s_Trial_init) (defBody s_Trial_init) (defScope s_Trial_init) (d_Trial_init.dfl.map (Dv.v K)) [] (d_Trial_init.at_ K) fd := Z.def_ (d := d_Trial_init) (dd_mem1 (i := 18) rfl)
theorem Tx.fn_Trial_enter (Z : Tx K mg) : ∃ fd, FunD K d_Trial_enter.name d_Trial_enter.qual (defArgs s_Trial_enter) (defBody s_Trial_enter) (defScope s_Trial_enter) (d_Trial_enter.dfl.map (Dv.v K)) [] (d_Trial_enter.at_ K) fd := Z.def_ (d := d_Trial_enter) (dd_mem1 (i := 19) rfl)
theorem Tx.fn_Trial_exit (Z : Tx K mg) : ∃ fd, FunD K d_Trial_exit.name d_Trial_exit.qual (defArgs s_Trial_exit) (defBody s_Trial_exit) (defScope s_Trial_exit) (d_Trial_exit.dfl.map (Dv.v K)) [] (d_Trial_exit.at_ K) fd := Z.def_ (d := d_Trial_exit) (dd_mem1 (i := 20) rfl)
theorem Tx.fn_under (Z : Tx K mg) : ∃ fd, FunD K d_under.name d_under.qual (defArgs s_under) (defBody s_under) (defScope s_under) (d_under.dfl.map (Dv.v K)) [] (d_under.at_ K) fd := Z.def_ (d := d_under) (dd_mem1 (i := 21) rfl)
theorem Tx.fn_Pair_init (Z : Tx K mg) : ∃ fd, FunD K d_Pair_init.name d_Pair_init.qual (defArgs s_Pair_init) (defBody s_Pair_init) (defScope s_Pair_init) (d_Pair_init.dfl.map (Dv.v K)) [] (d_Pair_init.at_ K) fd := Z.def_ (d := d_Pair_init) (dd_mem1 (i := 22) rfl)
theorem Tx.fn_Pair_world (Z : Tx K mg) : ∃ fd, FunD K d_Pair_world.name d_Pair_world.qual (defArgs s_Pair_world) (defBody s_Pair_world) (defScope s_Pair_world) (d_Pair_world.dfl.map (Dv.v K)) [] (d_Pair_world.at_ K) fd := Z.def_ (d := d_Pair_world) (dd_mem1 (i := 23) rfl)
theorem Tx.fn_Pair_rule (Z : Tx K mg) : ∃ fd, FunD K d_Pair_rule.name d_Pair_rule.qual (defArgs s_Pair_rule) (defBody s_Pair_rule) (defScope s_Pair_rule) (d_Pair_rule.dfl.map (Dv.v K)) [] (d_Pair_rule.at_ K) fd := Z.def_ (d := d_Pair_rule) (dd_mem1 (i := 24) rfl)
theorem Tx.fn_Pair_stand (Z : Tx K mg) : ∃ fd, FunD K d_Pair_stand.name d_Pair_stand.qual (defArgs s_Pair_stand) (defBody s_Pair_stand) (defScope s_Pair_stand) (d_Pair_stand.dfl.map (Dv.v K)) [] (d_Pair_stand.at_ K) fd := Z.def_ (d := d_Pair_stand) (dd_mem1 (i := 25) rfl)
theorem Tx.fn_Pair_rounds (Z : Tx K mg) : ∃ fd, FunD K d_Pair_rounds.name d_Pair_rounds.qual (defArgs s_Pair_rounds) (defBody s_Pair_rounds) (defScope s_Pair_rounds) (d_Pair_rounds.dfl.map (Dv.v K)) [] (d_Pair_rounds.at_ K) fd := Z.def_ (d := d_Pair_rounds) (dd_mem1 (i := 26) rfl)
theorem Tx.fn_Pair_farthest (Z : Tx K mg) : ∃ fd, FunD K d_Pair_farthest.name d_Pair_farthest.qual (defArgs s_Pair_farthest) (defBody s_Pair_farthest) (defScope s_Pair_farthest) (d_Pair_farthest.dfl.map (Dv.v K)) [] (d_Pair_farthest.at_ K) fd := Z.def_ (d := d_Pair_farthest) (dd_mem1 (i := 27) rfl)
theorem Tx.fn_Pair_do (Z : Tx K mg) : ∃ fd, FunD K d_Pair_do.name d_Pair_do.qual (defArgs s_Pair_do) (defBody s_Pair_do) (defScope s_Pair_do) (d_Pair_do.dfl.map (Dv.v K)) [] (d_Pair_do.at_ K) fd := Z.def_ (d := d_Pair_do) (dd_mem2 (i := 0) rfl)
theorem Tx.fn_Pair_call (Z : Tx K mg) : ∃ fd, FunD K d_Pair_call.name d_Pair_call.qual (defArgs s_Pair_call) (defBody s_Pair_call) (defScope s_Pair_call) (d_Pair_call.dfl.map (Dv.v K)) [] (d_Pair_call.at_ K) fd := Z.def_ (d := d_Pair_call) (dd_mem2 (i := 1) rfl)
theorem Tx.fn_Pair_iadd (Z : Tx K mg) : ∃ fd, FunD K d_Pair_iadd.name d_Pair_iadd.qual (defArgs s_Pair_iadd) (defBody s_Pair_iadd) (defScope s_Pair_iadd) (d_Pair_iadd.dfl.map (Dv.v K)) [] (d_Pair_iadd.at_ K) fd := Z.def_ (d := d_Pair_iadd) (dd_mem2 (i := 2) rfl)
theorem Tx.fn_Pair_len (Z : Tx K mg) : ∃ fd, FunD K d_Pair_len.name d_Pair_len.qual (defArgs s_Pair_len) (defBody s_Pair_len) (defScope s_Pair_len) (d_Pair_len.dfl.map (Dv.v K)) [] (d_Pair_len.at_ K) fd := Z.def_ (d := d_Pair_len) (dd_mem2 (i := 3) rfl)
theorem Tx.fn_Pair_eq (Z : Tx K mg) : ∃ fd, FunD K d_Pair_eq.name d_Pair_eq.qual (defArgs s_Pair_eq) (defBody s_Pair_eq) (defScope s_Pair_eq) (d_Pair_eq.dfl.map (Dv.v K)) [] (d_Pair_eq.at_ K) fd := Z.def_ (d := d_Pair_eq) (dd_mem2 (i := 4) rfl)
theorem Tx.fn_Pair_undo (Z : Tx K mg) : ∃ fd, FunD K d_Pair_undo.name d_Pair_undo.qual (defArgs s_Pair_undo) (defBody s_Pair_undo) (defScope s_Pair_undo) (d_Pair_undo.dfl.map (Dv.v K)) [] (d_Pair_undo.at_ K) fd := Z.def_ (d := d_Pair_undo) (dd_mem2 (i := 5) rfl)
theorem Tx.fn_Pair_redo (Z : Tx K mg) : ∃ fd, FunD K d_Pair_redo.name d_Pair_redo.qual (defArgs s_Pair_redo) (defBody s_Pair_redo) (defScope s_Pair_redo) (d_Pair_redo.dfl.map (Dv.v K)) [] (d_Pair_redo.at_ K) fd := Z.def_ (d := d_Pair_redo) (dd_mem2 (i := 6) rfl)
theorem Tx.fn_Pair_copy (Z : Tx K mg) : ∃ fd, FunD K d_Pair_copy.name d_Pair_copy.qual (defArgs s_Pair_copy) (defBody s_Pair_copy) (defScope s_Pair_copy) (d_Pair_copy.dfl.map (Dv.v K)) [] (d_Pair_copy.at_ K) fd := Z.def_ (d := d_Pair_copy) (dd_mem2 (i := 7) rfl)
theorem Tx.fn_Pair_trial (Z : Tx K mg) : ∃ fd, FunD K d_Pair_trial.name d_Pair_trial.qual (defArgs s_Pair_trial) (defBody s_Pair_trial) (defScope s_Pair_trial) (d_Pair_trial.dfl.map (Dv.v K)) [] (d_Pair_trial.at_ K) fd := Z.def_ (d := d_Pair_trial) (dd_mem2 (i := 8) rfl)
theorem Tx.fn_need_many (Z : Tx K mg) : ∃ fd, FunD K d_need_many.name d_need_many.qual (defArgs s_need_many) (defBody s_need_many) (defScope s_need_many) (d_need_many.dfl.map (Dv.v K)) [] (d_need_many.at_ K) fd := Z.def_ (d := d_need_many) (dd_mem2 (i := 9) rfl)
theorem Tx.fn_law_begin (Z : Tx K mg) : ∃ fd, FunD K d_law_begin.name d_law_begin.qual (defArgs s_law_begin) (defBody s_law_begin) (defScope s_law_begin) (d_law_begin.dfl.map (Dv.v K)) [] (d_law_begin.at_ K) fd := Z.def_ (d := d_law_begin) (dd_mem2 (i := 10) rfl)
theorem Tx.fn_law_next (Z : Tx K mg) : ∃ fd, FunD K d_law_next.name d_law_next.qual (defArgs s_law_next) (defBody s_law_next) (defScope s_law_next) (d_law_next.dfl.map (Dv.v K)) [] (d_law_next.at_ K) fd := Z.def_ (d := d_law_next) (dd_mem2 (i := 11) rfl)
theorem Tx.fn_law_pick (Z : Tx K mg) : ∃ fd, FunD K d_law_pick.name d_law_pick.qual (defArgs s_law_pick) (defBody s_law_pick) (defScope s_law_pick) (d_law_pick.dfl.map (Dv.v K)) [] (d_law_pick.at_ K) fd := Z.def_ (d := d_law_pick) (dd_mem2 (i := 12) rfl)
theorem Tx.fn_law_deed (Z : Tx K mg) : ∃ fd, FunD K d_law_deed.name d_law_deed.qual (defArgs s_law_deed) (defBody s_law_deed) (defScope s_law_deed) (d_law_deed.dfl.map (Dv.v K)) [] (d_law_deed.at_ K) fd := Z.def_ (d := d_law_deed) (dd_mem2 (i := 13) rfl)
theorem Tx.fn_law_mode (Z : Tx K mg) : ∃ fd, FunD K d_law_mode.name d_law_mode.qual (defArgs s_law_mode) (defBody s_law_mode) (defScope s_law_mode) (d_law_mode.dfl.map (Dv.v K)) [] (d_law_mode.at_ K) fd := Z.def_ (d := d_law_mode) (dd_mem2 (i := 14) rfl)
theorem Tx.fn_law_rule (Z : Tx K mg) : ∃ fd, FunD K d_law_rule.name d_law_rule.qual (defArgs s_law_rule) (defBody s_law_rule) (defScope s_law_rule) (d_law_rule.dfl.map (Dv.v K)) [] (d_law_rule.at_ K) fd := Z.def_ (d := d_law_rule) (dd_mem2 (i := 15) rfl)
theorem Tx.fn_law_world (Z : Tx K mg) : ∃ fd, FunD K d_law_world.name d_law_world.qual (defArgs s_law_world) (defBody s_law_world) (defScope s_law_world) (d_law_world.dfl.map (Dv.v K)) [] (d_law_world.at_ K) fd := Z.def_ (d := d_law_world) (dd_mem2 (i := 16) rfl)
theorem Tx.fn_law_rounds (Z : Tx K mg) : ∃ fd, FunD K d_law_rounds.name d_law_rounds.qual (defArgs s_law_rounds) (defBody s_law_rounds) (defScope s_law_rounds) (d_law_rounds.dfl.map (Dv.v K)) [] (d_law_rounds.at_ K) fd := Z.def_ (d := d_law_rounds) (dd_mem2 (i := 17) rfl)
theorem Tx.fn_law_fault (Z : Tx K mg) : ∃ fd, FunD K d_law_fault.name d_law_fault.qual (defArgs s_law_fault) (defBody s_law_fault) (defScope s_law_fault) (d_law_fault.dfl.map (Dv.v K)) [] (d_law_fault.at_ K) fd := Z.def_ (d := d_law_fault) (dd_mem2 (i := 18) rfl)
theorem Tx.fn_law_said (Z : Tx K mg) : ∃ fd, FunD K d_law_said.name d_law_said.qual (defArgs s_law_said) (defBody s_law_said) (defScope s_law_said) (d_law_said.dfl.map (Dv.v K)) [] (d_law_said.at_ K) fd := Z.def_ (d := d_law_said) (dd_mem2 (i := 19) rfl)
theorem Tx.fn_law_all (Z : Tx K mg) : ∃ fd, FunD K d_law_all.name d_law_all.qual (defArgs s_law_all) (defBody s_law_all) (defScope s_law_all) (d_law_all.dfl.map (Dv.v K)) [] (d_law_all.at_ K) fd := Z.def_ (d := d_law_all) (dd_mem2 (i := 20) rfl)
theorem Tx.fn_law_started (Z : Tx K mg) : ∃ fd, FunD K d_law_started.name d_law_started.qual (defArgs s_law_started) (defBody s_law_started) (defScope s_law_started) (d_law_started.dfl.map (Dv.v K)) [] (d_law_started.at_ K) fd := Z.def_ (d := d_law_started) (dd_mem2 (i := 21) rfl)
theorem Tx.fn_law_goes_on (Z : Tx K mg) : ∃ fd, FunD K d_law_goes_on.name d_law_goes_on.qual (defArgs s_law_goes_on) (defBody s_law_goes_on) (defScope s_law_goes_on) (d_law_goes_on.dfl.map (Dv.v K)) [] (d_law_goes_on.at_ K) fd := Z.def_ (d := d_law_goes_on) (dd_mem2 (i := 22) rfl)
theorem Tx.fn_law_inside (Z : Tx K mg) : ∃ fd, FunD K d_law_inside.name d_law_inside.qual (defArgs s_law_inside) (defBody s_law_inside) (defScope s_law_inside) (d_law_inside.dfl.map (Dv.v K)) [] (d_law_inside.at_ K) fd := Z.def_ (d := d_law_inside) (dd_mem2 (i := 23) rfl)
theorem Tx.fn_law_ended (Z : Tx K mg) : ∃ fd, FunD K d_law_ended.name d_law_ended.qual (defArgs s_law_ended) (defBody s_law_ended) (defScope s_law_ended) (d_law_ended.dfl.map (Dv.v K)) [] (d_law_ended.at_ K) fd := Z.def_ (d := d_law_ended) (dd_mem2 (i := 24) rfl)
theorem Tx.fn_law_within (Z : Tx K mg) : ∃ fd, FunD K d_law_within.name d_law_within.qual (defArgs s_law_within) (defBody s_law_within) (defScope s_law_within) (d_law_within.dfl.map (Dv.v K)) [] (d_law_within.at_ K) fd := Z.def_ (d := d_law_within) (dd_mem2 (i := 25) rfl)
theorem Tx.fn_law_added (Z : Tx K mg) : ∃ fd, FunD K d_law_added.name d_law_added.qual (defArgs s_law_added) (defBody s_law_added) (defScope s_law_added) (d_law_added.dfl.map (Dv.v K)) [] (d_law_added.at_ K) fd := Z.def_ (d := d_law_added) (dd_mem2 (i := 26) rfl)
theorem Tx.fn_law_thousand_right (Z : Tx K mg) : ∃ fd, FunD K d_law_thousand_right.name d_law_thousand_right.qual (defArgs s_law_thousand_right) (defBody s_law_thousand_right) (defScope s_law_thousand_right) (d_law_thousand_right.dfl.map (Dv.v K)) [] (d_law_thousand_right.at_ K) fd := Z.def_ (d := d_law_thousand_right) (dd_mem2 (i := 27) rfl)
theorem Tx.fn_law (Z : Tx K mg) : ∃ fd, FunD K d_law.name d_law.qual (defArgs s_law) (defBody s_law) (defScope s_law) (d_law.dfl.map (Dv.v K)) [] (d_law.at_ K) fd := Z.def_ (d := d_law) (dd_mem2 (i := 28) rfl)
end
end K21
/-! K21C: lambdas (parameters, one written default) as values, and what calling one is worth: a contract told of a state, good from every later state. -/
namespace K21
open PySem PySem.Spec PyProof.Rows L2 LamX NdefX
open PySem.W (CodeHd tabObj)
/-! ### the object -/
abbrev lamFd (qual : Str) (ps : Arguments) (e : Expr) (sc : Scope) (cl : List (Str × Addr)) (dV pm cdv ct : Value) : FuncData :=
  { name := "<lambda>", qualname := qual, params := ps, body := .expr e, scope := sc, globals := mainGlobals, closure := cl, defaults := dV, kwdefaults := .none, doc := .none, pyModule := pm, annotations := none, code := cdv, closureTuple := ct, builtins := builtinsNs }
section
variable {M : Model} {A : Around} {E : Value → Shared → Prop} {s : Shared} {qual : Str} {ps : Arguments} {e : Expr} {sc : Scope} {env : Env} {c P : Addr} {tb : Array Value} {pos : Pos} {ln : Nat} {mg : Str → Option Value} {clos : List (Str × Addr)} {dV : Value} {Q : Value → Shared → Prop}
/-- the function object, its code object new -/
theorem lamTail_new (hcl : closureFor sc env = pure clos) (hge : env.globals = mainGlobals) (hg : s.heap.Ns mainGlobals mg) (hcode : env.code = .ref c) (C : CodeHd s.heap c P) (hP : s.heap.get? P = some (tabObj tb)) (ht : TriplesOk tb.toList)
    (hnf : codeAmong pos tb.toList = none) (hgP : mainGlobals ≠ P) (hb : s.heap.BuiltinsAt mg P)
    (h : ∀ c' ctv h' tk, Heap.ExtBut P s.heap h' → s.heap.objs.size ≤ c' → c' < h'.objs.size → h'.CodeRec (.ref c') qual → h'.get? P = some (tabObj (tb ++ #[rawInt pos.line, rawInt pos.col, .ref c'])) →
      Q (.ref h'.objs.size) { s with heap := h'.push { cls := .type "function", data := .func (lamFd qual ps e sc clos dV ((mg "__name__").getD .none) (.ref c') ctv) }, toks := tk }) :
    wpAny M A (makeTail "<lambda>" qual ps (.expr e) sc env dV .none none pos ln) Q E s := by
  obtain ⟨bm, ob, b1, b2, _, b3, b4, b5, b6, b7⟩ := hb
  unfold makeTail
  rw [hcl, hge]
  refine wpAny_bind (wpAny_pure ?_)
  cases clos with
  | nil =>
    simp only [List.isEmpty_nil, if_true]
    refine wpAny_bind (wpAny_pure (wpAny_bind (wpAny_functionCodeX hcode (C.code hP ht) (C.tab hP) hnf fun c' h' tk hx h1 h2 _ hrec htb _ => ?_)))
    have g' := hg.extBut hx hgP
    exact wpAny_bind (wpAny_builtinsFor g' b1 b2 (hx _ _ b3 b4) b5 b6 b7 (wpAny_bind (wpAny_nsGet g' (wpAny_bind (wpAny_pure (wpAny_newObj_type (h c' .none h' tk hx h1 h2 hrec htb.2) (by size_fits)))))))
  | cons q r =>
    simp only [List.isEmpty_cons, Bool.false_eq_true, if_false]
    refine wpAny_bind (wpAny_newTextTuple (wpAny_bind (wpAny_functionCodeX hcode ((C.keeps fun b o e => Heap.get?_push_of_some _ e).code (Heap.get?_push_of_some _ hP) ht) ((C.keeps fun b o e => Heap.get?_push_of_some _ e).tab (Heap.get?_push_of_some _ hP)) hnf
      fun c' h' tk hx h1 h2 _ hrec htb _ => ?_)))
    have g' := (hg.push _).extBut hx hgP
    have hx' : Heap.ExtBut P s.heap h' := fun b o n e => hx b o n (Heap.get?_push_of_some _ e)
    have h1' : s.heap.objs.size ≤ c' := Nat.le_trans (by rw [Heap.size_push]; omega) h1
    exact wpAny_bind (wpAny_builtinsFor g' b1 b2 (hx' _ _ b3 b4) b5 b6 b7 (wpAny_bind (wpAny_nsGet g' (wpAny_bind (wpAny_pure (wpAny_newObj_type (h c' _ h' tk hx' h1' h2 hrec htb.2) (by size_fits)))))))
/-- .. its code object found -/
theorem lamTail_hit {cv : Value} (hcl : closureFor sc env = pure clos) (hge : env.globals = mainGlobals) (hg : s.heap.Ns mainGlobals mg) (hcode : env.code = .ref c) (C : CodeHd s.heap c P) (hP : s.heap.get? P = some (tabObj tb)) (ht : TriplesOk tb.toList)
    (hf : codeAmong pos tb.toList = some cv) (hb : s.heap.BuiltinsAt mg P)
    (h : ∀ (ctv : Value) (h' : Heap) (tk : Tok), (∀ b o, s.heap.get? b = some o → h'.get? b = some o) → s.heap.objs.size ≤ h'.objs.size →
      Q (.ref h'.objs.size) { s with heap := h'.push { cls := .type "function", data := .func (lamFd qual ps e sc clos dV ((mg "__name__").getD .none) cv ctv) }, toks := tk }) :
    wpAny M A (makeTail "<lambda>" qual ps (.expr e) sc env dV .none none pos ln) Q E s := by
  obtain ⟨bm, ob, b1, b2, _, b3, b4, b5, b6, b7⟩ := hb
  unfold makeTail
  rw [hcl, hge]
  refine wpAny_bind (wpAny_pure ?_)
  cases clos with
  | nil =>
    simp only [List.isEmpty_nil, if_true]
    refine wpAny_bind (wpAny_pure (wpAny_bind (wpAny_functionCode_hit hcode (C.code hP ht) hf ?_)))
    exact wpAny_bind (wpAny_builtinsFor hg b1 b2 b4 b5 b6 b7 (wpAny_bind (wpAny_nsGet hg (wpAny_bind (wpAny_pure (wpAny_newObj_type (h .none s.heap s.toks (fun _ _ e => e) (Nat.le_refl _)) (by size_fits)))))))
  | cons q r =>
    simp only [List.isEmpty_cons, Bool.false_eq_true, if_false]
    refine wpAny_bind (wpAny_newTextTuple (wpAny_bind (wpAny_functionCode_hit hcode ((C.keeps fun b o e => Heap.get?_push_of_some _ e).code (Heap.get?_push_of_some _ hP) ht) hf ?_)))
    have hz : ∀ oT : Obj, s.heap.objs.size ≤ (s.heap.push oT).objs.size := fun oT => by rw [Heap.size_push]; omega
    exact wpAny_bind (wpAny_builtinsFor (hg.push _) b1 b2 (Heap.get?_push_of_some _ b4) b5 b6 b7 (wpAny_bind (wpAny_nsGet (hg.push _) (wpAny_bind (wpAny_pure (wpAny_newObj_type (h _ _ s.toks (fun b o e => Heap.get?_push_of_some _ e) (hz _)) (by size_fits)))))))
/-- no default -/
theorem lam_eval0 (hd : defaultsOf ps env = ([], [])) (h : wpAny M A (makeTail "<lambda>" (env.qual ++ "<lambda>") ps (.expr e) sc env .none .none none pos pos.line) Q E s) : wpAny M A (eval (.Lambda ps e sc pos) env) Q E s := by
  rw [arm_eval_Lambda, hd]
  show wpAny M A (do let dv ← evalAll []; let kdv ← holding dv (evalAllOpt []); makeFunction "<lambda>" (env.qual ++ "<lambda>") ps (.expr e) sc env dv kdv [] pos pos.line) Q E s
  refine wpAny_bind (wpAny_pure (wpAny_bind (wpAny_holding (wpAny_pure ?_))))
  rw [makeFunction_eq]
  simp only [List.zip_nil_right, List.filterMap_nil, List.isEmpty_nil, if_true, pure_bind]
  exact h
/-- one default, a written whole number -/
theorem lam_eval1 {i : Int} {k : Nat} {p' : Pos} (hd : defaultsOf ps env = ([eval (.Constant (.int i) k p') env], []))
    (h : ∀ t, wpAny M A (makeTail "<lambda>" (env.qual ++ "<lambda>") ps (.expr e) sc env (.ref s.heap.objs.size) .none none pos pos.line) Q E { s with heap := s.heap.push { cls := .type "tuple", data := .seq [Value.int i t].toArray }, toks := s.toks + 1 }) :
    wpAny M A (eval (.Lambda ps e sc pos) env) Q E s := by
  rw [arm_eval_Lambda, hd]
  show wpAny M A (do let dv ← evalAll [eval (.Constant (.int i) k p') env]; let kdv ← holding dv (evalAllOpt []); makeFunction "<lambda>" (env.qual ++ "<lambda>") ps (.expr e) sc env dv kdv [] pos pos.line) Q E s
  refine wpAny_bind ?_
  show wpAny M A (do let v ← eval (.Constant (.int i) k p') env; return v :: (← holding [v] (evalAll []))) _ E s
  refine wpAny_bind (wpAny_Constant_int (wpAny_bind (wpAny_holding (wpAny_pure (wpAny_pure (wpAny_bind (wpAny_holding (wpAny_pure ?_))))))))
  rw [makeFunction_eq]
  simp only [List.zip_nil_right, List.filterMap_nil, List.isEmpty_nil, List.isEmpty_cons, Bool.false_eq_true, if_false, if_true, pure_bind]
  exact wpAny_bind (wpAny_newTextTuple (h _))
end
end K21
/-! K21D: contracts of callables. -/
namespace K21
open PySem PySem.Spec PyProof.Rows L2 LamX NdefX
/-- what is asked ahead of a call: arguments, the wish about exceptions, the heap, the wanted end -/
abbrev Tl := List V → XK → Hp → VK → Prop
/-- frames that came since -/
def NewFr (l0 l : List Env) (h0 : Heap) : Prop := ∀ b ∈ frs l, b ∈ frs l0 ∨ h0.get? b = none
/-- calling f is worth tl, from every state that is reached from (h0, H0), the frames l0 running -/
structure CallOk (P : Program) (w : World) (K : PySem.W.Frag) (mg : Str → Option Value) (base : Heap) (k : Nat) (l0 : List Env) (h0 : Heap) (H0 : Hp) (f : Addr) (tl : Tl) : Prop where
  fn : ∀ (h : Heap) (H : Hp) (vs : List V) (E : XK) (Q : VK), HOk P w H h → tl vs E H Q → PySem.W.FnAt f h
  run : ∀ (A : Around) (outer : List Env) (s : Shared) (H : Hp) (us : List Value) (vs : List V) (Q : VK) (E : XK), Room k A → Env0 P w K mg base A outer s H → NewFr l0 outer h0 → Un (frs l0) [] H0 H h0 s.heap → Vals vs us → tl vs E H Q →
    codeAny (model P w) A (.call (.ref f) ⟨us, []⟩) (CR (L2.CX P w) outer P w H s Q E) s
section
variable {P : Program} {w : World} {K : PySem.W.Frag} {mg : Str → Option Value} {base : Heap} {k j : Nat} {l0 l1 : List Env} {h0 h1 h2 : Heap} {H0 H1 H2 : Hp} {f : Addr} {tl tl' : Tl}
theorem NewFr.trans (a : NewFr l0 l1 h0) {l2 : List Env} (b : NewFr l1 l2 h1) (u : Un (frs l0) [] H0 H1 h0 h1) : NewFr l0 l2 h0 := fun x hx => by
  rcases b x hx with h | h
  · exact a x h
  · cases e : h0.get? x with
    | none => exact .inr rfl
    | some o =>
      obtain ⟨o', e'⟩ := u.there x o e (by simp)
      rw [h] at e'
      cases e'
theorem un_shift (n : NewFr l0 l1 h0) (u : Un (frs l0) [] H0 H1 h0 h1) (v : Un (frs l1) [] H1 H2 h1 h2) : Un (frs l0) [] H0 H2 h0 h2 where
  keep := fun b o e m hb hx => v.keep b o (u.keep b o e m hb hx) (u.free b o e m hx) (fun z => by
    rcases n b z with q | q
    · exact hb q
    · rw [e] at q
      cases q) hx
  slot := fun b o e m hb hx => by
    obtain ⟨sl, e1⟩ := u.slot b o e m hb hx
    obtain ⟨sl2, e2⟩ := v.any e1 (u.free b o e m hx) hx
    exact ⟨sl2, e2⟩
  free := fun b o e m hx => by
    obtain ⟨o', e1⟩ := u.there b o e hx
    exact v.free b o' e1 (u.free b o e m hx) hx
  there := fun b o e hx => by
    obtain ⟨o', e1⟩ := u.there b o e hx
    exact v.there b o' e1 hx
  tups := fun b xs e => v.tups b xs (u.tups b xs e)
  frzs := fun b o x e => v.frzs b o x (u.frzs b o x e)
  tbls := fun b ps e => by
    obtain ⟨m1, e1⟩ := u.tbls b ps e
    obtain ⟨m2, e2⟩ := v.tbls b _ e1
    exact ⟨m1 ++ m2, by rw [e2, Array.append_assoc]⟩
theorem CallOk.shift (c : CallOk P w K mg base k l0 h0 H0 f tl) (n : NewFr l0 l1 h0) (u : Un (frs l0) [] H0 H1 h0 h1) : CallOk P w K mg base k l1 h1 H1 f tl :=
  ⟨c.fn, fun A outer s H us vs Q E hr e0 nf v r q => c.run A outer s H us vs Q E hr e0 (n.trans nf u) (un_shift n u v) r q⟩
theorem CallOk.mono (c : CallOk P w K mg base j l0 h0 H0 f tl) (h : j ≤ k) : CallOk P w K mg base k l0 h0 H0 f tl :=
  ⟨c.fn, fun A outer s H us vs Q E hr e0 nf v r q => c.run A outer s H us vs Q E (hr.mono h) e0 nf v r q⟩
theorem CallOk.imp (c : CallOk P w K mg base k l0 h0 H0 f tl) (h : ∀ vs E H Q, tl' vs E H Q → tl vs E H Q) : CallOk P w K mg base k l0 h0 H0 f tl' :=
  ⟨fun hh H vs E Q hok q => c.fn hh H vs E Q hok (h _ _ _ _ q), fun A outer s H us vs Q E hr e0 nf v r q => c.run A outer s H us vs Q E hr e0 nf v r (h _ _ _ _ q)⟩
/-- a def that is handed callables: its promise speaks of their contracts -/
structure FnOkC (P : Program) (w : World) (K : PySem.W.Frag) (mg : Str → Option Value) (base : Heap) (j k : Nat) (f : Addr) (fd : FuncData) (ps : List Str) (sp : (Addr → Tl → Prop) → Sp) : Prop where
  len : ∀ C vs H Q E, sp C vs H Q E → vs.length = ps.length
  run : ∀ (A : Around) (outer : List Env) (s : Shared) (H : Hp) (args : Args) (us : List Value) (vs : List V) (Q : VK) (E : XK), Room k A → Env0 P w K mg base A outer s H → BindsTo s fd args (ps.zip us) → Vals vs us →
    sp (fun g tl => CallOk P w K mg base j outer s.heap H g tl) vs H Q E → codeAny (model P w) A (.call (.ref f) args) (CR (L2.CX P w) outer P w H s Q E) s
theorem FnOkC.mono {i : Nat} {fd : FuncData} {ps : List Str} {sp : (Addr → Tl → Prop) → Sp} (F : FnOkC P w K mg base j i f fd ps sp) (h : i ≤ k) : FnOkC P w K mg base j k f fd ps sp :=
  ⟨F.len, fun A outer s H args us vs Q E hr => F.run A outer s H args us vs Q E (hr.mono h)⟩
end
/-- in a body: a callable that was there at its entry -/
abbrev CallAt (X : Cx) (j : Nat) (f : Addr) (tl : Tl) : Prop := CallOk X.prog X.w X.K X.mg X.base j X.outer X.s_0.heap X.H_0 f tl
/-- a callable that the body knows now -/
def LamAt (X : Cx) (j : Nat) (σ : L2.St) (H : Hp) (f : Addr) (tl : Tl) : Prop := ∀ pins s, Inv X pins σ H s → CallOk X.prog X.w X.K X.mg X.base j X.stack s.heap H f tl
/-- a body of a def or a lambda: its own frame on top, no iterator of others -/
structure Plain (X : Cx) : Prop where
  stk : X.stack = X.env :: X.outer
  fr : X.env.frame = some X.env.locals
  ex : X.ex = []
section
variable {X : Cx} {pins : List (Addr × Obj)} {σ : L2.St} {H : Hp} {s : Shared} {j k : Nat} {f : Addr} {tl : Tl}
theorem inv_newFr (p : Plain X) (I : Inv X pins σ H s) : NewFr X.outer X.stack X.s_0.heap := fun b hb => by
  rw [p.stk] at hb
  have hb2 : b ∈ X.env.locals :: frs X.outer := by
    unfold frs at hb ⊢
    rw [List.filterMap_cons, p.fr] at hb
    exact hb
  rcases List.mem_cons.mp hb2 with e | h
  · right
    rw [e]
    exact Heap.get?_none_of_le I.ok.above
  · exact .inl h
theorem inv_unE (p : Plain X) (I : Inv X pins σ H s) : Un (frs X.outer) [] X.H_0 H X.s_0.heap s.heap := by
  have u := I.base
  rw [p.ex] at u
  exact u
theorem inv_callNow (p : Plain X) (I : Inv X pins σ H s) (c : CallAt X j f tl) : CallOk X.prog X.w X.K X.mg X.base j X.stack s.heap H f tl := c.shift (inv_newFr p I) (inv_unE p I)
theorem lamAt_callAt (p : Plain X) (c : CallAt X j f tl) : LamAt X j σ H f tl := fun _ _ I => inv_callNow p I c
/-- running it -/
theorem run_callable {us : List Value} {vs : List V} {Q : VK} {E : XK} (c : CallOk X.prog X.w X.K X.mg X.base j X.stack s.heap H f tl) (hr : Room k X.A) (hk : j ≤ k) (hx : Passes (L2.CX X.prog X.w) X E) (I : Inv X pins σ H s) (r : Vals vs us) (q : tl vs E H Q) :
    wpAny (model X.prog X.w) X.A (call (.ref f) us) (EP X pins σ Q) X.xe s := by
  refine wpAny_call (codeAny_mono (c.run X.A X.stack s H us vs Q E (hr.mono hk) I.env0 (fun b hb => .inl hb) Un.refl r q) fun z s' hq => ?_)
  cases z with
  | error e => exact hx pins σ H s e s' I hq
  | ok fl =>
    cases fl with
    | ret u => exact I.after hq
    | next => exact False.elim hq
    | brk => exact False.elim hq
    | cont => exact False.elim hq
theorem run_fnc {fd : FuncData} {ps : List Str} {sp : (Addr → Tl → Prop) → Sp} {args : Args} {us : List Value} {vs : List V} {Q : VK} {E : XK} (F : FnOkC X.prog X.w X.K X.mg X.base j k f fd ps sp) (hr : Room k X.A) (hx : Passes (L2.CX X.prog X.w) X E) (I : Inv X pins σ H s) (hb : BindsTo s fd args (ps.zip us)) (r : Vals vs us)
    (q : ∀ C : Addr → Tl → Prop, (∀ g tl, LamAt X j σ H g tl → C g tl) → sp C vs H Q E) : wpAny (model X.prog X.w) X.A (runValue (.call (.ref f) args)) (EP X pins σ Q) X.xe s := by
  refine wpAny_call (codeAny_mono (F.run X.A X.stack s H args us vs Q E hr I.env0 hb r (q _ fun g tl l => l pins s I)) fun z s' hq => ?_)
  cases z with
  | error e => exact hx pins σ H s e s' I hq
  | ok fl =>
    cases fl with
    | ret u => exact I.after hq
    | next => exact False.elim hq
    | brk => exact False.elim hq
    | cont => exact False.elim hq
end
/-! ### calls -/
/-- f(..), f a def that is handed callables; dvs the defaults that fill up -/
def tCallC (X : Cx) (j : Nat) (sp : (Addr → Tl → Prop) → Sp) (dvs : List V) (E : XK) (t : TA) : TE := fun σ H Q => t σ H fun vs H1 => ∀ C : Addr → Tl → Prop, (∀ g tl, LamAt X j σ H1 g tl → C g tl) → sp C (vs ++ dvs) H1 Q E
/-- x(..), x a name (slot i) that holds a callable -/
def tCallF (X : Cx) (i j : Nat) (E : XK) (t : TA) : TE := fun σ H Q => ∃ f tl, σ[i]? = some (some (.ref f)) ∧ CallAt X j f tl ∧ t σ H fun vs H1 => tl vs E H1 Q
theorem callWith_fn {M : Model} {A : Around} {E : Value → Shared → Prop} {s : Shared} {env : Env} {pos : Pos} {q : Addr} {Q : Value → Shared → Prop} {e : Expr} {rest : List Expr}
    (h : wpAny M A (spliced (backTo pos (starEach (e :: rest) env))) (fun vs s₁ => PySem.W.FnAt q s₁.heap ∧ wpAny M A (call (.ref q) ([] ++ vs)) Q E s₁) E s)
    (he : starEach (e :: rest) env = (false, eval e env) :: starEach rest env := by rfl) (hpl : (backTo pos (starEach rest env)).any (·.1) = false := by rfl) :
    wpAny M A (callWith pos (.ref q) [] (backTo pos (starEach (e :: rest) env)) []) Q E s := by
  rw [he] at h ⊢
  exact PySem.W.callWith_of (by show ((false || (backTo pos (starEach rest env)).any (·.1)) || false) = false; rw [hpl]; rfl) PySem.W.keeps_F (PySem.Calls.evalArgs_plain h)
section
variable {X : Cx} {j k i : Nat} {f : Addr} {fd : FuncData} {ps : List Str} {sp : (Addr → Tl → Prop) → Sp} {dvs : List V} {ds : List Value} {E : XK} {x : Str} {p pos : Pos} {e : Expr} {es : List Expr} {t : TA}
theorem pe_callC (F : FnOkC X.prog X.w X.K X.mg X.base j k f fd ps sp) (hr : Room k X.A) (hg : Gl X x) (hm : X.mg x = some (.ref f)) (hk : PySem.W.keepIn X.K (.ref f) = true) (hb : Binds X.K fd ps ds) (hd : Vals dvs ds) (hx : Passes (L2.CX X.prog X.w) X E)
    (ha : PA X (e :: es) t) (hdb : (x == ("__debug__" : Str)) = false := by decide) (he : starEach (e :: es) X.env = (false, eval e X.env) :: starEach es X.env := by rfl) (hpl : (backTo pos (starEach es X.env)).any (·.1) = false := by rfl) :
    PE X (.Call (.Name x p) (e :: es) [] pos) (tCallC X j sp dvs E t) := by
  refine ⟨fun pins s σ H Q I h => ?_⟩
  refine wpAny_Call_Name_kw (ld_glob I hg hm ?_ hdb)
  refine PySem.W.callWith_K (h₀ := X.base) I.ok.mod.kin hk (thn (ha.run pos pins s σ H _ I h) fun us s1 ⟨vs, H1, I1, r1, q1⟩ => ⟨I1.kIn, ?_⟩) he hpl
  have r2 : Vals (vs ++ dvs) (us ++ ds) := r1.append hd
  have hC := fun C hC => q1 C hC
  have hl : (us ++ ds).length = ps.length := by rw [← r2.length]; exact F.len _ _ _ _ _ (hC (fun _ _ => True) fun _ _ _ => trivial)
  exact run_fnc (args := ⟨us, []⟩) F hr hx I1 (hb s1 us I1.kIn hl) r2 hC
theorem pe_callF (pl : Plain X) (hr : Room k X.A) (hk : j ≤ k) (hx : Passes (L2.CX X.prog X.w) X E) (hN : X.N[i]? = some x) (hv : Vis X.env.scope x) (ha : PA X (e :: es) t)
    (hd : (x == ("__debug__" : Str)) = false := by decide) (hcd : (x == ("__classdict__" : Str)) = false := by decide)
    (he : starEach (e :: es) X.env = (false, eval e X.env) :: starEach es X.env := by rfl) (hpl : (backTo pos (starEach es X.env)).any (·.1) = false := by rfl) :
    PE X (.Call (.Name x p) (e :: es) [] pos) (tCallF X i j E t) := by
  refine ⟨fun pins s σ H Q I h => ?_⟩
  obtain ⟨f, tl, hs, c, ht⟩ := h
  refine wpAny_Call_Name_kw (thn ((pe_var (pos := p) hN hv hd hcd).run pins s σ H (fun v H1 => v = .ref f ∧ H1 = H) I ⟨.ref f, hs, rfl, rfl⟩) fun u s1 ⟨v, H1, I1, r1, q1⟩ => ?_)
  obtain ⟨ev, eH⟩ := q1
  subst ev
  rw [eH] at I1
  obtain rfl : u = Value.ref f := r1
  refine callWith_fn (thn (ha.run pos pins s1 σ H _ I1 ht) fun us s2 ⟨vs, H2, I2, r2, q2⟩ => ⟨c.fn _ H2 vs E Q I2.hok q2, ?_⟩) he hpl
  exact run_callable (inv_callNow pl I2 c) hr hk hx I2 r2 q2
theorem pe_callF0 (pl : Plain X) (hr : Room k X.A) (hk : j ≤ k) (hx : Passes (L2.CX X.prog X.w) X E) (hN : X.N[i]? = some x) (hv : Vis X.env.scope x)
    (hd : (x == ("__debug__" : Str)) = false := by decide) (hcd : (x == ("__classdict__" : Str)) = false := by decide) :
    PE X (.Call (.Name x p) [] [] pos) (tCallF X i j E tNil) := by
  refine ⟨fun pins s σ H Q I h => ?_⟩
  obtain ⟨f, tl, hs, c, ht⟩ := h
  refine wpAny_Call_Name_kw (thn ((pe_var (pos := p) hN hv hd hcd).run pins s σ H (fun v H1 => v = .ref f ∧ H1 = H) I ⟨.ref f, hs, rfl, rfl⟩) fun u s1 ⟨v, H1, I1, r1, q1⟩ => ?_)
  obtain ⟨ev, eH⟩ := q1
  subst ev
  rw [eH] at I1
  obtain rfl : u = Value.ref f := r1
  have q2 : tl [] E H Q := ht
  exact PySem.W.callWith_F0 (c.fn _ H [] E Q I1.hok q2) (run_callable (inv_callNow pl I1 c) hr hk hx I1 .nil q2)
end
/-- a def of the text that is handed callables, by its body -/
theorem fnc_of {P : Program} {w : World} {K : PySem.W.Frag} {mg : Str → Option Value} {base : Heap} {x qual : Str} {params : Arguments} {body : List Stmt} {scope : Scope} {dvs : List V} {kws : List (Str × V)} {f : Addr} {fd : FuncData} {N ps : List Str} {j k : Nat} {sp : (Addr → Tl → Prop) → Sp}
    (F : FunD K x qual params body scope dvs kws f fd) (S : FnScope N ps scope) (len : ∀ C vs H Q E, sp C vs H Q E → vs.length = ps.length)
    (hbody : ∀ (cdv : Value) (A : Around) (outer : List Env) (s : Shared) (H : Hp) (vs : List V) (Q : VK) (E : XK), Room k (A.deeper (envOfC qual scope s.heap.objs.size f cdv)) → sp (CallAt (cxOf (L2.CX P w) P w K mg base N qual scope f cdv A outer s H E) j) vs H Q E →
      ∃ t, PSs (cxOf (L2.CX P w) P w K mg base N qual scope f cdv A outer s H E) body t ∧ t { nx := fun _ H' => Q .non H', rt := Q } (L2.start N vs) H) : FnOkC P w K mg base j (k + 1) f fd ps sp := by
  obtain ⟨oc, od, dV, kV, doc, pm, an, cdv, ct, osl, rfl, lk, hcd, _⟩ := F.ex
  exact ⟨len, fun A outer s H args us vs Q E hr e0 hb r q => run_ofS lk hcd S hr e0 hb r (len _ _ _ _ _ q) fun hr' => hbody cdv A outer s H vs Q E hr' q⟩
/-! ### lambdas -/
structure LF where
  qual : Str
  ps : Arguments
  body : Expr
  sc : Scope
  cl : List (Str × Addr)
  dV : Value
  c : Addr
abbrev LF.nf (L : LF) : NF := ⟨"<lambda>", L.qual, L.ps, [], L.sc, L.cl, L.c⟩
/-- the object at f is the lambda L -/
def LmO (f : Addr) (L : LF) : HO := .ext fun h => ∃ (od : Option Addr) (sl : Array (Option Value)) (pm ctv : Value), h.get? f = some (⟨.type "function", od, .func (lamFd L.qual L.ps L.body L.sc L.cl L.dV pm (.ref L.c) ctv), sl⟩ : Obj)
theorem lmO_ne {f : Addr} {L : LF} (ps : Array Value) : LmO f L ≠ .tbl ps := fun z => by
  unfold LmO at z
  cases z
theorem lmO_at {P : Program} {w : World} {H : Hp} {h : Heap} {f : Addr} {L : LF} (hok : HOk P w H h) (e : H f = some (LmO f L)) : ∃ (od : Option Addr) (sl : Array (Option Value)) (pm ctv : Value), h.get? f = some (⟨.type "function", od, .func (lamFd L.qual L.ps L.body L.sc L.cl L.dV pm (.ref L.c) ctv), sl⟩ : Obj) := by
  obtain ⟨z, _, _⟩ := hok f _ e
  exact z
theorem cellsAt_un {cl : List (Str × Addr)} {fr : List Str} {ws : List (Option V)} {h h' : Heap} {H H' : Hp} {l : List Addr} (C : CellsAt cl fr ws h H) (u : Un l [] H H' h h') : CellsAt cl fr ws h' H' := by
  have kp : ∀ y c, cl.lookup y = some c → ∀ v, h.IsCell c v → h'.IsCell c v := fun y c e v ⟨o, ho, hd⟩ => by
    obtain ⟨sl, e1⟩ := u.any ho (C.all y c e).1 (by simp)
    exact ⟨_, e1, hd⟩
  refine ⟨C.len, fun y c e => ?_, C.inj, fun i y e => ?_⟩
  · obtain ⟨n, v, z⟩ := C.all y c e
    obtain ⟨o, ho, _⟩ := id z
    exact ⟨u.free c o ho n (by simp), v, kp y c e v z⟩
  · obtain ⟨c, hc, hv⟩ := C.has i y e
    exact ⟨c, hc, fun v ev => (hv v ev).imp fun u' z => ⟨z.1, kp y c hc _ z.2⟩⟩
/-- what a lambda asks ahead of its body: itself, its code object, its default (in D), then the body's reading t -/
def lamTl (f : Addr) (L : LF) (n : Nat) (D : Hp → Prop) (full : List V → List V) (N : List Str) (ws : List (Option V)) (t : XK → TE) : Tl := fun vs E H Q =>
  H f = some (LmO f L) ∧ H L.c = some (CodeO L.c L.qual) ∧ vs.length = n ∧ D H ∧ t E (startF N (full vs) ws) H Q
section
variable {P : Program} {w : World} {K : PySem.W.Frag} {mg : Str → Option Value} {base : Heap} {k : Nat} {l0 : List Env} {h0 : Heap} {H0 : Hp} {f : Addr} {L : LF} {N ps fr : List Str} {n : Nat} {D : Hp → Prop} {full : List V → List V} {ws : List (Option V)} {t : XK → TE}
theorem lam_ok (S : NScope N ps fr L.sc) (C : CellsAt L.cl fr ws h0 H0) (hfull : ∀ vs : List V, vs.length = n → (full vs).length = ps.length)
    (hb : ∀ (pm ctv : Value) (s : Shared) (H : Hp) (us : List Value) (vs : List V), HOk P w H s.heap → D H → Vals vs us → vs.length = n → ∃ us2, Vals (full vs) us2 ∧ BindsTo s (lamFd L.qual L.ps L.body L.sc L.cl L.dV pm (.ref L.c) ctv) ⟨us, []⟩ (ps.zip us2))
    (hbody : ∀ (A : Around) (outer : List Env) (s : Shared) (H : Hp) (E : XK), Room k (A.deeper (envF L.nf f s.heap.objs.size)) → NewFr l0 outer h0 → Un (frs l0) [] H0 H h0 s.heap → PE (ncx (L2.CX P w) P w K mg base N L.nf f A outer s H E) L.body (t E)) :
    CallOk P w K mg base (k + 1) l0 h0 H0 f (lamTl f L n D full N ws t) := by
  refine ⟨fun h H vs E Q hok q => ?_, fun A outer s H us vs Q E hr e0 nf un r q => ?_⟩
  · obtain ⟨od, sl, pm, ctv, ho⟩ := lmO_at hok q.1
    exact ⟨_, od, _, sl, ho⟩
  · obtain ⟨hf, hc, hn, hD, hq⟩ := q
    have lim : s.heap.NoLimit := e0.mod.nolimit.keeps fun b o e => (e0.bs b o e).1
    obtain ⟨od, sl, pm, ctv, ho⟩ := lmO_at e0.hok hf
    obtain ⟨us2, r2, hbd⟩ := hb pm ctv s H us vs e0.hok hD r hn
    have hl : (full vs).length = ps.length := hfull vs hn
    refine PySem.W.kla_callFunE hr.depth ho rfl S.co S.gen rfl (codeO_at e0.hok hc) (hbd _ _ _ _ ?_)
    refine wpAny_newFunctionEnv S.nocell (fun ⟨x, _⟩ hy => S.par x (List.of_mem_zip hy).1) (fun h₁ hns hsb => ⟨lim.fresh _ hsb, ?_⟩) S.kind
    show codeAny _ _ (.expr L.body (envF L.nf f s.heap.objs.size)) _ _
    have kp : ∀ b o, s.heap.get? b = some o → h₁.get? b = some o := fun b o e => hsb.extBut b o (Nat.ne_of_lt (Heap.lt_size e)) (Heap.get?_push_of_some _ e)
    have J : Inv (ncx (L2.CX P w) P w K mg base N L.nf f A outer s H E) [] (startF N (full vs) ws) H { s with heap := h₁, toks := s.toks + (ps.zip us2).length } := inv_startN (F := L.nf) S hr.hd e0 hl r2 (cellsAt_un C un) hns kp
    refine PySem.W.kla_codeExpr (wpAny_mono ((hbody A outer s H E (hr.deeper _) nf un).run [] _ _ H Q J hq) (fun v s' hq => ?_) fun e s' hq => hq)
    obtain ⟨w', H', J', rv, q⟩ := hq
    exact ⟨w', H', J'.os, J'.bare, J'.base, J'.hok, rv, q⟩
end
end K21
/-! K21L: a lambda as an expression; its contract in the frame that makes it. -/
namespace K21
open PySem PySem.Spec PyProof.Rows L2 LamX NdefX
section
variable {X : Cx} {pins : List (Addr × Obj)} {σ : L2.St} {H : Hp} {s : Shared}
theorem inv_lam {L : LF} {t' : Nat} {pm ctv : Value} (I : Inv X pins σ H s) :
    Inv X pins σ (upd H s.heap.objs.size (LmO s.heap.objs.size L)) { s with heap := s.heap.push { cls := .type "function", data := .func (lamFd L.qual L.ps L.body L.sc L.cl L.dV pm (.ref L.c) ctv) }, toks := t' } := by
  refine I.laid (a := s.heap.objs.size) (fun b u e => Heap.get?_push_of_some _ e) (Nat.le_refl _) ?_
  have e : (s.heap.push ({ cls := .type "function", data := .func (lamFd L.qual L.ps L.body L.sc L.cl L.dV pm (.ref L.c) ctv) } : Obj)).get? s.heap.objs.size = some ({ cls := .type "function", data := .func (lamFd L.qual L.ps L.body L.sc L.cl L.dV pm (.ref L.c) ctv) } : Obj) := Heap.get?_push_size _ rfl
  exact ⟨⟨_, _, pm, ctv, e⟩, ⟨_, e⟩, fun h1 h2 ⟨od, sl, p, t, z⟩ st => ⟨od, sl, p, t, st _ z⟩⟩
/-- what is known behind the making of a lambda -/
def LamNew (T : List (Addr × Str)) (H H1 : Hp) (f c' : Addr) (L : LF) : Prop :=
  ExtN H H1 ∧ (∀ b, H1 b = Option.none → H b = Option.none) ∧ Tabs T H1 ∧ H f = none ∧ H1 f = some (LmO f L) ∧ H1 c' = some (CodeO c' L.qual)
theorem lam_laid {T : List (Addr × Str)} {c P : Addr} {ps : Arguments} {e : Expr} {sc : Scope} {pos : Pos} {dV : Value} {E : Value → Shared → Prop} {Q : Value → Shared → Prop} (I : Inv X pins σ H s) (TB : TabB X.base X.mg c P) (hcode : X.env.code = .ref c)
    (hm : (P, X.env.qual ++ "<lambda>") ∈ T) (hu : ∀ p ∈ T, p.1 = P → p.2 = X.env.qual ++ "<lambda>") (hT : Tabs T H) (hfree : ∀ y ∈ sc.names, y.2 = .free → ∃ c, X.env.cells.lookup y.1 = some c)
    (h : ∀ (f c' : Addr) (H1 : Hp) (s' : Shared), Inv X pins σ H1 s' → LamNew T H H1 f c' ⟨X.env.qual ++ "<lambda>", ps, e, sc, cloFrom X.env.cells sc.names [], dV, c'⟩ → Q (.ref f) s') :
    wpAny (model X.prog X.w) X.A (makeTail "<lambda>" (X.env.qual ++ "<lambda>") ps (.expr e) sc X.env dV .none none pos pos.line) Q E s := by
  obtain ⟨tb, hP, ht, ha⟩ := hT _ hm
  have bP : s.heap.BuiltinsAt X.mg P := TB.bm.keeps I.bk
  have hP' : s.heap.get? P = some { cls := .none, data := .fields tb } := I.hok P _ hP
  cases hc : codeAmong pos tb.toList with
  | none =>
    refine lamTail_new (mg := X.mg) (c := c) (P := P) (tb := tb) (closure_ok hfree) I.ok.glob (I.mod.glob.keeps I.bk) hcode (TB.code.keeps I.bk) hP' ht hc TB.gP bP fun c' ctv h' tk hx hge hlt hrec htb => ?_
    obtain ⟨c2, oc, vs, t, e2, hoc, hd, hv⟩ := hrec
    cases e2
    have nC : H c' = none := I.hok.fresh hge
    have I1 := inv_table (t' := tk) (more := #[rawInt pos.line, rawInt pos.col, .ref c']) (h' := h') I hP (fun b o hb e => hx b o hb e) htb hge ⟨oc, vs, t, hoc, hd, hv⟩
    have hE : ExtN H (upd (upd H P (.tbl (tb ++ #[rawInt pos.line, rawInt pos.col, .ref c']))) c' (CodeO c' (X.env.qual ++ "<lambda>"))) := fun b o e n => by
      rw [upd_ne (ne_of_none e nC), upd_ne (fun z => n tb (Option.some.inj (e.symm.trans (by rw [z]; exact hP))))]
      exact e
    have eL : (tb ++ #[rawInt pos.line, rawInt pos.col, .ref c']).toList = tb.toList ++ [rawInt pos.line, rawInt pos.col, .ref c'] := by simp
    have T1 : Tabs T (upd (upd H P (.tbl (tb ++ #[rawInt pos.line, rawInt pos.col, .ref c']))) c' (CodeO c' (X.env.qual ++ "<lambda>"))) := fun p hp => by
      by_cases hb : p.1 = P
      · rw [hu p hp hb, hb]
        refine ⟨_, by rw [upd_ne (ne_of_none hP nC), upd_same], by rw [eL]; exact PySem.TriplesOk_snoc _ _ _ _ ht, fun p' cv hcv => ?_⟩
        rw [eL] at hcv
        rcases among_app _ ht hcv with z | z
        · obtain ⟨c0, e1, e2⟩ := ha p' cv z
          exact ⟨c0, e1, hE _ _ e2 codeO_ne⟩
        · exact ⟨c', z, upd_same⟩
      · obtain ⟨ps', a1, a2, a3⟩ := hT p hp
        refine ⟨ps', by rw [upd_ne (ne_of_none a1 nC), upd_ne hb]; exact a1, a2, fun p' cv hcv => ?_⟩
        obtain ⟨c0, e1, e2⟩ := a3 p' cv hcv
        exact ⟨c0, e1, hE _ _ e2 codeO_ne⟩
    have nF := I1.hok.fresh (Nat.le_refl _)
    have I2 := inv_lam (L := ⟨X.env.qual ++ "<lambda>", ps, e, sc, cloFrom X.env.cells sc.names [], dV, c'⟩) (t' := tk) (pm := (X.mg "__name__").getD .none) (ctv := ctv) I1
    refine h h'.objs.size c' _ _ I2 ⟨fun b o e n => ?_, fun b e => upd_none (upd_none (upd_none e)), T1.ext fun b o e => ?_, I.hok.fresh (Nat.le_trans hge (Nat.le_of_lt hlt)), upd_same, ?_⟩
    · have e1 := hE b o e n
      exact (upd_ne (ne_of_none e1 nF)).trans e1
    · exact (upd_ne (ne_of_none e nF)).trans e
    · exact (upd_ne (Nat.ne_of_lt hlt)).trans upd_same
  | some cv =>
    obtain ⟨c', ev, hco⟩ := ha pos cv hc
    subst ev
    refine lamTail_hit (mg := X.mg) (c := c) (P := P) (tb := tb) (closure_ok hfree) I.ok.glob (I.mod.glob.keeps I.bk) hcode (TB.code.keeps I.bk) hP' ht hc bP fun ctv h' tk hx hsz => ?_
    have I1 : Inv X pins σ H { s with heap := h', toks := tk } := I.kept hx
    have nF : H h'.objs.size = none := I1.hok.fresh (Nat.le_refl _)
    have I2 := inv_lam (L := ⟨X.env.qual ++ "<lambda>", ps, e, sc, cloFrom X.env.cells sc.names [], dV, c'⟩) (t' := tk) (pm := (X.mg "__name__").getD .none) (ctv := ctv) I1
    refine h h'.objs.size c' _ _ I2 ⟨fun b o e n => ?_, fun b e => upd_none e, hT.ext fun b o e => ?_, nF, upd_same, ?_⟩
    · exact (upd_ne (ne_of_none e nF)).trans e
    · exact (upd_ne (ne_of_none e nF)).trans e
    · exact (upd_ne (ne_of_none hco nF)).trans hco
end
/-- a lambda without defaults -/
def tLam0 (T : List (Addr × Str)) (mk : Addr → LF) : TE := fun _ H Q => Tabs T H ∧ ∀ f c' H1, LamNew T H H1 f c' (mk c') → Q (.ref f) H1
/-- a lambda with one written default -/
def tLam1 (T : List (Addr × Str)) (i : Int) (mk : Addr → Addr → LF) : TE := fun _ H Q => Tabs T H ∧ ∀ d, H d = none → ∀ f c' H1, LamNew T (upd H d (.tup [.int i])) H1 f c' (mk d c') → Q (.ref f) H1
section
variable {X : Cx}
abbrev mkLF (X : Cx) (ps : Arguments) (e : Expr) (sc : Scope) (dV : Value) (c' : Addr) : LF := ⟨X.env.qual ++ "<lambda>", ps, e, sc, cloFrom X.env.cells sc.names [], dV, c'⟩
/-- the captured names are the maker's -/
def FreeIn (sc outer : Scope) : Prop := ∀ y ∈ sc.names, y.2 = .free → outer.names.lookup y.1 = some .cell ∨ outer.names.lookup y.1 = some .free
theorem FreeIn.has {sc : Scope} (h : FreeIn sc X.env.scope) (ok : X.Ok) : ∀ y ∈ sc.names, y.2 = .free → ∃ c, X.env.cells.lookup y.1 = some c := fun y hy e => (h y hy e).elim (fun z => ok.has _ (.inl z)) fun z => ok.has _ (.inr z)
theorem pe_lam0 {T : List (Addr × Str)} {c P : Addr} {ps : Arguments} {e : Expr} {sc : Scope} {pos : Pos} (TB : TabB X.base X.mg c P) (hcode : X.env.code = .ref c) (hm : (P, X.env.qual ++ "<lambda>") ∈ T) (hu : ∀ p ∈ T, p.1 = P → p.2 = X.env.qual ++ "<lambda>")
    (hfree : FreeIn sc X.env.scope) (hd : defaultsOf ps X.env = ([], []) := by rfl) : PE X (.Lambda ps e sc pos) (tLam0 T (mkLF X ps e sc .none)) := by
  refine ⟨fun pins s σ H Q I h => ?_⟩
  obtain ⟨hT, h⟩ := h
  exact lam_eval0 hd (lam_laid I TB hcode hm hu hT (hfree.has I.ok) fun f c' H1 s' I1 n => ⟨.ref f, H1, I1, rfl, h f c' H1 n⟩)
theorem pe_lam1 {T : List (Addr × Str)} {c P : Addr} {ps : Arguments} {e : Expr} {sc : Scope} {pos : Pos} {i : Int} {k : Nat} {p' : Pos} (TB : TabB X.base X.mg c P) (hcode : X.env.code = .ref c) (hm : (P, X.env.qual ++ "<lambda>") ∈ T) (hu : ∀ p ∈ T, p.1 = P → p.2 = X.env.qual ++ "<lambda>")
    (hfree : FreeIn sc X.env.scope) (hd : defaultsOf ps X.env = ([eval (.Constant (.int i) k p') X.env], []) := by rfl) : PE X (.Lambda ps e sc pos) (tLam1 T i fun d c' => mkLF X ps e sc (.ref d) c') := by
  refine ⟨fun pins s σ H Q I h => ?_⟩
  obtain ⟨hT, h⟩ := h
  refine lam_eval1 hd fun t => ?_
  have nd : H s.heap.objs.size = none := I.hok.fresh (Nat.le_refl _)
  have I1 : Inv X pins σ (upd H s.heap.objs.size (.tup [.int i])) { s with heap := s.heap.push { cls := .type "tuple", data := .seq [Value.int i t].toArray }, toks := s.toks + 1 } :=
    I.laid (fun b u e => Heap.get?_push_of_some _ e) (Nat.le_refl _) ⟨by show 1 ≤ sizeLine; decide, [Value.int i t], .cons ⟨t, rfl⟩ .nil, IsTup.new s.heap _⟩
  have T1 : Tabs T (upd H s.heap.objs.size (.tup [.int i])) := hT.ext fun b o e => by
    rw [upd_ne (ne_of_none e nd)]
    exact e
  exact lam_laid I1 TB hcode hm hu T1 (hfree.has I.ok) fun f c' H1 s' I2 n => ⟨.ref f, H1, I2, rfl, h _ nd f c' H1 n⟩
/-- the contract of a lambda that this frame has made; js: where its captured names stand -/
theorem lamAt_of {f : Addr} {σ : L2.St} {H0 : Hp} {ps : Arguments} {e : Expr} {sc : Scope} {dV : Value} {c' : Addr} {N lps fr : List Str} {js : List Nat} {n k : Nat} {D : Hp → Prop} {full : List V → List V} {t : XK → TE} (S : NScope N lps fr sc) (hfree : FreeIn sc X.env.scope)
    (hfr : ∀ y ∈ fr, (y, NameKind.free) ∈ sc.names) (hjs : js.map (fun j => X.N[j]?) = fr.map some) (hfull : ∀ vs : List V, vs.length = n → (full vs).length = lps.length)
    (hb : ∀ (pm ctv : Value) (s : Shared) (H : Hp) (us : List Value) (vs : List V), HOk X.prog X.w H s.heap → D H → Vals vs us → vs.length = n → ∃ us2, Vals (full vs) us2 ∧ BindsTo s (lamFd (X.env.qual ++ "<lambda>") ps e sc (cloFrom X.env.cells sc.names []) dV pm (.ref c') ctv) ⟨us, []⟩ (lps.zip us2))
    (hbody : ∀ (pins : List (Addr × Obj)) (s0 : Shared), Inv X pins σ H0 s0 → ∀ (A : Around) (outer : List Env) (s : Shared) (H : Hp) (E : XK), Room k (A.deeper (envF (mkLF X ps e sc dV c').nf f s.heap.objs.size)) → NewFr X.stack outer s0.heap → Un (frs X.stack) [] H0 H s0.heap s.heap →
      PE (ncx (L2.CX X.prog X.w) X.prog X.w X.K X.mg X.base N (mkLF X ps e sc dV c').nf f A outer s H E) e (t E)) :
    LamAt X (k + 1) σ H0 f (lamTl f (mkLF X ps e sc dV c') n D full N (js.map (slotAt σ)) t) := fun pins s I =>
  lam_ok (L := mkLF X ps e sc dV c') S (cells_of I (Caps.made I.ok hfree hfr hjs)) hfull hb (hbody pins s I)
/-- every parameter is given -/
theorem lam_bind0 {P : Program} {w : World} {q : Str} {ps : Arguments} {e : Expr} {sc : Scope} {cl : List (Str × Addr)} {cv : Value} {lps : List Str} (h : ∀ (pm ctv : Value) (us : List Value), us.length = lps.length → bindArgs (lamFd q ps e sc cl .none pm cv ctv) ⟨us, []⟩ = pure (lps.zip us)) :
    ∀ (pm ctv : Value) (s : Shared) (H : Hp) (us : List Value) (vs : List V), HOk P w H s.heap → True → Vals vs us → vs.length = lps.length → ∃ us2, Vals (id vs) us2 ∧ BindsTo s (lamFd q ps e sc cl .none pm cv ctv) ⟨us, []⟩ (lps.zip us2) :=
  fun pm ctv s H us vs _ _ r hl => ⟨us, r, .of_eq (h pm ctv us (by rw [← r.length]; exact hl))⟩
/-- none is given, the one default stands in -/
theorem lam_bind1 {P : Program} {w : World} {q : Str} {ps : Arguments} {e : Expr} {sc : Scope} {cl : List (Str × Addr)} {cv : Value} {x : Str} {d : Addr} {i : Int}
    (h : ∀ (pm ctv u : Value), ∃ k, bindArgs (lamFd q ps e sc cl (.ref d) pm cv ctv) ⟨[], []⟩ = seqItems? (.ref d) >>= k ∧ k (some #[u]) = pure [(x, u)]) :
    ∀ (pm ctv : Value) (s : Shared) (H : Hp) (us : List Value) (vs : List V), HOk P w H s.heap → H d = some (.tup [.int i]) → Vals vs us → vs.length = 0 → ∃ us2, Vals ((fun _ => [V.int i]) vs) us2 ∧ BindsTo s (lamFd q ps e sc cl (.ref d) pm cv ctv) ⟨us, []⟩ ([x].zip us2) :=
  fun pm ctv s H us vs hok hd r hl => by
    obtain rfl : vs = [] := List.length_eq_zero_iff.mp hl
    cases r
    obtain ⟨_, its, rv, o, ho, hc, n, hdat⟩ := hok d _ hd
    obtain ⟨u, rfl, ru⟩ := vals1 rv
    obtain ⟨k, e1, e2⟩ := h pm ctv u
    refine ⟨[u], .cons ru .nil, fun M A E Q hq => ?_⟩
    rw [e1]
    refine wpAny_bind ?_
    unfold seqItems?
    refine wpAny_bind (wpAny_load ho ?_)
    rw [hdat]
    refine wpAny_pure ?_
    show wpAny M A (k (some #[u])) Q E s
    rw [e2]
    exact wpAny_pure hq
end
end K21
/-! K21W: with x as y: body, the body may raise; __exit__ hands back False. -/
namespace PySem.W
open PySem PySem.Calls PyProof.Rows
section
variable {prog : Program} {w : World} {M : Model} {A : Around} {E : Value → Shared → Prop} {s : Shared} {env : Env} {K : Frag} {x C L fe fx : Addr} {ox : Obj} {od : Option Obj} {pos : Pos}
/-- what comes behind an error of the block -/
def WErr (prog : Program) (w : World) (A : Around) (env : Env) (E : Value → Shared → Prop) (x fx : Addr) (Q : Flow → Shared → Prop) (e : Value) (s : Shared) : Prop :=
  ∃ a, e = .ref a ∧ wpAny (model prog w) A (noteFrame e env) (fun _ s1 => wpAny (model prog w) A (setFlight e none) (fun _ s2 => wpAny (model prog w) A (typeOf e) (fun c s3 => wpAny (model prog w) A (tracebackOf e) (fun tb s4 =>
    codeAny (model prog w) (A.mark (some e)) (.call (.ref fx) ⟨[.ref x, c, e, tb], []⟩) (fun r s5 => match r with
      | .ok (.ret v) => v = .bool false ∧ wpAny (model prog w) A (passOn "with" e env : Sem Flow) Q E s5
      | _ => False) s4) E s3) E s2) E s1) E s
theorem with_core {b : Value → Sem Unit} {bdy : Sem Flow} {Q : Flow → Shared → Prop} (X : K.In s.heap) (I : InstAt s.heap x ox C od) (he : findIn K (.ref C) "__enter__" = some (some (.ref fe))) (hfe : isFn K (.ref fe) = true) (hx : findIn K (.ref C) "__exit__" = some (some (.ref fx))) (hfx : isFn K (.ref fx) = true)
    (h : wpAny (model prog w) A (call (.ref fe) [.ref x]) (fun v s₂ => wpAny (model prog w) A (b v) (fun _ s₃ => wpAny (model prog w) A bdy (fun f s₄ => wpAny (model prog w) A (call (.ref fx) [.ref x, .none, .none, .none]) (fun _ s₅ => Q f s₅) E s₄) (WErr prog w A env E x fx Q) s₃) (WErr prog w A env E x fx Q) s₂) E s) :
    wpAny (model prog w) A (withItem false pos env (pure (.ref x)) (some b) bdy) Q E s := by
  obtain ⟨cd, hcd, ae⟩ := kw_along he
  obtain ⟨cd', hcd', ax⟩ := kw_along hx
  cases hcd.symm.trans hcd'
  obtain ⟨hh, g, d, tt, os⟩ := s
  have q1 : Looks (model prog w) hh (specialOnItsLine (.ref x) "__enter__") (some (.ref fe), cd.mro) := kw_special X I hcd ae
  have q2 : Looks (model prog w) hh (specialOnItsLine (.ref x) "__exit__") (some (.ref fx), cd.mro) := kw_special X I hcd ax
  have q3 : Looks (model prog w) hh (bindSpecial (.ref fe) (.ref x)) (.ref fe, [.ref x]) := bind_fn X _ (beq_iff_eq.mp hfe)
  have q4 : Looks (model prog w) hh (bindSpecial (.ref fx) (.ref x)) (.ref fx, [.ref x]) := bind_fn X _ (beq_iff_eq.mp hfx)
  have q5 : Looks (model prog w) hh (aMethodOfAnotherBuiltinTypeStops (.ref fe) cd.mro) () := Looks.of_pure rfl
  have q6 : Looks (model prog w) hh (aMethodOfAnotherBuiltinTypeStops (.ref fx) cd.mro) () := Looks.of_pure rfl
  unfold withItem
  refine wpAny_bind (wpAny_pure (wpAny_bind (wpAny_standAt ?_)))
  simp only [Bool.false_eq_true, if_false]
  kw_lk
  refine wpAny_mono h (fun v s₂ h₂ => ?_) fun _ _ z => z
  kw_lk
  have err : ∀ e s3, WErr prog w A env E x fx Q e s3 → wpAny (model prog w) A (do
      noteFrame e env
      setFlight e none
      standAt pos
      holding [e] do
      let r ← withItem.marked e (.call (.ref fx) ⟨[.ref x] ++ [← typeOf e, e, ← tracebackOf e], []⟩)
      let r ← pure r
      let swallow ← match r with
        | .none => pure false
        | .bool b => pure b
        | _ => do pure ((← withItem.marked e (.call (.type "bool") ⟨[r], []⟩)) == .bool true)
      if swallow then do rule "with.exit-swallows"; setFlight e none; pure .next else passOn "with" e env) Q E s3 := by
    rintro e s3 ⟨ae, rfl, he3⟩
    refine wpAny_bind (wpAny_mono he3 (fun _ s4 h4 => wpAny_bind (wpAny_mono h4 (fun _ s5 h5 => wpAny_bind (wpAny_standAt (wpAny_holding ?_))) fun _ _ z => z)) fun _ _ z => z)
    refine wpAny_bind (wpAny_mono h5 (fun c s6 h6 => wpAny_bind (wpAny_mono h6 (fun tb s7 h7 => wpAny_bind ?_) fun _ _ z => z)) fun _ _ z => z)
    unfold withItem.marked
    refine wpAny_bind (wpAny_run (codeAny_mono h7 fun r s8 h8 => ?_) (by intro z; cases z))
    rcases r with z | (v | _ | _ | _) <;> first | exact h8.elim | skip
    obtain ⟨rfl, h8⟩ := h8
    refine wpAny_pure (wpAny_bind (wpAny_pure (wpAny_bind (wpAny_pure ?_))))
    exact h8
  refine wpAny_attempt (kw_held ?_)
  show wpAny _ _ (b v >>= fun _ => bdy) _ _ _
  refine wpAny_bind (wpAny_mono h₂ (fun _ s₃ h₃ => wpAny_mono h₃ (fun f s₄ h₄ => ?_) fun e s4 z => ?_) fun e s3 z => ?_)
  · kw_lk
    refine wpAny_mono h₄ (fun _ s₅ h₅ => ?_) fun _ _ z => z
    kw_lk
    exact h₅
  · exact err e s4 z
  · exact err e s3 z
end
end PySem.W
/-! K21V: defs that may be called while an exception is handled; the with statement over the layer. -/
namespace K21
open PySem PySem.Spec PyProof.Rows L2 LamX NdefX
structure RoomW (k : Nat) (A : Around) : Prop where
  dp : A.depth + 3 * k + 5 < recursionLimit
  un : A.units + 16 * k + 200 < cLine
theorem roomW_of {k : Nat} {A : Around} (r : Room k A) : RoomW k A := ⟨r.dp, r.un⟩
theorem RoomW.depth {k : Nat} {A : Around} (r : RoomW k A) : A.depth < recursionLimit := by have := r.dp; omega
theorem RoomW.deeper {k : Nat} {A : Around} (r : RoomW (k + 1) A) (env : Env) : RoomW k (A.deeper env) :=
  ⟨by have h := r.dp; show A.depth + 1 + 3 * k + 5 < _; omega, by have h := r.un; show A.units + 3 + 16 * k + 200 < _; omega⟩
/-- a promise that holds whatever is handled -/
structure FnW (P : Program) (w : World) (K : PySem.W.Frag) (mg : Str → Option Value) (base : Heap) (k : Nat) (f : Addr) (fd : FuncData) (ps : List Str) (sp : Sp) : Prop where
  len : ∀ vs H Q E, sp vs H Q E → vs.length = ps.length
  run : ∀ (A : Around) (outer : List Env) (s : Shared) (H : Hp) (args : Args) (us : List Value) (vs : List V) (Q : VK) (E : XK), RoomW k A → Env0 P w K mg base A outer s H → BindsTo s fd args (ps.zip us) → Vals vs us → sp vs H Q E →
    codeAny (model P w) A (.call (.ref f) args) (CR CX0 outer P w H s Q E) s
def cxW (P : Program) (w : World) (K : PySem.W.Frag) (mg : Str → Option Value) (base : Heap) (N : List Str) (qual : Str) (scope : Scope) (f : Addr) (cd : Value) (A : Around) (outer : List Env) (s : Shared) (H : Hp) (E : XK) : Cx :=
  { cxOf CX0 P w K mg base N qual scope f cd A outer s H E with calm := false }
section
variable {P : Program} {w : World} {K : PySem.W.Frag} {mg : Str → Option Value} {base : Heap} {k : Nat} {f : Addr} {x qual : Str} {params : Arguments} {body : List Stmt} {scope : Scope} {dvs : List V} {kws : List (Str × V)} {fd : FuncData} {N ps : List Str} {sp : Sp}
theorem inv_startW {cd : Value} {A : Around} {outer : List Env} {s s1 : Shared} {H : Hp} {E : XK} {us : List Value} {vs : List V} (S : FnScope N ps scope) (e0 : Env0 P w K mg base A outer s H) (hl : vs.length = ps.length) (r : Vals vs us)
    (x : InCallC s s.heap.objs.size (bindL (envOfC qual scope s.heap.objs.size f cd).kindOf (ps.zip us) fun _ => none) (cellsFrom (s.heap.objs.size + 1) scope.names []) (bindC (envOfC qual scope s.heap.objs.size f cd).kindOf (ps.zip us) fun _ => none) s1) :
    Inv (cxW P w K mg base N qual scope f cd A outer s H E) [] (L2.start N vs) H s1 := by
  have e1 : Env0 P w K mg base { A with handled := none } outer s H := ⟨e0.frames, e0.mod, e0.bs, e0.bsz, e0.funs, e0.frf, e0.hok, e0.bare⟩
  have I := inv_start (CX := CX0) (E := E) (A := { A with handled := none }) (cd := cd) (f := f) (qual := qual) S rfl e1 hl r x
  exact ⟨⟨I.ok.mod, I.ok.kind, I.ok.glob, I.ok.blt, I.ok.above, I.ok.inj, I.ok.has, I.ok.cab, fun z => absurd (show false = true from z) Bool.false_ne_true, Around.frames_deeper e0.frames, I.ok.stk, I.ok.exf, I.ok.bs, I.ok.bsz, I.ok.noex, I.ok.exfs, I.ok.funs, I.ok.frf⟩,
    I.os, I.bare, I.base, I.loc, I.cell, I.free, I.freeC, I.pin, I.hok, I.len⟩
theorem fnW_of (F : FunD K x qual params body scope dvs kws f fd) (S : FnScope N ps scope) (len : ∀ vs H Q E, sp vs H Q E → vs.length = ps.length)
    (hbody : ∀ (cdv : Value) (A : Around) (outer : List Env) (s : Shared) (H : Hp) (vs : List V) (Q : VK) (E : XK), RoomW k (A.deeper (envOfC qual scope s.heap.objs.size f cdv)) → sp vs H Q E →
      ∃ t, PSs (cxW P w K mg base N qual scope f cdv A outer s H E) body t ∧ t { nx := fun _ H' => Q .non H', rt := Q } (L2.start N vs) H) : FnW P w K mg base (k + 1) f fd ps sp := by
  obtain ⟨oc, od, dV, kV, doc, pm, an, cdv, ct, osl, rfl, lk, hcd, _⟩ := F.ex
  refine ⟨len, fun A outer s H args us vs Q E hr e0 hb r hsp => ?_⟩
  have hl := len _ _ _ _ hsp
  have KX : K.In s.heap := e0.mod.kin.keeps fun b o e => (e0.bs b o e).1
  have lim : s.heap.NoLimit := e0.mod.nolimit.keeps fun b o e => (e0.bs b o e).1
  have hkind : ∀ y ∈ ps.zip us, scope.names.lookup y.1 = some .local ∨ (scope.names.lookup y.1 = some .cell ∧ ((cellsFrom (s.heap.objs.size + 1) scope.names []).lookup y.1).isSome = true) := fun ⟨n, v⟩ hy => by
    rcases S.par n (List.of_mem_zip hy).1 with q | q
    · exact .inl q
    · exact .inr ⟨q, PySem.W.cellsFrom_some _ _ _ (.inl q)⟩
  refine codeAny_call_function hr.depth (KX _ _ lk) rfl S.co S.gen rfl (PySem.W.codeRec_of KX hcd) (hb _ _ _ _ ?_)
  refine wpAny_newFunctionEnv_cells S.kind hkind fun env he s1 x => ?_
  subst he
  refine ⟨lim.keeps x.toInCall.keep, codeAny_func ?_⟩
  obtain ⟨t, ht, hq⟩ := hbody cdv A outer s H vs Q E (hr.deeper _) hsp
  have I : Inv (cxW P w K mg base N qual scope f cdv A outer s H E) [] (L2.start N vs) H s1 := inv_startW S e0 hl r x
  refine wpAny_mono (ht.run [] s1 (L2.start N vs) H _ I hq) (fun fl s' hs => ?_) fun e s' hs => hs
  have fin : ∀ {σ' : L2.St} {H' : Hp} {v : V} {u : Value}, Inv (cxW P w K mg base N qual scope f cdv A outer s H E) [] σ' H' s' → RelV v u → Q v H' → CE outer P w H s Q u s' :=
    fun {σ' H' v u} J rv q => ⟨v, H', J.os, J.bare, J.base, J.hok, rv, q⟩
  cases fl with
  | ret u =>
    obtain ⟨v, σ', H', J, rv, q⟩ := hs
    exact fin J rv q
  | next =>
    obtain ⟨σ', H', J, q⟩ := hs
    exact fin (v := V.non) (u := Value.none) J rfl q
  | brk =>
    obtain ⟨_, _, _, q⟩ := hs
    exact False.elim q
  | cont =>
    obtain ⟨_, _, _, q⟩ := hs
    exact False.elim q
theorem FnW.ok (F : FnW P w K mg base k f fd ps sp) : FnOk P w K mg base CX0 k f fd ps sp := ⟨F.len, fun A outer s H args us vs Q E hr => F.run A outer s H args us vs Q E (roomW_of hr)⟩
end
/-- a tracked address has an object -/
theorem objOk_get {P : Program} {w : World} {H : Hp} {h : Heap} {a : Addr} {o : HO} (x : ObjOk P w H h a o) : ∃ ob, h.get? a = some ob := by
  cases o with
  | lst xs => obtain ⟨_, _, _, _, e⟩ := x; exact ⟨_, e⟩
  | tup xs => obtain ⟨_, _, _, o, e, _⟩ := x; exact ⟨o, e⟩
  | dK kvs => obtain ⟨_, _, _, _, o, _, _, e, _⟩ := x; exact ⟨o, e⟩
  | dT kvs => obtain ⟨_, _, _, _, o, _, _, e, _⟩ := x; exact ⟨o, e⟩
  | set S n => obtain ⟨o, _, _, _, e, _⟩ := x; exact ⟨o, e⟩
  | ins C dx fs => obtain ⟨_, _, _, e, _⟩ := x; exact ⟨_, e⟩
  | own y => obtain ⟨o, e⟩ := x; exact ⟨o, e⟩
  | xd fs => obtain ⟨_, ⟨o, _, _, e, _⟩, _⟩ := x; exact ⟨o, e⟩
  | rng lo hi => obtain ⟨_, _, _, e⟩ := x; exact ⟨_, e⟩
  | frz ob u => obtain ⟨e, _⟩ := x; exact ⟨_, e⟩
  | tbl ps => exact ⟨_, (show h.get? a = some _ from x)⟩
  | met f y => exact ⟨_, (show h.get? a = some _ from x)⟩
  | ext φ => obtain ⟨_, ⟨o, e⟩, _⟩ := x; exact ⟨o, e⟩
/-! ### the statement -/
/-- what is wished of an exception of the block: __exit__ runs, the exception goes on -/
def wWith (spX : Sp) (Wout : WX) (t : Addr) : WX := fun cls d σ' H' => ∃ Ce, cls = .ref Ce ∧ ∀ (a : Addr) (tb : V), H' a = none → spX [.ref t, .ref Ce, .ref a, tb] H' (fun v H'' => v = .bl false ∧ Wout cls d σ' H'') E0
def dWith (spX : Sp) (t : Addr) (D : Ends) : Ends where
  nx := fun σ' H' => spX [.ref t, .non, .non, .non] H' (fun _ H'' => D.nx σ' H'') E0
  rt := fun v H' => spX [.ref t, .non, .non, .non] H' (fun _ H'' => D.rt v H'') E0
  bk := fun σ' H' => spX [.ref t, .non, .non, .non] H' (fun _ H'' => D.bk σ' H'') E0
  ct := fun σ' H' => spX [.ref t, .non, .non, .non] H' (fun _ H'' => D.ct σ' H'') E0
def tWith (C : Addr) (i : Nat) (spE spX : Sp) (Wout : WX) (te : TE) (tb : WX → TS) : TS := fun D σ H => te σ H fun x H1 => ∃ t dx fs, x = .ref t ∧ H1 t = some (.ins C dx fs) ∧
  spE [.ref t] H1 (fun v H2 => tb (wWith spX Wout t) (dWith spX t D) (σ.set i (some v)) H2) E0
section
variable {X : Cx} {C fe fx : Addr} {fde fdx : FuncData} {spE spX : Sp} {ke kx i : Nat} {y : Str} {ctx : Expr} {py pos : Pos} {body : List Stmt} {te : TE} {tb : WX → TS} {Wout : WX} {pe px : List Str}
theorem ps_with (pl : Plain X) (hc : X.calm = true) (hN : X.N.Nodup) (hi : X.N[i]? = some y) (hy : X.env.scope.names.lookup y = some .local) (tk : Takes X Wout) (mE : Meth X.K C "__enter__" fe) (mX : Meth X.K C "__exit__" fx)
    (Fe : FnOk X.prog X.w X.K X.mg X.base CX0 ke fe fde pe spE) (Fx : FnW X.prog X.w X.K X.mg X.base kx fx fdx px spX) (hre : Room ke X.A) (hrx : Room kx X.A) (bE : Binds X.K fde pe []) (bX : Binds X.K fdx px [])
    (hctx : PE X ctx te) (hb : ∀ (W : WX) (pn : List (Addr × Obj)) (xe : Value → Shared → Prop), Takes (X.tr pn xe) W → PSs (X.tr pn xe) body (tb W)) :
    PS X (.With [⟨ctx, some (.Name y py)⟩] body pos) (tWith C i spE spX Wout te tb) := by
  refine ⟨fun pins s σ H D I h => ?_⟩
  have ok := I.ok
  have hs := pl.stk
  have hf := pl.fr
  have hfr : X.A.frames = some (X.env :: X.outer) := by rw [ok.frames, hs]
  refine PySem.W.kw_execN (thn (hctx.run pins s σ H _ I h) fun u s1 ⟨x, H1, I1, r1, t, dx, fs, ex, et, q1⟩ => ?_)
  subst ex
  obtain rfl : u = Value.ref t := r1
  show wpAny _ _ (withItem false _ X.env (pure (.ref t)) (some (assign (.Name y py) X.env)) (execs body X.env)) _ _ _
  obtain ⟨mA, OM, _⟩ := ins_get I1.hok et
  obtain ⟨od, IA, _⟩ := OM.look
  refine PySem.W.with_core I1.kIn IA mE.at_ mE.fn mX.at_ mX.fn ?_
  refine wpAny_mono (run_fn (X := X) (vs := [.ref t]) (us := [.ref t]) Fe hre bE .nil pass0 I1 (.cons rfl .nil) q1) (fun v s2 ⟨vv, H2, I2, r2, q2⟩ => ?_) fun _ _ z => z
  refine wpAny_assign_Name (store_ok I2 hN hi (.inl hy) r2 (fun s3 I3 => ?_) (.inr hy))
  refine wpAny_mono ((hb (wWith spX Wout t) (X.pn ++ pins) (PySem.W.WErr X.prog X.w X.A X.env X.xe t fx (SP X pins D)) (fun u s' xx => ?_)).run [] s3 _ H2 _ (I3.toTry _) q2) (fun f s4 hsp => ?_) (fun e s4 he => he)
  · -- the block raised
    obtain ⟨a, B, sI, pins', σ', H', cls, d, rfl, J', nb, up, sky, na, os, ag, Ce, rfl, hW⟩ := xx
    have J : Inv X pins σ' H' sI := J'.ofTry ok
    have sky' : Sky B (X.env :: X.outer) a (Zc (.ref Ce) d) X.env.locals s'.heap := by rw [← hs]; exact sky
    refine ⟨a, rfl, Sky.land Zc.steady hfr hf sky' fun h3 fl3 up3 => ?_⟩
    have J3 : Inv X pins σ' H' { s' with heap := h3 } := J.landed nb fl3.1 (up.trans up3) os ag
    obtain ⟨k1, k2, k3, oe, vs, T, oT, ts, he, hz, hd, h1, nT, neT, hT, hdT, h3T⟩ := id fl3
    refine wpAny_typeOf_ref he ?_
    rw [hz.1]
    unfold tracebackOf
    refine wpAny_bind (wpAny_field he hd h1 ?_)
    have hsz : 3 < ts.size := (Array.getElem?_eq_some_iff.mp h3T).1
    have fin : ∀ (tv : V) (tu : Value), RelV tv tu → codeAny (model X.prog X.w) (X.A.mark (some (.ref a))) (.call (.ref fx) ⟨[.ref t, .ref Ce, .ref a, tu], []⟩) (fun r s5 => match r with
        | .ok (.ret v) => v = .bool false ∧ wpAny (model X.prog X.w) X.A (passOn "with" (.ref a) X.env : Sem Flow) (SP X pins D) X.xe s5
        | _ => False) { s' with heap := h3 } := fun tv tu rt => by
      have e0 := J3.env0
      have hvs : Vals [.ref t, .ref Ce, .ref a, tv] [.ref t, .ref Ce, .ref a, tu] := .cons rfl (.cons rfl (.cons rfl (.cons rt .nil)))
      have hl := Fx.len _ _ _ _ (hW a tv na)
      have hbind := bX { s' with heap := h3 } [.ref t, .ref Ce, .ref a, tu] J3.kIn hl
      refine codeAny_mono (Fx.run (X.A.mark (some (.ref a))) X.stack { s' with heap := h3 } H' ⟨[.ref t, .ref Ce, .ref a, tu], []⟩ _ _ _ E0 ⟨hrx.dp, hrx.un⟩ ⟨e0.frames, e0.mod, e0.bs, e0.bsz, e0.funs, e0.frf, e0.hok, e0.bare⟩ hbind hvs (hW a tv na)) fun r s5 hq => ?_
      rcases r with z | (v | _ | _ | _) <;> first | exact False.elim hq | skip
      obtain ⟨v5, H5, os5, ag5, U5, hok5, r5, rfl, w5⟩ := hq
      refine ⟨r5, ?_⟩
      have notFr : ∀ {b : Addr} {o : Obj} {vs : Array Value}, h3.get? b = some o → o.data = .fields vs → b ∉ frs X.stack := fun {b o vs} e dd hm => by
        rw [hs] at hm
        obtain ⟨_, o', e', hnf⟩ := k3.mem hm
        rw [e] at e'
        cases e'
        exact hnf _ dd
      have nfa := notFr he hd
      have nfT := notFr hT hdT
      have nIa : sI.heap.get? a = none := by
        cases e : sI.heap.get? a with
        | none => rfl
        | some o =>
          have z := nb a o e nfa
          rw [k2] at z
          cases z
      have nIT : sI.heap.get? T = none := by
        cases e : sI.heap.get? T with
        | none => rfl
        | some o =>
          have z := nb T o e nfT
          rw [nT] at z
          cases z
      have nHT : H' T = none := by
        cases e : H' T with
        | none => rfl
        | some o =>
          obtain ⟨ob, z⟩ := objOk_get (J.hok T o e)
          rw [nIT] at z
          cases z
      have na5 : H5 a = none := U5.free a oe he na (by simp)
      have nT5 : H5 T = none := U5.free T oT hT nHT (by simp)
      have he5 : s5.heap.get? a = some oe := U5.keep a oe he na nfa (by simp)
      have hT5 : s5.heap.get? T = some oT := U5.keep T oT hT nHT nfT (by simp)
      have J5 : Inv X pins σ' H5 s5 := J3.call' os5 U5 hok5 ag5 (fun _ z => nomatch z)
      obtain ⟨G, g1, g2⟩ := restrict s5.heap fun b => decide (b ≠ a ∧ b ≠ T)
      have gk : ∀ b, b ≠ a → b ≠ T → G.get? b = s5.heap.get? b := fun b x1 x2 => g1 b (decide_eq_true ⟨x1, x2⟩)
      have gs : ∀ b o, G.get? b = some o → s5.heap.get? b = some o ∧ b ≠ a ∧ b ≠ T := fun b o e => by
        by_cases hx : b ≠ a ∧ b ≠ T
        · exact ⟨by rw [← gk b hx.1 hx.2]; exact e, hx⟩
        · rw [g2 b (decide_eq_false hx)] at e
          cases e
      obtain ⟨B5, b1, b2⟩ := restrict s5.heap fun b => decide (b ≠ a ∧ b ≠ T ∧ b ∉ frs X.stack)
      have bs : ∀ b o, B5.get? b = some o → s5.heap.get? b = some o ∧ b ≠ a ∧ b ≠ T ∧ b ∉ frs X.stack := fun b o e => by
        by_cases hx : b ≠ a ∧ b ≠ T ∧ b ∉ frs X.stack
        · exact ⟨by rw [← b1 b (decide_eq_true hx)]; exact e, hx⟩
        · rw [b2 b (decide_eq_false hx)] at e
          cases e
      have bn : ∀ b, ¬ (b ≠ a ∧ b ≠ T ∧ b ∉ frs X.stack) → B5.get? b = none := fun b hx => b2 b (decide_eq_false hx)
      -- from the state without the exception to the one behind __exit__
      have up13 := up.trans up3
      have i3 : ∀ b o, sI.heap.get? b = some o → b ≠ a ∧ b ≠ T := fun b o e => ⟨fun z => (by rw [z, nIa] at e; cases e), fun z => (by rw [z, nIT] at e; cases e)⟩
      have fr3 : ∀ b ∈ frs X.stack, ∀ o, sI.heap.get? b = some o → ∃ sl, h3.get? b = some { o with slots := sl } := fun b hb o e => by
        obtain ⟨_, o', e', hd'⟩ := J.stack.mem hb
        rw [e] at e'
        cases e'
        exact up13 b o e hd'
      have U3 : Un (frs X.stack) [] H' H' sI.heap h3 := ⟨fun b o e _ hb _ => k1 b o (nb b o e hb), fun b o e _ hb _ => fr3 b hb o e, fun _ _ _ n _ => n, fun b o e _ => by
          by_cases hb : b ∈ frs X.stack
          · obtain ⟨sl, q⟩ := fr3 b hb o e
            exact ⟨_, q⟩
          · exact ⟨o, k1 b o (nb b o e hb)⟩, fun _ _ e => e, fun _ _ _ e => e, fun b ps e => ⟨#[], by rw [e]; simp⟩⟩
      have U := U3.trans U5
      have UG : Un (frs X.stack) [] H' H5 sI.heap G := ⟨fun b o e n hb hx => (gk b (i3 b o e).1 (i3 b o e).2).trans (U.keep b o e n hb hx), fun b o e n hb hx => by
          obtain ⟨sl, q⟩ := U.slot b o e n hb hx
          exact ⟨sl, (gk b (i3 b o e).1 (i3 b o e).2).trans q⟩, U.free, fun b o e hx => by
          obtain ⟨o', q⟩ := U.there b o e hx
          exact ⟨o', (gk b (i3 b o e).1 (i3 b o e).2).trans q⟩, U.tups, U.frzs, U.tbls⟩
      have nn : ∀ b o, H5 b = some o → b ≠ a ∧ b ≠ T := fun b o e => ⟨fun z => (by rw [z, na5] at e; cases e), fun z => (by rw [z, nT5] at e; cases e)⟩
      have hokG : HOk X.prog X.w H5 G := fun b o e => (hok5 b o e).stay (fun c u hc q => by
          have hx : c ≠ a ∧ c ≠ T := by
            rcases hc with z | z
            · rw [z]
              exact nn b o e
            · exact nn c _ z
          exact (gk c hx.1 hx.2).trans q) (fun _ q => q) fun _ _ q => q
      have os5' : s5.os = sI.os := os5.trans os
      have JG : Inv X pins σ' H5 { s5 with heap := G } := J.call' (s' := { s5 with heap := G }) os5' UG hokG ag5 (fun _ z => nomatch z)
      have FF : s5.heap.FunFrames B5 (X.env :: X.outer) := by
        have z := funFrames_none J5.stack (B := B5) fun b hb => bn b fun hx => hx.2.2 hb
        rw [hs] at z
        exact z
      have fl5 : HandSPX.FlyingZ B5 (X.env :: X.outer) a (Zc (.ref Ce) d) s5.heap := ⟨fun b o e => (bs b o e).1, bn a fun hx => hx.1 rfl, FF, oe, vs, T, oT, ts, he5, hz, hd, h1, bn T fun hx => hx.2.1 rfl, neT, hT5, hdT, h3T⟩
      unfold PySem.passOn
      refine wpAny_bind (wpAny_field he5 hd h1 ?_)
      rw [if_neg (show ¬ ((Value.ref T == Value.none) = true) from by simp)]
      have go : wpAny (model X.prog X.w) X.A (setFlight (.ref a) X.env.frame) (fun _ s6 => wpAny (model X.prog X.w) X.A (throw (.ref a) : Sem Flow) (SP X pins D) X.xe s6) X.xe s5 := by
        rw [hf]
        refine HandSPX.setFlight_upZ fl5 fun h6 hh6 up6 => wpAny_throw (tk _ _ ?_)
        exact ⟨a, B5, { s5 with heap := G }, pins, σ', H5, .ref Ce, d, rfl, JG, fun b o e hb => by
          obtain ⟨q1, q2, q3⟩ := gs b o e
          exact (b1 b (decide_eq_true ⟨q2, q3, hb⟩)).trans q1, (Heap.UpToSlots.of_keeps fun b o e => (gs b o e).1).trans up6, .inr (.inr (by rw [hs]; exact hh6)), na5, rfl, ag5, w5⟩
      first
        | exact wpAny_bind (wpAny_pure (wpAny_bind go))
        | exact wpAny_bind go
    have t1 : ts[1]? = some ts[1] := Array.getElem?_eq_getElem (by omega)
    refine wpAny_bind (wpAny_field hT hdT t1 ?_)
    by_cases c1 : (ts[1] == Value.none) = true
    · rw [if_pos c1]
      exact wpAny_pure (fin .non .none rfl)
    · rw [if_neg c1]
      first
        | exact wpAny_pure (fin (.ref T) (.ref T) rfl)
        | exact wpAny_bind (wpAny_pure (wpAny_pure (fin (.ref T) (.ref T) rfl)))
  · have cls0 : ∀ {R : Hp → Prop} {σ4 : L2.St} {H4 : Hp} {Q : Shared → Prop}, Inv X pins σ4 H4 s4 → spX [.ref t, .non, .non, .non] H4 (fun _ H'' => R H'') E0 → (∀ s5 H5, Inv X pins σ4 H5 s5 → R H5 → Q s5) →
        wpAny (model X.prog X.w) X.A (call (.ref fx) [.ref t, .none, .none, .none]) (fun _ s5 => Q s5) X.xe s4 := fun {R σ4 H4 Q} I4 q4 hQ =>
      thn (run_fn (X := X) (vs := [.ref t, .non, .non, .non]) (us := [.ref t, .none, .none, .none]) Fx.ok hrx bX .nil pass0 I4 (.cons rfl (.cons rfl (.cons rfl (.cons rfl .nil)))) q4) fun _ s5 ⟨_, H5, I5, _, q5⟩ => hQ s5 H5 I5 q5
    cases f with
    | next =>
      obtain ⟨σ4, H4, I4, q4⟩ := hsp
      exact cls0 (I4.ofTry ok) q4 fun s5 H5 I5 q5 => ⟨σ4, H5, I5, q5⟩
    | brk =>
      obtain ⟨σ4, H4, I4, q4⟩ := hsp
      exact cls0 (I4.ofTry ok) q4 fun s5 H5 I5 q5 => ⟨σ4, H5, I5, q5⟩
    | cont =>
      obtain ⟨σ4, H4, I4, q4⟩ := hsp
      exact cls0 (I4.ofTry ok) q4 fun s5 H5 I5 q5 => ⟨σ4, H5, I5, q5⟩
    | ret u =>
      obtain ⟨v4, σ4, H4, I4, r4, q4⟩ := hsp
      exact cls0 (I4.ofTry ok) q4 fun s5 H5 I5 q5 => ⟨v4, σ4, H5, I5, r4, q5⟩
end
end K21
/-! K21X: own exception classes over any built-in one, with an __init__ that stores one field. -/
namespace K21
open PySem PySem.Spec PyProof.Rows L2
open PySem.W (excInitIn excOver)
structure BaseX (B newId initId : String) (bmB : List Value) : Prop where
  fb : ExcBaseFacts B newId initId bmB
  sf : StoreFacts B bmB "object.__setattr__" "object"
  hnd : PySem.W.handedIn (.builtin initId) = true
theorem bxV : BaseX "ValueError" "ValueError.__new__" "ValueError.__init__" veB := ⟨PySem.F.excBase_ValueError, PySem.F.store_ValueError, by decide +kernel⟩
theorem bxO : BaseX "OverflowError" "OverflowError.__new__" "OverflowError.__init__" ovB := ⟨PySem.F.excBase_OverflowError, PySem.F.store_OverflowError, by decide +kernel⟩
theorem bxR : BaseX "RuntimeError" "RuntimeError.__new__" "RuntimeError.__init__" rtB := ⟨PySem.F.excBase_RuntimeError, PySem.F.store_RuntimeError, by decide +kernel⟩
/-- what the written part says of an own exception class -/
structure OeG (K : PySem.W.Frag) (C : Addr) (bmB : List Value) (newId : String) : Prop where
  inB : excInitIn K C bmB newId = true
  ov : excOver K C bmB = true
  sa : PySem.W.findIn K (.ref C) "__setattr__" = some (some (.builtin "object.__setattr__"))
  exC : PySem.W.subIn K (.ref C) (.type "BaseException") = some true
  tyC : PySem.W.typeIn K (.ref C) = some (.type "type")
  kC : PySem.W.keepIn K (.ref C) = true
  hd : PySem.W.hasDictIn K C = true
section
open PySem.W Builtin Builtin.ObjectAttr
variable {prog : Program} {w : World} {A : Around} {E : Value → Shared → Prop} {R : Result → Shared → Prop} {hp : Heap} {g : Array GenState} {d : Drawn} {t : Nat} {os : OsState}
/-- the first store into an exception's own dict -/
theorem excS_store {B newId initId : String} {bmB : List Value} (bx : BaseX B newId initId bmB) {K : Frag} {name : Str} {tk : Tok} {v : Value} {x C : Addr} {fv : Array Value}
    (X : K.In hp) (hx : hp.get? x = some { cls := .ref C, data := .fields fv }) (hov : excOver K C bmB = true) (hdt : hasDictIn K C = true) (ht : takerIn K C name = some none)
    (hq : ∀ h' tk' dx, (∀ b o, b ≠ x → hp.get? b = some o → h'.get? b = some o) → hp.objs.size ≤ dx → dx ≠ x → h'.get? x = some { cls := .ref C, dict := some dx, data := .fields fv } →
      h'.Ns1 dx (fun y => if y = name then some v else none) → R (.ok (.ret .none)) ⟨h', g, d, tk', os⟩) :
    codeAny (model prog w) A (.call (.builtin "object.__setattr__") ⟨[.ref x, .str name tk, v], []⟩) R ⟨hp, g, d, t, os⟩ := by
  have I : InstAt hp x { cls := .ref C, data := .fields fv } C none := ⟨hx, rfl, rfl, trivial⟩
  have hxs : x ≠ hp.objs.size := Nat.ne_of_lt (Heap.lt_size hx)
  refine osa_openX (s := ⟨hp, g, d, t, os⟩) (ox := { cls := .ref C, data := .fields fv }) (od := none) (r := none) bx.sf X I hov ht fun b => ?_
  obtain ⟨cd, hcd, hh⟩ : ∃ cd, clsIn K C = some cd ∧ cd.hasDict = true := by
    have z := hdt
    unfold hasDictIn at z
    exact any_some z
  have hcls : Looks (model prog w) hp (classData C) cd := looks_clsIn X hcd
  obtain ⟨nm, bs, mro, ns, qn, hd, sn, sb, ab, col, del⟩ := cd
  dsimp only at hh
  subst hh
  show wpAny _ _ (storeInOwnDict (.ref x) (.ref C) (.str name tk) name v b) _ _ _
  unfold storeInOwnDict ownDictForStores
  repeat (first | with_reducible refine HandSPX.store_in_new ?_ ?_ | with_reducible refine wpAny_loadPart_at hx ?_ | with_reducible refine hcls.at ?_ | wp_step)
  · exact ⟨_, #[], _, (Heap.get?_update_ne _ _ _ _ hxs.symm).trans (Heap.get?_push_at rfl rfl), rfl, fun e he => absurd he (by simp), fun _ => rfl⟩
  · intro h' tk' hn' hs
    have hx1 : (hp.push { cls := .type "dict", data := .dict #[] }).get? x = some { cls := .ref C, data := .fields fv } := Heap.get?_push_of_some _ hx
    refine hq h' tk' hp.objs.size (fun b o hb ho => ?_) (Nat.le_refl _) hxs.symm ?_ hn'
    · exact (hs.2 b (Nat.ne_of_lt (Heap.lt_size ho))).trans ((Heap.get?_update_ne _ _ _ _ hb).trans (Heap.get?_push_of_some _ ho))
    · exact (hs.2 x hxs).trans (Heap.get?_update_self _ hx1 rfl)
end
section
variable {X : Cx} {pins : List (Addr × Obj)} {σ : L2.St} {H : Hp} {s : Shared} {a C : Addr} {f : Str} {y : V} {u : Value} {A : Around} {E : Value → Shared → Prop} {B newId initId : String} {bmB : List Value}
/-- self.f = y, the first field -/
theorem oeg_store {Q : Unit → Shared → Prop} (bx : BaseX B newId initId bmB) (T : OeG X.K C bmB newId) (I : Inv X pins σ H s) (e : H a = some (exo a C none)) (ht : PySem.W.takerIn X.K C f = some none) (ry : RelV y u)
    (h : ∀ dx s', H dx = none → dx ≠ a → Inv X pins σ (upd (upd H dx (exd dx [(f, y)])) a (exo a C (some dx))) s' → Q () s') : wpAny (model X.prog X.w) A (setAttr (.ref a) f u) Q E s := by
  obtain ⟨t1, ho⟩ := exo_at I.hok e
  obtain ⟨hp, g, d, t, os⟩ := s
  refine PySem.W.set_plain I.kIn (ox := { cls := .ref C, dict := none, data := .fields #[.ref t1, .none, .none, .none, .bool false, .none] }) (od := none) ⟨ho, rfl, rfl, trivial⟩ T.sa ?_
  refine excS_store bx I.kIn ho T.ov T.hd ht (fun h' tk' dx k dn dne hx hn => ?_)
  have hnd : H dx = none := I.hok.fresh dn
  have nd : ∀ {b : Addr} {o : Obj}, hp.get? b = some o → b ≠ dx := fun {b o} q => Nat.ne_of_lt (Nat.lt_of_lt_of_le (Heap.lt_size q) dn)
  have na : ∀ {b : Addr}, H b = none → b ≠ a := fun {b} n z => by
    rw [z, e] at n
    cases n
  have U1 : Un X.fs [] H (upd (upd H dx (exd dx [(f, y)])) a (exo a C (some dx))) hp h' := {
    keep := fun b o q n _ _ => k b o (na n) q
    slot := fun b o q n _ _ => ⟨o.slots, k b o (na n) q⟩
    free := fun b o q n _ => by rw [upd_ne (na n), upd_ne (nd q)]; exact n
    there := fun b o q _ => by
      by_cases hb : b = a
      · exact ⟨_, by rw [hb]; exact hx⟩
      · exact ⟨o, k b o hb q⟩
    tups := fun b xs q => by rw [upd_ne (at_ne e q exo_tup), upd_ne (ne_of_none q hnd)]; exact q
    frzs := fun b o v q => by rw [upd_ne (at_ne e q exo_frz), upd_ne (ne_of_none q hnd)]; exact q
    tbls := fun b ps q => ⟨#[], by rw [upd_ne (at_ne e q exo_tbl), upd_ne (ne_of_none q hnd), q]; simp⟩ }
  refine h dx _ hnd dne (I.un (t' := tk') U1 fun b o q => ?_)
  by_cases hb : b = a
  · subst hb
    rw [upd_same] at q
    cases q
    exact exo_ok hx
  · rw [upd_ne hb] at q
    by_cases hd : b = dx
    · subst hd
      rw [upd_same] at q
      cases q
      exact exd_ok hn (relO_put (fs := []) ry fun g => True.intro)
    · rw [upd_ne hd] at q
      refine (I.hok b o q).stay (fun c v hc z => k c v ?_ z) (fun c hc => by rw [upd_ne (at_ne e hc exo_own), upd_ne (ne_of_none hc hnd)]; exact hc) (fun c xs hc => by rw [upd_ne (at_ne e hc exo_tup), upd_ne (ne_of_none hc hnd)]; exact hc)
      rcases hc with hc | hc
      · rw [hc]
        exact hb
      · exact at_ne e hc exo_own
/-- Base.__init__(self, ..) -/
theorem oeg_init {us : List Value} {Q : Value → Shared → Prop} (bx : BaseX B newId initId bmB) (T : OeG X.K C bmB newId) (I : Inv X pins σ H s) (e : H a = some (exo a C none)) (hl : us.length ≤ sizeLine) (h : ∀ s', Inv X pins σ H s' → Q .none s') :
    wpAny (model X.prog X.w) A (call (.builtin initId) (.ref a :: us)) Q E s := by
  obtain ⟨nm, N, q, bs, bm, hdt, sn, sub, ab, col, dd, k0, k1, k2, k3, k5, hC, hT⟩ := PySem.W.excInit_of I.kIn T.inB
  obtain ⟨t1, ho⟩ := exo_at I.hok e
  obtain ⟨hp, g, d, t, os⟩ := s
  refine wpAny_call (PySem.HandSPX.init_base bx.fb hT hC ho hl fun h' t2 k hx => ?_)
  have J := I.write (t' := t) (x := a) (e := a) (o := exo a C none) (by rw [e]; exact True.intro) (.inl rfl) k ⟨_, hx⟩ (exo_ok hx)
  have eu : upd H a (exo a C none) = H := by
    funext b
    by_cases hb : b = a
    · rw [hb, upd_same, e]
    · rw [upd_ne hb]
  rw [eu] at J
  exact h _ J
end
/-- Base.__init__(self, ..) as an expression -/
def tBin (K : PySem.W.Frag) (bmB : List Value) (newId : String) (ta : TA) : TE := fun σ H Q => ta σ H fun vs H1 => ∃ (a C : Addr) (ws : List V), vs = .ref a :: ws ∧ ws.length ≤ 1000 ∧ OeG K C bmB newId ∧ H1 a = some (exo a C none) ∧ Q .non H1
/-- self.f = e, the first field -/
def tOgs (K : PySem.W.Frag) (bmB : List Value) (newId : String) (f : Str) (to te : TE) : TS := fun D σ H => te σ H fun y H1 => to σ H1 fun x H2 => ∃ a C : Addr, x = .ref a ∧ OeG K C bmB newId ∧ PySem.W.takerIn K C f = some none ∧
  H2 a = some (exo a C none) ∧ ∀ dx, H2 dx = none → dx ≠ a → D.nx σ (upd (upd H2 dx (exd dx [(f, y)])) a (exo a C (some dx)))
section
variable {X : Cx} {B newId initId : String} {bmB : List Value} {o e : Expr} {es : List Expr} {to te : TE} {ta : TA} {f x : Str} {p p' p1 p2 pos : Pos}
theorem bin_tail (bx : BaseX B newId initId bmB) {pins : List (Addr × Obj)} {s : Shared} {σ : L2.St} {H : Hp} {Q : VK} (I : Inv X pins σ H s) (ha : PA X (e :: es) ta) (h : tBin X.K bmB newId ta σ H Q)
    (he : starEach (e :: es) X.env = (false, eval e X.env) :: starEach es X.env) (hpl : (backTo pos (starEach es X.env)).any (·.1) = false) :
    wpAny (model X.prog X.w) X.A (callWith pos (Value.builtin initId) [] (backTo pos (starEach (e :: es) X.env)) []) (EP X pins σ Q) X.xe s := by
  refine PyProof.Rows.callWith_method1 (thn (ha.run pos pins _ σ H _ I h) fun us s1 ⟨vs, H1, I1, r1, a, C, ws, ev, hl, T, ea, q⟩ => ?_) he hpl
  subst ev
  cases r1 with
  | @cons _ u0 _ ur ra rw' =>
    obtain rfl : u0 = Value.ref a := ra
    have hlen : ur.length ≤ sizeLine := by
      rw [← Paired.length rw', sizeLine_eq]
      omega
    exact oeg_init bx T I1 ea hlen fun s' J => ⟨.non, H1, J, rfl, q⟩
/-- .. of a built-in class -/
theorem pe_binB {pl : Sem Bool} (bx : BaseX B newId initId bmB) (hg : Gl X x) (hm : X.mg x = none) (hv : bootBuiltins x = some (.type B)) (ht : typeOf (.type B) = pure (.type "type")) (hst : Manifest.isStub B = false)
    (vV : PySem.W.findCls X.K (.type B) (.type "type") "__init__" = some (.val (.builtin initId))) (ha : PA X (e :: es) ta) (hn : x ≠ "__name__") (hdb : (x == ("__debug__" : Str)) = false)
    (hc : eval (.Call (.Attribute (.Name x p1) "__init__" p2) (e :: es) [] pos) X.env = (do
      let ov ← eval (.Name x p1) X.env
      standAt p2.atName
      let (f, first) ← holding [ov] (getMethod ov "__init__" pl)
      callWith pos f first (backTo pos (starEach (e :: es) X.env)) (backToKw pos (keywordEach [] X.env))) := by rfl)
    (he : starEach (e :: es) X.env = (false, eval e X.env) :: starEach es X.env := by rfl) (hpl : (backTo pos (starEach es X.env)).any (·.1) = false := by rfl) :
    PE X (.Call (.Attribute (.Name x p1) "__init__" p2) (e :: es) [] pos) (tBin X.K bmB newId ta) := by
  refine ⟨fun pins s σ H Q I h => ?_⟩
  refine PySem.W.methodCall_KW (ld_blt I hg hm hv ?_ hn hdb) hc
  obtain ⟨m, fr⟩ := I.fr
  refine PySem.W.method_type fr I.ok.mod.kin ht hst vV bx.hnd ?_
  exact bin_tail bx (I.tok _) ha h he hpl
/-- .. of a class of the text -/
theorem pe_binO {pl : Sem Bool} {C0 : Addr} (bx : BaseX B newId initId bmB) (hg : Gl X x) (hm : X.mg x = some (.ref C0)) (hga : PySem.W.specialIn X.K (.ref C0) "__getattribute__" = some (some (.builtin "type.__getattribute__"))) (hr : PySem.W.readsIn X.K C0 (.type "type") = true)
    (vV : PySem.W.findCls X.K (.ref C0) (.type "type") "__init__" = some (.val (.builtin initId))) (ha : PA X (e :: es) ta) (hdb : (x == ("__debug__" : Str)) = false)
    (hc : eval (.Call (.Attribute (.Name x p1) "__init__" p2) (e :: es) [] pos) X.env = (do
      let ov ← eval (.Name x p1) X.env
      standAt p2.atName
      let (f, first) ← holding [ov] (getMethod ov "__init__" pl)
      callWith pos f first (backTo pos (starEach (e :: es) X.env)) (backToKw pos (keywordEach [] X.env))) := by rfl)
    (he : starEach (e :: es) X.env = (false, eval e X.env) :: starEach es X.env := by rfl) (hpl : (backTo pos (starEach es X.env)).any (·.1) = false := by rfl) :
    PE X (.Call (.Attribute (.Name x p1) "__init__" p2) (e :: es) [] pos) (tBin X.K bmB newId ta) := by
  refine ⟨fun pins s σ H Q I h => ?_⟩
  refine PySem.W.methodCall_KW (ld_glob I hg hm ?_ hdb) hc
  refine PySem.W.method_cls I.kIn hga (PySem.W.cls_value I.kIn hr vV bx.hnd ?_)
  exact bin_tail bx (I.tok _) ha h he hpl
theorem ps_ogs (bx : BaseX B newId initId bmB) (ho : PE X o to) (he : PE X e te) (hs : swapsWith e (some (.Attribute o f p')) pos.line X.env = pure false := by rfl) : PS X (.Assign [.Attribute o f p'] e pos) (tOgs X.K bmB newId f to te) := by
  refine ⟨fun pins s σ H D I h => ?_⟩
  refine plainObj_wpAny_Assign_Attribute (thn (he.run pins s σ H _ I h) fun v s1 ⟨y, H1, I1, r1, q1⟩ => thn (ho.run pins s1 σ H1 _ I1 q1) fun u s2 ⟨x, H2, I2, r2, a, C, ex, T, hno, ea, q⟩ => ?_) hs
  subst ex
  obtain rfl : u = Value.ref a := r2
  exact oeg_store bx T I2 ea hno r1 fun dx s' n ne J => ⟨σ, _, J, q dx n ne⟩
/-- C(e, ..) -/
theorem pmk_oeg {CX : CXT} {C fI : Addr} {k : Nat} {fd : FuncData} {ps : List Str} {sp : Sp} {ds : List Value} {dvs : List V} (bx : BaseX B newId initId bmB) (T : OeG X.K C bmB newId) (iC : PySem.W.findIn X.K (.ref C) "__init__" = some (some (.ref fI))) (tI : PySem.W.typeIn X.K (.ref fI) = some (.type "function"))
    (F1 : FnOk X.prog X.w X.K X.mg X.base CX k fI fd ps sp) (hr : Room (k + 1) X.A) (hb : Binds X.K fd ps ds) (hd : Vals dvs ds) (hx : Passes CX X (fun _ _ _ => False)) (hg : Gl X x) (hm : X.mg x = some (.ref C)) (ha : PA X (e :: es) ta)
    (hdb : (x == ("__debug__" : Str)) = false := by decide) (he : starEach (e :: es) X.env = (false, eval e X.env) :: starEach es X.env := by rfl) (hpl : (backTo pos (starEach es X.env)).any (·.1) = false := by rfl) :
    PMk X (.Call (.Name x p) (e :: es) [] pos) (tMkO C sp dvs ta) := by
  intro pins s σ H Q I h
  refine wpAny_Call_Name_kw (ld_glob I hg hm ?_ hdb)
  refine PySem.W.callWith_K (h₀ := X.base) I.ok.mod.kin T.kC (thn (ha.run pos pins s σ H _ I h) fun us s1 ⟨vs, H1, I1, r1, hz, q1⟩ => ⟨I1.kIn, ?_⟩) he hpl
  show wpAny _ _ (call (.ref C) us) _ _ _
  obtain ⟨nm, N, q, bs, bm, hdt, sn, sub, ab, col, dd, k0, k1, k2, k3, k5, hC, hT⟩ := PySem.W.excInit_of I1.kIn T.inB
  obtain ⟨hp, g, dr, tk, os⟩ := s1
  have hsz : hp.objs.size ≤ hp.objs.size + 1 := Nat.le_succ _
  have hn : H1 (hp.objs.size + 1) = none := I1.hok.fresh hsz
  have hq := q1 (hp.objs.size + 1) hn
  have kk : ∀ b o, hp.get? b = some o → ((hp.push (PySem.W.kdv_tup us)).push (PySem.HandSPX.excO C hp.objs.size)).get? b = some o := fun b o e => Heap.get?_push_of_some _ (Heap.get?_push_of_some _ e)
  have hget : ((hp.push (PySem.W.kdv_tup us)).push (PySem.HandSPX.excO C hp.objs.size)).get? (hp.objs.size + 1) = some (PySem.HandSPX.excO C hp.objs.size) := by heap_get
  have I2 : Inv X pins σ (upd H1 (hp.objs.size + 1) (exo (hp.objs.size + 1) C none)) ⟨(hp.push (PySem.W.kdv_tup us)).push (PySem.HandSPX.excO C hp.objs.size), g, dr, tk, os⟩ :=
    I1.laid (t' := tk) (a := hp.objs.size + 1) (o := exo (hp.objs.size + 1) C none) (h' := (hp.push (PySem.W.kdv_tup us)).push (PySem.HandSPX.excO C hp.objs.size)) kk hsz (exo_ok hget)
  have r2 : Vals (V.ref (hp.objs.size + 1) :: (vs ++ dvs)) (Value.ref (hp.objs.size + 1) :: (us ++ ds)) := .cons rfl (r1.append hd)
  have hl : (Value.ref (hp.objs.size + 1) :: us ++ ds).length = ps.length := by
    have e := r2.length
    rw [F1.len _ _ _ _ hq] at e
    exact e.symm
  have hus : us.length ≤ sizeLine := by
    rw [← Paired.length r1, sizeLine_eq]
    omega
  refine wpAny_call (PySem.HandSPX.call_own bx.fb hT hC (PySem.W.looks_findIn I1.kIn iC) (fun self => PySem.W.bind_fn I1.kIn self tI) hus
    (codeAny_mono (F1.run _ X.stack _ _ ⟨Value.ref (hp.objs.size + 1) :: us, []⟩ (Value.ref (hp.objs.size + 1) :: (us ++ ds)) _ _ (fun _ _ _ => False) (hr.make C us []) (I2.env0.make C us []) (hb _ (Value.ref (hp.objs.size + 1) :: us) I2.kIn hl) r2 hq) fun r s' hq' => ?_))
  cases r with
  | error er => exact hx pins σ _ _ er s' I2 hq'
  | ok fl =>
    cases fl with
    | ret u =>
      obtain ⟨v, H2, os2, bare2, un2, hok2, rv, ev, d, fs, ea, ed, hd1, q2⟩ := hq'
      subst ev
      obtain ⟨h2, g2, d2, t2, os'⟩ := s'
      exact ⟨rv, mk_end (raises_own T.exC T.tyC) I1 hsz kk un2 hok2 os2 bare2 ea ed hd1 q2⟩
    | next => exact False.elim hq'
    | brk => exact False.elim hq'
    | cont => exact False.elim hq'
end
end K21
/-! K21Y: the four own errors that are raised: their facts, their __init__, raising them. -/
namespace K21
open PySem PySem.Spec PyProof.Rows L2 He
structure EcF (K : PySem.W.Frag) (e : EC) : Prop where
  oe : OeG K (ga K e.nm) e.bm e.new
  ga' : PySem.W.findIn K (.ref (ga K e.nm)) "__getattribute__" = some (some (.builtin "BaseException.__getattribute__"))
  gg : PySem.W.findIn K (.ref (ga K e.nm)) "__getattr__" = some none
  nof : PySem.W.findIn K (.ref (ga K e.nm)) e.fld = some none
  tkr : PySem.W.takerIn K (ga K e.nm) e.fld = some none
  iC : PySem.W.findIn K (.ref (ga K e.nm)) "__init__" = some (some (.ref (ma K (ga K e.nm) "__init__")))
  fI : PySem.W.isFn K (.ref (ma K (ga K e.nm) "__init__")) = true
  ty : tyB K e.nm = true
  kit : ∀ y ∈ enames, PySem.W.kitOne K (.ref (ga K e.nm)) (.ref (ga K y)) = some (decide (e.nm = y)) ∧ PySem.W.exmOne K (.ref (ga K e.nm)) (.ref (ga K y)) = some (decide (e.nm = y))
theorem ecF_of {K : PySem.W.Frag} {e : EC} (h : ecB K e = true) : EcF K e := by
  unfold ecB at h
  simp only [Bool.and_eq_true, decide_eq_true_eq, List.all_eq_true] at h
  obtain ⟨h1, h2, h3, h4, h5, h6, h7, h8, h9, h10, h11, h12, h13, h14, h15⟩ := h
  have e7 := eqO_ok h7
  have e8 := eqO_ok h8
  have e9 := eqO_ok h9
  have e10 := eqO_ok h10
  have e12 := eqO_ok h12
  exact { oe := { inB := h1, ov := h2, sa := e7, exC := h4, tyC := h5, kC := h3, hd := h6 }, ga' := e8, gg := e9, nof := e10, tkr := h11, iC := e12, fI := h13, ty := h14, kit := h15 }
abbrev eRound : EC := ⟨"BadRound", "given", veB, "ValueError.__new__"⟩
abbrev eRun : EC := ⟨"BadRun", "number", veB, "ValueError.__new__"⟩
abbrev eGreat : EC := ⟨"TooGreat", "most", ovB, "OverflowError.__new__"⟩
abbrev eLeft : EC := ⟨"NothingLeft", "many", rtB, "RuntimeError.__new__"⟩
section
variable {K : PySem.W.Frag} {mg : Str → Option Value}
theorem Tx.eRound (Z : Tx K mg) : EcF K K21.eRound := ecF_of (Z.ec (List.mem_cons_self))
theorem Tx.eRun (Z : Tx K mg) : EcF K K21.eRun := ecF_of (Z.ec (List.mem_cons_of_mem _ List.mem_cons_self))
theorem Tx.eGreat (Z : Tx K mg) : EcF K K21.eGreat := ecF_of (Z.ec (List.mem_cons_of_mem _ (List.mem_cons_of_mem _ List.mem_cons_self)))
theorem Tx.eLeft (Z : Tx K mg) : EcF K K21.eLeft := ecF_of (Z.ec (List.mem_cons_of_mem _ (List.mem_cons_of_mem _ (List.mem_cons_of_mem _ List.mem_cons_self))))
/-- further facts, told -/
structure MoreF (K : PySem.W.Frag) : Prop where
  tyP : tyB K "Pair" = true
  fn : PySem.W.fnIn K (ma K (ga K "Pair") "__call__") = true
  rd : PySem.W.readsIn K (ga K "SetError") (.type "type") = true
  sp : PySem.W.specialIn K (.ref (ga K "SetError")) "__getattribute__" = some (some (.builtin "type.__getattribute__"))
  iS : clsInitB K (.ref (ga K "SetError")) "ValueError.__init__" = true
  iO : clsInitB K (.type "OverflowError") "OverflowError.__init__" = true
  iR : clsInitB K (.type "RuntimeError") "RuntimeError.__init__" = true
theorem Tx.moreF (Z : Tx K mg) : MoreF K := by
  have h := Z.more
  unfold moreB at h
  simp only [Bool.and_eq_true] at h
  obtain ⟨h1, h2, ⟨h3, h4⟩, h5, h6, h7⟩ := h
  have e4 := eqO_ok h4
  exact { tyP := h1, fn := h2, rd := h3, sp := e4, iS := h5, iO := h6, iR := h7 }
theorem clsInit_ok {c : Value} {b : String} (h : clsInitB K c b = true) : PySem.W.findCls K c (.type "type") "__init__" = some (.val (.builtin b)) := by
  unfold clsInitB at h
  split at h
  · rename_i x e
    rw [e, of_decide_eq_true h]
  · cases h
theorem tyOf_ins {H : Hp} {x : Str} (h : tyB K x = true) (c : Cls K (ga K x)) {a dx : Addr} {fs : List (Str × V)} (e : H a = some (.ins (ga K x) dx fs)) : TyOf K H (.ref a) (.ref (ga K x)) := by
  unfold tyB at h
  simp only [Bool.and_eq_true, decide_eq_true_eq] at h
  obtain ⟨h1, h2, h3, h4⟩ := h
  have e1 := eqO_ok h1
  have e2 := eqO_ok h2
  exact TyOf.ins e c e1 e2 h3 h4
end
/-- its __init__'s promise: the field is stored -/
def spEx (C : Addr) (fld : Str) : Sp := fun vs H Q _ => ∃ (a : Addr) (v : V), vs = [.ref a, v] ∧ H a = some (exo a C none) ∧ ∀ d, H d = none → d ≠ a → Q .non (upd (upd H d (exd d [(fld, v)])) a (exo a C (some d)))
/-- C(e): the error's class, its own new dict with the field -/
def tMk1 (C : Addr) (fld : Str) (ta : TA) : L2.St → Hp → XK → Prop := fun σ H Q => ta σ H fun vs H1 => ∃ v, vs = [v] ∧ ∀ d, H1 d = none → Q (.ref C) (some d) (upd H1 d (.xd [(fld, v)]))
theorem mk1_mkO {C : Addr} {fld : Str} {v : V} {H1 : Hp} {Q : XK} (q : ∀ d, H1 d = none → Q (.ref C) (some d) (upd H1 d (.xd [(fld, v)]))) :
    [v].length ≤ 1000 ∧ ∀ a, H1 a = none → spEx C fld (.ref a :: ([v] ++ [])) (upd H1 a (exo a C none)) (fun v H2 => v = .non ∧ ∃ (d : Addr) (fs : List (Str × V)), H2 a = some (exo a C (some d)) ∧ H2 d = some (exd d fs) ∧ H1 d = none ∧ Q (.ref C) (some d) (upd (del H2 a) d (.xd fs))) (fun _ _ _ => False) := by
  refine ⟨(by show 1 ≤ 1000; decide), fun a ha => ⟨a, v, rfl, upd_same, fun d hd hda => ⟨rfl, d, [(fld, v)], upd_same, ?_, ?_, ?_⟩⟩⟩
  · rw [upd_ne hda, upd_same]
  · rw [upd_ne hda] at hd
    exact hd
  · rw [upd_ne hda] at hd
    have e : upd (del (upd (upd (upd H1 a (exo a C none)) d (exd d [(fld, v)])) a (exo a C (some d))) a) d (.xd [(fld, v)]) = upd H1 d (.xd [(fld, v)]) := by
      funext b
      by_cases hb : b = d
      · rw [hb, upd_same, upd_same]
      · rw [upd_ne hb, upd_ne hb]
        by_cases hb2 : b = a
        · rw [hb2, del_same, ha]
        · rw [del_ne hb2, upd_ne hb2, upd_ne hb, upd_ne hb2]
    rw [e]
    exact q d hd
/-- an argument list's reading, weakened at its end -/
def tAm (ta : TA) : TA := fun σ H Q => ∃ Q', ta σ H Q' ∧ ∀ vs H1, Q' vs H1 → Q vs H1
theorem pa_m {X : Cx} {es : List Expr} {ta : TA} (ha : PA X es ta) : PA X es (tAm ta) := ⟨fun pos pins s σ H Q I ⟨Q', h, g⟩ => thn (ha.run pos pins s σ H Q' I h) fun us s' ⟨vs, H1, I1, r, q⟩ => ⟨vs, H1, I1, r, g _ _ q⟩⟩
theorem pmk_imp {X : Cx} {e : Expr} {t u : L2.St → Hp → XK → Prop} (h : PMk X e t) (g : ∀ σ H Q, u σ H Q → t σ H Q) : PMk X e u := fun pins s σ H Q I q => h pins s σ H Q I (g _ _ _ q)
section
variable {P : Program} {w : World} {K : PySem.W.Frag} {mg : Str → Option Value} {base : Heap}
theorem exSp_len {C : Addr} {fld : Str} {ps : List Str} (hp : ps.length = 2) : ∀ vs H Q E, spEx C fld vs H Q E → vs.length = ps.length := fun vs H Q E h => by
  obtain ⟨a, v, rfl, _⟩ := h
  rw [hp] <;> rfl
theorem ok_BadRound (Z : Tx K mg) {fd : FuncData} (F : FunD K "__init__" "BadRound.__init__" (defArgs s_BadRound_init) (defBody s_BadRound_init) (defScope s_BadRound_init) [] [] (ma K (ga K "BadRound") "__init__") fd) : FnOk P w K mg base CX0 1 (ma K (ga K "BadRound") "__init__") fd ["self", "given"] (spEx (ga K "BadRound") "given") := by
  refine F.ok sc_BadRound_init (exSp_len rfl) fun cdv A outer s H vs Q E hr h => ⟨_, PSs.nox (pss_cons (ps_expr (pe_binO bxV (by rfl) Z.g_SetError Z.moreF.sp Z.moreF.rd (clsInit_ok Z.moreF.iS) (pa_cons (pv 0) (pa_cons pe_str pa_nil)) (by decide))) (pss_one (ps_ogs bxV (pv 0) (pv 1)))), ?_⟩
  obtain ⟨a, v, rfl, ha, q⟩ := h
  refine ⟨_, rfl, a, _, [.str _], rfl, (by show 1 ≤ 1000; decide), Z.eRound.oe, ha, ?_⟩
  exact ⟨_, rfl, _, rfl, a, _, rfl, Z.eRound.oe, Z.eRound.tkr, ha, q⟩
theorem pmk_BadRound {X : Cx} (Z : Tx X.K X.mg) {e : Expr} {ta : TA} {p pos : Pos} {k : Nat} (hr : Room (k + 2) X.A) (ha : PA X [e] ta) (hg : Gl X "BadRound" := by rfl)
    (he : starEach [e] X.env = (false, eval e X.env) :: starEach [] X.env := by rfl) (hpl : (backTo pos (starEach [] X.env)).any (·.1) = false := by rfl) : PMk X (.Call (.Name "BadRound" p) [e] [] pos) (tMk1 (ga X.K "BadRound") "given" ta) := by
  obtain ⟨fd, F⟩ := Z.fn_BadRound_init
  have b : Binds X.K fd ["self", "given"] [] := F.bindsN fun _ _ _ _ _ _ us hl => match us, hl with | [_, _], _ => rfl
  exact pmk_imp (pmk_oeg bxV Z.eRound.oe Z.eRound.iC (beq_iff_eq.mp Z.eRound.fI) (ok_BadRound Z F) (hr.mono (by omega)) b .nil pass0 hg Z.g_BadRound (pa_m ha) (by decide) he hpl) fun σ H Q q => ⟨_, q, fun vs H1 ⟨v, e, z⟩ => e ▸ mk1_mkO z⟩
theorem ok_BadRun (Z : Tx K mg) {fd : FuncData} (F : FunD K "__init__" "BadRun.__init__" (defArgs s_BadRun_init) (defBody s_BadRun_init) (defScope s_BadRun_init) [] [] (ma K (ga K "BadRun") "__init__") fd) : FnOk P w K mg base CX0 1 (ma K (ga K "BadRun") "__init__") fd ["self", "number"] (spEx (ga K "BadRun") "number") := by
  refine F.ok sc_BadRun_init (exSp_len rfl) fun cdv A outer s H vs Q E hr h => ⟨_, PSs.nox (pss_cons (ps_expr (pe_binO bxV (by rfl) Z.g_SetError Z.moreF.sp Z.moreF.rd (clsInit_ok Z.moreF.iS) (pa_cons (pv 0) (pa_cons pe_str pa_nil)) (by decide))) (pss_one (ps_ogs bxV (pv 0) (pv 1)))), ?_⟩
  obtain ⟨a, v, rfl, ha, q⟩ := h
  refine ⟨_, rfl, a, _, [.str _], rfl, (by show 1 ≤ 1000; decide), Z.eRun.oe, ha, ?_⟩
  exact ⟨_, rfl, _, rfl, a, _, rfl, Z.eRun.oe, Z.eRun.tkr, ha, q⟩
theorem pmk_BadRun {X : Cx} (Z : Tx X.K X.mg) {e : Expr} {ta : TA} {p pos : Pos} {k : Nat} (hr : Room (k + 2) X.A) (ha : PA X [e] ta) (hg : Gl X "BadRun" := by rfl)
    (he : starEach [e] X.env = (false, eval e X.env) :: starEach [] X.env := by rfl) (hpl : (backTo pos (starEach [] X.env)).any (·.1) = false := by rfl) : PMk X (.Call (.Name "BadRun" p) [e] [] pos) (tMk1 (ga X.K "BadRun") "number" ta) := by
  obtain ⟨fd, F⟩ := Z.fn_BadRun_init
  have b : Binds X.K fd ["self", "number"] [] := F.bindsN fun _ _ _ _ _ _ us hl => match us, hl with | [_, _], _ => rfl
  exact pmk_imp (pmk_oeg bxV Z.eRun.oe Z.eRun.iC (beq_iff_eq.mp Z.eRun.fI) (ok_BadRun Z F) (hr.mono (by omega)) b .nil pass0 hg Z.g_BadRun (pa_m ha) (by decide) he hpl) fun σ H Q q => ⟨_, q, fun vs H1 ⟨v, e, z⟩ => e ▸ mk1_mkO z⟩
theorem ok_TooGreat (Z : Tx K mg) {fd : FuncData} (F : FunD K "__init__" "TooGreat.__init__" (defArgs s_TooGreat_init) (defBody s_TooGreat_init) (defScope s_TooGreat_init) [] [] (ma K (ga K "TooGreat") "__init__") fd) : FnOk P w K mg base CX0 1 (ma K (ga K "TooGreat") "__init__") fd ["self", "most"] (spEx (ga K "TooGreat") "most") := by
  refine F.ok sc_TooGreat_init (exSp_len rfl) fun cdv A outer s H vs Q E hr h => ⟨_, PSs.nox (pss_cons (ps_expr (pe_binB bxO (by rfl) Z.f_OverflowError (by decide +kernel) (by first | rfl | decide +kernel | kernel_rfl) (by decide +kernel) (clsInit_ok Z.moreF.iO) (pa_cons (pv 0) (pa_cons pe_str pa_nil)) (by decide) (by decide))) (pss_one (ps_ogs bxO (pv 0) (pv 1)))), ?_⟩
  obtain ⟨a, v, rfl, ha, q⟩ := h
  refine ⟨_, rfl, a, _, [.str _], rfl, (by show 1 ≤ 1000; decide), Z.eGreat.oe, ha, ?_⟩
  exact ⟨_, rfl, _, rfl, a, _, rfl, Z.eGreat.oe, Z.eGreat.tkr, ha, q⟩
theorem pmk_TooGreat {X : Cx} (Z : Tx X.K X.mg) {e : Expr} {ta : TA} {p pos : Pos} {k : Nat} (hr : Room (k + 2) X.A) (ha : PA X [e] ta) (hg : Gl X "TooGreat" := by rfl)
    (he : starEach [e] X.env = (false, eval e X.env) :: starEach [] X.env := by rfl) (hpl : (backTo pos (starEach [] X.env)).any (·.1) = false := by rfl) : PMk X (.Call (.Name "TooGreat" p) [e] [] pos) (tMk1 (ga X.K "TooGreat") "most" ta) := by
  obtain ⟨fd, F⟩ := Z.fn_TooGreat_init
  have b : Binds X.K fd ["self", "most"] [] := F.bindsN fun _ _ _ _ _ _ us hl => match us, hl with | [_, _], _ => rfl
  exact pmk_imp (pmk_oeg bxO Z.eGreat.oe Z.eGreat.iC (beq_iff_eq.mp Z.eGreat.fI) (ok_TooGreat Z F) (hr.mono (by omega)) b .nil pass0 hg Z.g_TooGreat (pa_m ha) (by decide) he hpl) fun σ H Q q => ⟨_, q, fun vs H1 ⟨v, e, z⟩ => e ▸ mk1_mkO z⟩
theorem ok_NothingLeft (Z : Tx K mg) {fd : FuncData} (F : FunD K "__init__" "NothingLeft.__init__" (defArgs s_NothingLeft_init) (defBody s_NothingLeft_init) (defScope s_NothingLeft_init) [] [] (ma K (ga K "NothingLeft") "__init__") fd) : FnOk P w K mg base CX0 1 (ma K (ga K "NothingLeft") "__init__") fd ["self", "many"] (spEx (ga K "NothingLeft") "many") := by
  refine F.ok sc_NothingLeft_init (exSp_len rfl) fun cdv A outer s H vs Q E hr h => ⟨_, PSs.nox (pss_cons (ps_expr (pe_binB bxR (by rfl) Z.f_RuntimeError (by decide +kernel) (by first | rfl | decide +kernel | kernel_rfl) (by decide +kernel) (clsInit_ok Z.moreF.iR) (pa_cons (pv 0) (pa_cons pe_str pa_nil)) (by decide) (by decide))) (pss_one (ps_ogs bxR (pv 0) (pv 1)))), ?_⟩
  obtain ⟨a, v, rfl, ha, q⟩ := h
  refine ⟨_, rfl, a, _, [.str _], rfl, (by show 1 ≤ 1000; decide), Z.eLeft.oe, ha, ?_⟩
  exact ⟨_, rfl, _, rfl, a, _, rfl, Z.eLeft.oe, Z.eLeft.tkr, ha, q⟩
theorem pmk_NothingLeft {X : Cx} (Z : Tx X.K X.mg) {e : Expr} {ta : TA} {p pos : Pos} {k : Nat} (hr : Room (k + 2) X.A) (ha : PA X [e] ta) (hg : Gl X "NothingLeft" := by rfl)
    (he : starEach [e] X.env = (false, eval e X.env) :: starEach [] X.env := by rfl) (hpl : (backTo pos (starEach [] X.env)).any (·.1) = false := by rfl) : PMk X (.Call (.Name "NothingLeft" p) [e] [] pos) (tMk1 (ga X.K "NothingLeft") "many" ta) := by
  obtain ⟨fd, F⟩ := Z.fn_NothingLeft_init
  have b : Binds X.K fd ["self", "many"] [] := F.bindsN fun _ _ _ _ _ _ us hl => match us, hl with | [_, _], _ => rfl
  exact pmk_imp (pmk_oeg bxR Z.eLeft.oe Z.eLeft.iC (beq_iff_eq.mp Z.eLeft.fI) (ok_NothingLeft Z F) (hr.mono (by omega)) b .nil pass0 hg Z.g_NothingLeft (pa_m ha) (by decide) he hpl) fun σ H Q q => ⟨_, q, fun vs H1 ⟨v, e, z⟩ => e ▸ mk1_mkO z⟩
end
end K21
/-! K21S: try: .. except (A, B, ..) as e: kept = e / except (C, ..) as e: kept = e: the caught error stays as an object. -/
namespace PySem.W
open PySem PySem.Spec PySem.Calls PyProof.Rows
section
variable {M : Model} {A : Around} {E : Value → Shared → Prop} {K : Frag}
theorem each_exc {F : Value → PUnit → Sem (ForInStep PUnit)} (hF : ∀ (c : Value) (s : Shared) (Q : ForInStep PUnit → Shared → Prop), Looks M s.heap (isExcClass c) true → Q (.yield ⟨⟩) s → wpAny M A (F c ⟨⟩) Q E s) :
    ∀ (l : List Value) (s : Shared) (Q : PUnit → Shared → Prop), (∀ c ∈ l, Looks M s.heap (isExcClass c) true) → Q ⟨⟩ s → wpAny M A (forIn l (⟨⟩ : PUnit) F) Q E s
  | [], s, Q, _, q => wpAny_pure q
  | c :: l, s, Q, h, q => by
    rw [List.forIn_cons]
    exact wpAny_bind (hF c s _ (h c List.mem_cons_self) (each_exc hF l s Q (fun x hx => h x (List.mem_cons_of_mem _ hx)) q))
theorem each_sub {te : Value} {bs : Value → Bool} {F : Value → Option Bool × Unit → Sem (ForInStep (Option Bool × Unit))}
    (hF : ∀ (c : Value) (b : Bool) (s : Shared) (Q : ForInStep (Option Bool × Unit) → Shared → Prop), Looks M s.heap (isSubtype te c) b → (b = true → Q (.done (some true, ())) s) → (b = false → Q (.yield (none, ())) s) → wpAny M A (F c (none, ())) Q E s) :
    ∀ (l : List Value) (s : Shared) (Q : Option Bool × Unit → Shared → Prop), (∀ c ∈ l, Looks M s.heap (isSubtype te c) (bs c)) → Q (if l.any bs then some true else none, ()) s → wpAny M A (forIn l ((none : Option Bool), ()) F) Q E s
  | [], s, Q, _, q => wpAny_pure q
  | c :: l, s, Q, h, q => by
    rw [List.forIn_cons]
    refine wpAny_bind (hF c (bs c) s _ (h c List.mem_cons_self) (fun e => wpAny_pure ?_) fun e => each_sub hF l s Q (fun x hx => h x (List.mem_cons_of_mem _ hx)) ?_)
    · rw [List.any_cons, e, Bool.true_or, if_pos rfl] at q
      exact q
    · rw [List.any_cons, e, Bool.false_or] at q
      exact q
/-- a tuple of own classes in an except clause -/
theorem exm_tupN {cs : List Value} {bs : Value → Bool} {cls : Value} {tp e : Addr} {h : Heap} (X : K.In h) (LT : Looks M h (typeOf (.ref e)) cls) (hp : ∃ o n, h.get? tp = some o ∧ o.cls = .type "tuple" ∧ o.data = .seq cs.toArray n) (hx : ∀ c ∈ cs, exmOne K cls c = some (bs c)) :
    Looks M h (excMatches (.ref e) (.ref tp)) (cs.any bs) := by
  obtain ⟨o, n, ho, hoc, hod⟩ := hp
  intro A Q E s k₀ q
  obtain ⟨hh, g, d, tk, os⟩ := s
  have k : ∀ b o, h.get? b = some o → hh.get? b = some o := k₀
  have LT0 : Looks M h (isInstance (.ref tp) (.type "tuple")) true := by
    have z : Looks M h (typeOf (.ref tp)) (.type "tuple") := fun A Q E s k q => wpAny_typeOf_ref (k _ _ ho) (by rw [hoc]; exact q)
    exact z.andThen (Looks.of_pure isSubtype_tuple_tuple)
  have LT1 := LT.keeps k
  have LT2 := LT0.keeps k
  have ho' := k _ _ ho
  have S1 : ∀ c ∈ cs, Looks M hh (isExcClass c) true := fun c hc => (exm_cls (M := M) X (hx c hc)).1.keeps k
  have S2 : ∀ c ∈ cs, Looks M hh (isSubtype cls c) (bs c) := fun c hc => (exm_cls (M := M) X (hx c hc)).2.keeps k
  unfold excMatches
  refine wpAny_bind (LT2.at ?_)
  dsimp only
  rw [if_pos rfl]
  first
    | refine wpAny_bind (wpAny_seqItems ho' hod ?_)
    | refine wpAny_bind (wpAny_bind (wpAny_seqItems ho' hod (wpAny_pure ?_)))
  dsimp only [Option.getD_some, Option.getD]
  refine wpAny_bind (wpAny_pure ?_)
  refine wpAny_bind (each_exc (fun c s' Q' Lc hq => ?_) cs _ _ S1 ?_)
  · obtain ⟨h2, g2, d2, t2, o2⟩ := s'
    refine wpAny_bind (Lc.at ?_)
    simp only [Bool.not_true, Bool.false_eq_true, if_false]
    (repeat lk)
    exact hq
  · refine wpAny_bind (LT1.at ?_)
    refine wpAny_bind (each_sub (te := cls) (bs := bs) (fun c b s' Q' Lc h1 h2 => ?_) cs _ _ S2 ?_)
    · obtain ⟨h3, g3, d3, t3, o3⟩ := s'
      refine wpAny_bind (Lc.at ?_)
      cases b with
      | true =>
        simp only [if_true]
        (repeat lk)
        exact h1 rfl
      | false =>
        simp only [Bool.false_eq_true, if_false]
        (repeat lk)
        exact h2 rfl
    · cases hb : cs.any bs with
      | true =>
        rw [if_pos rfl]
        rw [hb] at q
        (repeat lk)
        exact q
      | false =>
        rw [if_neg Bool.false_ne_true]
        rw [hb] at q
        (repeat lk)
        exact q
end
end PySem.W
namespace K21
open PySem PySem.Spec PyProof.Rows L2
/-- a caught error that stays as an object -/
def ExcO (cls : Value) (d : Option Addr) (a : Addr) : HO := .ext fun h => ∃ (oe : Obj) (vs : Array Value), h.get? a = some oe ∧ Zc cls d oe ∧ oe.data = .fields vs
section
variable {X : Cx} {pins : List (Addr × Obj)} {σ : L2.St} {H : Hp} {s : Shared}
/-- an object that came since the entry, out of sight, is tracked from now on -/
theorem inv_track {a : Addr} {oe : Obj} {vs : Array Value} {cls : Value} {d : Option Addr} (I : Inv X pins σ H s) (ha : s.heap.get? a = some oe) (hz : Zc cls d oe) (hd : oe.data = .fields vs) (na : H a = none) (nL : a ≠ X.env.locals)
    (nc : ∀ x c, X.env.cells.lookup x = some c → c ≠ a) (np : ∀ p ∈ X.pn ++ pins, p.1 ≠ a) (n0 : X.s_0.heap.get? a = none) : Inv X pins σ (upd H a (ExcO cls d a)) s := by
  have sm : ∀ b o, H b = some o → upd H a (ExcO cls d a) b = some o := fun b o e => by
    rw [upd_ne (ne_of_none e na)]
    exact e
  refine ⟨I.ok, I.os, I.bare, ⟨I.base.keep, I.base.slot, fun b o e n hx => ?_, I.base.there, fun b xs e => sm _ _ (I.base.tups b xs e), fun b o u e => sm _ _ (I.base.frzs b o u e), fun b ps e => ?_⟩, I.loc, I.cell, ?_, fun x c e => ?_, fun p hp => ?_, fun b o e => ?_, I.len⟩
  · rw [upd_ne fun z => by rw [z, n0] at e; cases e]
    exact I.base.free b o e n hx
  · obtain ⟨more, q⟩ := I.base.tbls b ps e
    exact ⟨more, sm _ _ q⟩
  · rw [upd_ne (Ne.symm nL)]
    exact I.free
  · rw [upd_ne (nc x c e)]
    exact I.freeC x c e
  · obtain ⟨q1, q2, q3⟩ := I.pin p hp
    exact ⟨q1, by rw [upd_ne (np p hp)]; exact q2, q3⟩
  · by_cases hb : b = a
    · rw [hb, upd_same] at e
      cases e
      rw [hb]
      exact ⟨⟨oe, vs, ha, hz, hd⟩, ⟨oe, ha⟩, fun h1 h2 ⟨o, v, q1, q2, q3⟩ st => ⟨o, v, st _ q1, q2, q3⟩⟩
    · rw [upd_ne hb] at e
      exact (I.hok b o e).stay (fun _ _ _ q => q) (fun c q => sm _ _ q) fun c xs q => sm _ _ q
theorem flying_kept {B h h' : Heap} {l : List Env} {a : Addr} {Z : Obj → Prop} (f : HandSPX.FlyingZ B l a Z h) (k : ∀ b o, h.get? b = some o → h'.get? b = some o) : HandSPX.FlyingZ B l a Z h' := by
  obtain ⟨f1, f2, f3, oe, vs, T, oT, ts, e1, e2, e3, e4, e5, e6, e7, e8, e9⟩ := f
  exact ⟨fun b o e => k b o (f1 b o e), f2, Heap.FunFrames.of_keeps (fun b o e _ => ⟨o, k b o e, rfl⟩) f3, oe, vs, T, oT, ts, k _ _ e1, e2, e3, e4, e5, e6, k _ _ e7, e8, e9⟩
end
/-- the classes that a clause names -/
inductive ClsNm (X : Cx) : List Expr → List Addr → Prop
  | nil : ClsNm X [] []
  | cons {x : Str} {p : Pos} {es : List Expr} {C : Addr} {cs : List Addr} (hg : Gl X x) (hm : X.mg x = some (.ref C)) (hd : (x == ("__debug__" : Str)) = false) (r : ClsNm X es cs) : ClsNm X (.Name x p :: es) (C :: cs)
inductive HdT (X : Cx) (y n : Str) : List ExceptHandler → List (List Addr) → Prop
  | nil : HdT X y n [] []
  | cons {es : List Expr} {cs : List Addr} {k : Nat} {tp py pn pa pos' : Pos} {hds : List ExceptHandler} {css : List (List Addr)} (hn : ClsNm X es cs) (hl : cs.length ≤ 1000) (r : HdT X y n hds css) :
      HdT X y n (.ExceptHandler (some (.Tuple es k tp)) (some n) [.Assign [.Name y py] (.Name n pn) pa] pos' :: hds) (cs :: css)
theorem clsNm_run {X : Cx} {pins : List (Addr × Obj)} {σ : L2.St} {H : Hp} {s : Shared} (I : Inv X pins σ H s) {E : Value → Shared → Prop} {pos : Pos} : ∀ {es : List Expr} {cs : List Addr} {Q : List Value → Shared → Prop}, ClsNm X es cs → Q (cs.map Value.ref) s → wpAny (model X.prog X.w) X.A (spliced (backTo pos (starEach es X.env))) Q E s
  | _, _, _, .nil, q => Calls.spliced_nil q
  | _, _, _, .cons hg hm hd r, q => Calls.spliced_cons (ld_glob I hg hm (clsNm_run I r q) hd)
/-- what the clauses wish of an error: one of them names it; from then on it is an object of ours -/
def wSaid (K : PySem.W.Frag) (css : List (List Addr)) (iy i : Nat) (D : Ends) : WX := fun cls d σ H => ∃ b : Value → Bool, (∀ cs ∈ css, ∀ c ∈ cs, PySem.W.exmOne K cls (.ref c) = some (b (.ref c))) ∧ (∃ cs ∈ css, (cs.map Value.ref).any b = true) ∧
  ∀ a, H a = none → D.nx (((σ.set i (some (.ref a))).set iy (some (.ref a))).set i none) (upd H a (ExcO cls d a))
section
variable {X : Cx} {y n : Str} {iy i : Nat} {body : List Stmt} {h₀ : ExceptHandler} {hds : List ExceptHandler} {css : List (List Addr)} {pos : Pos} {tb : WX → TS}
theorem ps_try_said (pl : Plain X) (hN : X.N.Nodup) (hi : X.N[i]? = some n) (hln : X.env.kindOf n = some .local) (hy : X.N[iy]? = some y) (hly : X.env.scope.names.lookup y = some .local) (hcl : X.env.cells = []) (hd1 : (n == ("__debug__" : Str)) = false) (hd2 : (n == ("__classdict__" : Str)) = false)
    (hb : ∀ (W : WX) (pn : List (Addr × Obj)) (xe : Value → Shared → Prop), Takes (X.tr pn xe) W → PSs (X.tr pn xe) body (tb W)) (hh : HdT X y n (h₀ :: hds) css) :
    PS X (.Try body (h₀ :: hds) [] [] pos) (fun D σ H => tb (wSaid X.K css iy i D) D σ H) := by
  refine ⟨fun pins s σ H D I h => ?_⟩
  have ok := I.ok
  have hs := pl.stk
  have hf := pl.fr
  have hfr : X.A.frames = some (X.env :: X.outer) := by rw [ok.frames, hs]
  refine wpAny_Try_except ?_
  refine wpAny_mono ((hb (wSaid X.K css iy i D) (X.pn ++ pins) (fun e s₁ => wpAny (model X.prog X.w) X.A (noteFrame e X.env) (fun _ s₂ => wpAny (model X.prog X.w) X.A (setFlight e none) (fun _ s₃ =>
    wpAny (model X.prog X.w) X.A (handleBy e X.env (h₀ :: hds)) (SP X pins D) X.xe s₃) X.xe s₂) X.xe s₁) (fun u s' xx => ?_)).run [] s σ H D (I.toTry _) h) (fun f s1 hsp => ?_) (fun e s1 he => he)
  · obtain ⟨a, B, sI, pins', σ', H', cls, d, rfl, J', nb, up, sky, na, os, ag, b, hb1, hany, hnx⟩ := xx
    have J : Inv X pins σ' H' sI := J'.ofTry ok
    have sky' : Sky B (X.env :: X.outer) a (Zc cls d) X.env.locals s'.heap := by rw [← hs]; exact sky
    show wpAny (model X.prog X.w) X.A (noteFrame (.ref a) X.env) _ _ _
    refine Sky.land Zc.steady hfr hf sky' fun h3 fl3 up3 => ?_
    have notFr : ∀ {h : Heap} {o : Obj} {vs : Array Value}, h.FunFrames B (X.env :: X.outer) → h.get? a = some o → o.data = .fields vs → a ∉ frs (X.env :: X.outer) := fun {h o vs} ff e dd hm => by
      obtain ⟨_, o', e', hnf⟩ := ff.mem hm
      rw [e] at e'; cases e'
      exact hnf _ dd
    obtain ⟨oe3, vs3, he3, hz3, hd3⟩ := fl3.there
    have nfr := notFr fl3.2.2.1 he3 hd3
    have nL : a ≠ X.env.locals := fun z => nfr (List.mem_filterMap.mpr ⟨X.env, List.mem_cons_self, by rw [hf, z]⟩)
    have nF : a ∉ X.fs := fun hm => by
      obtain ⟨e, he, q⟩ := List.mem_filterMap.mp hm
      exact nfr (List.mem_filterMap.mpr ⟨e, List.mem_cons_of_mem _ he, q⟩)
    have nfr2 : a ∉ frs X.stack := by rw [hs]; exact nfr
    have n0 : X.s_0.heap.get? a = none := by
      cases e : X.s_0.heap.get? a with
      | none => rfl
      | some o =>
        obtain ⟨o', e'⟩ := J.base.there a o e (by rw [pl.ex]; simp)
        have z := nb a o' e' nfr2
        rw [fl3.2.1] at z
        cases z
    have nIa : sI.heap.get? a = none := by
      cases e : sI.heap.get? a with
      | none => rfl
      | some o =>
        have z := nb a o e nfr2
        rw [fl3.2.1] at z
        cases z
    have npin : ∀ p ∈ X.pn ++ pins, p.1 ≠ a := fun p hp z => by
      have q := (J.pin p hp).1
      rw [z, nIa] at q
      cases q
    have nc : ∀ x c, X.env.cells.lookup x = some c → c ≠ a := fun x c e => by
      rw [hcl] at e
      cases e
    have go : ∀ {hds' : List ExceptHandler} {css' : List (List Addr)}, HdT X y n hds' css' → (∀ cs ∈ css', ∀ c ∈ cs, PySem.W.exmOne X.K cls (.ref c) = some (b (.ref c))) → (∃ cs ∈ css', (cs.map Value.ref).any b = true) →
        ∀ (h : Heap) (t' : Nat), (∀ b o, h3.get? b = some o → h.get? b = some o) → wpAny (model X.prog X.w) X.A (handleBy (.ref a) X.env hds') (SP X pins D) X.xe { s' with heap := h, toks := t' } := by
      intro hds' css' hk
      induction hk with
      | nil =>
        intro _ w
        obtain ⟨cs, hm, _⟩ := w
        cases hm
      | @cons es cs k tp py pn pa pos' hds2 css2 hn hl r ih =>
        intro hx w h t' kp
        have fl := flying_kept fl3 kp
        have up0 : s'.heap.UpToSlots h := up3.trans (Heap.UpToSlots.of_keeps kp)
        have Jh : Inv X pins σ' H' { s' with heap := h, toks := t' } := (J.landed (s' := { s' with heap := h, toks := t' }) nb fl.1 (up.trans up0) os ag)
        obtain ⟨oe, vs, he, hz, hd⟩ := fl.there
        have S := Jh.suite he hd na nL nF
        refine wpAny_handleBy_cons (codeAny_handlers_test ?_) (by intro q; cases q)
        have nm : ClsNm (X.suite a ((a, oe) :: (X.pn ++ pins))) es cs := by
          clear hl hx w
          induction hn with
          | nil => exact .nil
          | cons hg hm hd r ih2 => exact .cons hg hm hd ih2
        refine wpAny_Tuple_spliced (clsNm_run S nm ⟨by rw [List.length_map, sizeLine_eq]; omega, ?_⟩)
        have kp2 : ∀ b o, h.get? b = some o → (h.push { cls := .type "tuple", data := .seq (cs.map Value.ref).toArray }).get? b = some o := fun b o e => Heap.get?_push_of_some _ e
        have J2 : Inv X pins σ' H' { s' with heap := h.push { cls := .type "tuple", data := .seq (cs.map Value.ref).toArray }, toks := t' } := Jh.kept (t' := t') kp2
        have LT : PySem.W.Looks (model X.prog X.w) (h.push { cls := .type "tuple", data := .seq (cs.map Value.ref).toArray }) (typeOf (.ref a)) cls := fun A Q E s k q => wpAny_typeOf_ref (k _ _ (kp2 _ _ he)) (by rw [hz.1]; exact q)
        have LM := PySem.W.exm_tupN (M := model X.prog X.w) (bs := b) J2.kIn LT ⟨_, _, Heap.get?_push_size _ rfl, rfl, rfl⟩ (fun c hc => by
          obtain ⟨c1, hc1, rfl⟩ := List.mem_map.mp hc
          exact hx cs List.mem_cons_self c1 hc1)
        refine LM.here ?_
        cases hbb : (cs.map Value.ref).any b with
        | true =>
          rw [if_pos rfl]
          refine codeAny_handlers_suite_as ?_
          have fl4 := flying_kept fl kp2
          refine HandSPX.lands_againZ fl4 fun h5 fl5 up5 => ?_
          have J5 : Inv X pins σ' H' { s' with heap := h5, toks := t' } := J.landed (s' := { s' with heap := h5, toks := t' }) nb fl5.1 ((up.trans up0).trans ((Heap.UpToSlots.of_keeps kp2).trans up5)) os ag
          obtain ⟨oe5, vs5, he5, hz5, hd5⟩ := fl5.there
          have S5 := J5.suite he5 hd5 na nL nF
          refine store_ok (X := X.suite a ((a, oe5) :: (X.pn ++ pins))) (v := .ref a) S5 hN hi (.inl hln) rfl (fun s6 S6 => ?_) (.inr hln)
          have hlen : i < σ'.length := by
            rw [J5.len]
            exact (List.getElem?_eq_some_iff.mp hi).1
          have body_ : PSs (X.suite a ((a, oe5) :: (X.pn ++ pins))) [.Assign [.Name y py] (.Name n pn) pa] _ := pss_one (ps_set (i := iy) hN hy (.inl hly) (pe_var (i := i) hi (.inl hln) hd1 hd2) rfl (.inr hly))
          refine wpAny_mono (body_.run [] s6 _ H' { nx := fun σ7 H7 => σ7 = (σ'.set i (some (.ref a))).set iy (some (.ref a)) ∧ H7 = H', rt := fun _ _ => False } S6 ⟨.ref a, List.getElem?_set_self hlen, rfl, rfl⟩) (fun f s7 hsp => ?_) (fun _ _ z => False.elim z)
          cases f with
          | next =>
            obtain ⟨σ7, H7, S7, e1, e2⟩ := hsp
            subst e1
            subst e2
            have ha7 := (S7.pin (a, oe5) (List.mem_append_left _ List.mem_cons_self)).1
            have J7 := inv_track (S7.unsuite ok) ha7 hz5 hd5 na nL nc npin n0
            exact gone_ok J7 hN hi hln fun s8 J8 => ⟨_, _, J8, hnx a na⟩
          | brk =>
            obtain ⟨_, _, _, q⟩ := hsp
            exact q.elim
          | cont =>
            obtain ⟨_, _, _, q⟩ := hsp
            exact q.elim
          | ret u =>
            obtain ⟨_, _, _, _, _, q⟩ := hsp
            exact q.elim
        | false =>
          rw [if_neg Bool.false_ne_true]
          refine ih (fun cs' hc => hx cs' (List.mem_cons_of_mem _ hc)) ?_ _ t' (fun b o e => kp2 b o (kp b o e))
          obtain ⟨cs', hc, z⟩ := w
          rcases List.mem_cons.mp hc with e | e
          · rw [e, hbb] at z
            cases z
          · exact ⟨cs', e, z⟩
    exact go hh hb1 hany h3 s'.toks (fun _ _ e => e)
  · cases f with
    | next =>
      obtain ⟨σ', H', J', q⟩ := hsp
      exact wpAny_execs_nil ⟨σ', H', J'.ofTry ok, q⟩
    | brk =>
      obtain ⟨σ', H', J', q⟩ := hsp
      exact ⟨σ', H', J'.ofTry ok, q⟩
    | cont =>
      obtain ⟨σ', H', J', q⟩ := hsp
      exact ⟨σ', H', J'.ofTry ok, q⟩
    | ret u =>
      obtain ⟨v, σ', H', J', r, q⟩ := hsp
      exact ⟨v, σ', H', J'.ofTry ok, r, q⟩
end
end K21
/-! K21P: data without lists (Dt), what is kept (Ke), rules that speak of data. -/
namespace K21
open PySem PySem.Spec PyProof.Rows L2 LamX He
mutual
/-- v is the datum d: none, bools, ints, texts, tuples of such -/
inductive Dt (K : PySem.W.Frag) (H : Hp) : V → PyData → Prop
  | non : Dt K H .non .none
  | bl (b : Bool) : Dt K H (.bl b) (.bool b)
  | int (i : Int) : Dt K H (.int i) (.int i)
  | str (x : Str) : Dt K H (.str x) (.str x)
  | tup {a : Addr} {xs : List V} {ds : List PyData} : SqT K H a xs → DtAll K H xs ds → Dt K H (.ref a) (.tuple ds)
inductive DtAll (K : PySem.W.Frag) (H : Hp) : List V → List PyData → Prop
  | nil : DtAll K H [] []
  | cons {v : V} {vs : List V} {d : PyData} {ds : List PyData} : Dt K H v d → DtAll K H vs ds → DtAll K H (v :: vs) (d :: ds)
end
/-- tuples stay -/
def TupK (H H' : Hp) : Prop := ∀ a xs, (H a = some (.tup xs) → H' a = some (.tup xs)) ∧ ∀ o, H a = some (.frz o (.tup xs)) → H' a = some (.frz o (.tup xs))
theorem _root_.L2.SqT.tk {K : PySem.W.Frag} {H H' : Hp} {a : Addr} {xs : List V} (h : SqT K H a xs) (t : TupK H H') : SqT K H' a xs := by
  rcases h with (h | ⟨o, h⟩) | h
  · exact .inl (.inl ((t a xs).1 h))
  · exact .inl (.inr ⟨o, (t a xs).2 o h⟩)
  · exact .inr h
mutual
theorem Dt.tk {K : PySem.W.Frag} {H H' : Hp} (t : TupK H H') : ∀ (d : PyData) (v : V), Dt K H v d → Dt K H' v d
  | .none, _, h => by cases h; exact .non
  | .bool b, _, h => by cases h; exact .bl b
  | .int i, _, h => by cases h; exact .int i
  | .str x, _, h => by cases h; exact .str x
  | .tuple ds, _, h => by
    cases h with
    | tup hs ha => exact .tup (SqT.tk hs t) (DtAll.tk t ds _ ha)
  | .list _, _, h => by cases h
  | .dict _, _, h => by cases h
theorem DtAll.tk {K : PySem.W.Frag} {H H' : Hp} (t : TupK H H') : ∀ (ds : List PyData) (vs : List V), DtAll K H vs ds → DtAll K H' vs ds
  | [], _, h => by cases h; exact .nil
  | d :: ds, _, h => by
    cases h with
    | cons h1 h2 => exact .cons (Dt.tk t d _ h1) (DtAll.tk t ds _ h2)
end
mutual
theorem Dt.dp {K : PySem.W.Frag} {H : Hp} : ∀ (d : PyData) (v : V), Dt K H v d → Dp K H v d
  | .none, _, h => by cases h; exact .non
  | .bool b, _, h => by cases h; exact .bl b
  | .int i, _, h => by cases h; exact .int i
  | .str x, _, h => by cases h; exact .str x
  | .tuple ds, _, h => by
    cases h with
    | tup hs ha => exact .tup hs (DtAll.dp ds _ ha)
  | .list _, _, h => by cases h
  | .dict _, _, h => by cases h
theorem DtAll.dp {K : PySem.W.Frag} {H : Hp} : ∀ (ds : List PyData) (vs : List V), DtAll K H vs ds → DpAll K H vs ds
  | [], _, h => by cases h; exact .nil
  | d :: ds, _, h => by
    cases h with
    | cons h1 h2 => exact .cons (Dt.dp d _ h1) (DtAll.dp ds _ h2)
end
section
variable {K : PySem.W.Frag} {H H' H1 H2 : Hp} {v : V} {vs ws : List V} {d : PyData} {ds es : List PyData} {i : Int} {b : Bool} {x : Str}
theorem Dt.int_ (h : Dt K H v (.int i)) : v = .int i := by cases h; rfl
theorem Dt.bl_ (h : Dt K H v (.bool b)) : v = .bl b := by cases h; rfl
theorem Dt.non_ (h : Dt K H v .none) : v = .non := by cases h; rfl
theorem Dt.str_ (h : Dt K H v (.str x)) : v = .str x := by cases h; rfl
theorem Dt.tup_ (h : Dt K H v (.tuple ds)) : ∃ a xs, v = .ref a ∧ SqT K H a xs ∧ DtAll K H xs ds := by
  cases h with
  | tup hs ha => exact ⟨_, _, rfl, hs, ha⟩
theorem DtAll.nil_ (h : DtAll K H vs []) : vs = [] := by cases h; rfl
theorem DtAll.cons_ (h : DtAll K H vs (d :: ds)) : ∃ v r, vs = v :: r ∧ Dt K H v d ∧ DtAll K H r ds := by
  cases h with
  | cons h1 h2 => exact ⟨_, _, rfl, h1, h2⟩
theorem DtAll.length : ∀ {vs : List V} {ds : List PyData}, DtAll K H vs ds → vs.length = ds.length
  | _, [], h => by cases h; rfl
  | _, _ :: _, h => by
    obtain ⟨v, r, rfl, _, h2⟩ := h.cons_
    simp [h2.length]
theorem DtAll.get : ∀ {vs : List V} {ds : List PyData} {j : Nat} {d : PyData}, DtAll K H vs ds → ds[j]? = some d → ∃ v, vs[j]? = some v ∧ Dt K H v d
  | _, [], _, _, _, e => by cases e
  | _, _ :: _, 0, _, h, e => by
    obtain ⟨v, r, rfl, h1, _⟩ := h.cons_
    cases e
    exact ⟨v, rfl, h1⟩
  | _, _ :: _, j + 1, _, h, e => by
    obtain ⟨v, r, rfl, _, h2⟩ := h.cons_
    exact h2.get (j := j) e
theorem DtAll.at_ : ∀ {vs : List V} {ds : List PyData} {j : Nat} {v : V}, DtAll K H vs ds → vs[j]? = some v → ∃ d, ds[j]? = some d ∧ Dt K H v d
  | _, [], _, _, h, e => by cases h; cases e
  | _, _ :: _, 0, _, h, e => by
    obtain ⟨v, r, rfl, h1, _⟩ := h.cons_
    cases e
    exact ⟨_, rfl, h1⟩
  | _, _ :: _, j + 1, _, h, e => by
    obtain ⟨v, r, rfl, _, h2⟩ := h.cons_
    exact h2.at_ (j := j) e
theorem DtAll.append : ∀ {vs ws : List V} {ds es : List PyData}, DtAll K H vs ds → DtAll K H ws es → DtAll K H (vs ++ ws) (ds ++ es)
  | _, _, [], _, h, k => by cases h; exact k
  | _, _, _ :: _, _, h, k => by
    obtain ⟨v, r, rfl, h1, h2⟩ := h.cons_
    exact .cons h1 (h2.append k)
theorem DtAll.take : ∀ {vs : List V} {ds : List PyData} (n : Nat), DtAll K H vs ds → DtAll K H (vs.take n) (ds.take n)
  | _, _, 0, _ => by simp; exact .nil
  | _, [], n + 1, h => by cases h; exact .nil
  | _, _ :: _, n + 1, h => by
    obtain ⟨v, r, rfl, h1, h2⟩ := h.cons_
    exact .cons h1 (h2.take n)
theorem DtAll.drop : ∀ {vs : List V} {ds : List PyData} (n : Nat), DtAll K H vs ds → DtAll K H (vs.drop n) (ds.drop n)
  | _, _, 0, h => by simpa using h
  | _, [], n + 1, h => by cases h; exact .nil
  | _, _ :: _, n + 1, h => by
    obtain ⟨v, r, rfl, h1, h2⟩ := h.cons_
    exact h2.drop n
theorem DtAll.reverse : ∀ {vs : List V} {ds : List PyData}, DtAll K H vs ds → DtAll K H vs.reverse ds.reverse
  | _, [], h => by cases h; exact .nil
  | _, _ :: _, h => by
    obtain ⟨v, r, rfl, h1, h2⟩ := h.cons_
    simp only [List.reverse_cons]
    exact h2.reverse.append (.cons h1 .nil)
theorem DtAll.ints : ∀ {vs : List V} {ns : List Int}, DtAll K H vs (ns.map PyData.int) → vs = ns.map V.int
  | _, [], h => h.nil_
  | _, n :: ns, h => by
    obtain ⟨v, r, rfl, h1, h2⟩ := h.cons_
    rw [h1.int_, h2.ints]
    rfl
theorem DtAll.ofInts : ∀ (ns : List Int), DtAll K H (ns.map V.int) (ns.map PyData.int)
  | [] => .nil
  | n :: ns => .cons (.int n) (DtAll.ofInts ns)
end
/-! ### what a call leaves as it was -/
def imm : HO → Bool
  | .tup _ => true
  | .lst _ => true
  | .frz _ _ => true
  | .own _ => true
  | _ => false
def isTbl : HO → Bool
  | .tbl _ => true
  | _ => false
/-- the code tables of the defs that make lambdas, with the lambdas' qualified names -/
abbrev TK (K : PySem.W.Frag) : List (Addr × Str) := tfs.map fun p => ((cT K p).2, p.1 ++ ".<locals>.<lambda>")
/-- all but the things at M and the code tables is as it was -/
structure Ke (K : PySem.W.Frag) (M : List Addr) (H H' : Hp) : Prop where
  kp : ∀ b o, H b = some o → (imm o = true ∨ (b ∉ M ∧ isTbl o = false)) → H' b = some o
  tab : Tabs (TK K) H → Tabs (TK K) H'
/-- all but the things at M is as it was -/
structure Kx (K : PySem.W.Frag) (M : List Addr) (H H' : Hp) : Prop where
  kp : ∀ b o, H b = some o → (imm o = true ∨ b ∉ M) → H' b = some o
  tab : Tabs (TK K) H → Tabs (TK K) H'
section
variable {K : PySem.W.Frag} {M M' : List Addr} {H H' H1 H2 : Hp} {a p : Addr} {o : HO} {v : V} {d : PyData}
theorem Kx.refl : Kx K M H H := ⟨fun _ _ e _ => e, id⟩
theorem Kx.ext (e : Ext H H') : Kx K M H H' := ⟨fun b o h _ => e b o h, fun t => t.ext e⟩
theorem Kx.trans (h : Kx K M H H1) (k : Kx K M H1 H2) : Kx K M H H2 := ⟨fun b o e c => k.kp b o (h.kp b o e c) c, fun t => k.tab (h.tab t)⟩
theorem Kx.mono (h : Kx K M H H') (s : ∀ b ∈ M, b ∈ M') : Kx K M' H H' := ⟨fun b o e c => h.kp b o e (c.imp id fun z m => z (s b m)), h.tab⟩
theorem Kx.tk (k : Kx K M H H') : TupK H H' := fun a xs => ⟨fun e => k.kp a _ e (.inl rfl), fun o e => k.kp a _ e (.inl rfl)⟩
theorem Kx.lst {xs : List V} (k : Kx K M H H') (h : H a = some (.lst xs)) : H' a = some (.lst xs) := k.kp _ _ h (.inl rfl)
theorem Ke.lst {xs : List V} (k : Ke K M H H') (h : H a = some (.lst xs)) : H' a = some (.lst xs) := k.kp _ _ h (.inl rfl)
theorem Kx.sql {xs : List V} (k : Kx K M H H') (h : SqL K H a xs) : SqL K H' a xs := by
  rcases h with (h | ⟨o, h⟩) | h
  · exact .inl (.inl (k.lst h))
  · exact .inl (.inr ⟨o, k.kp _ _ h (.inl rfl)⟩)
  · exact .inr h
theorem Ke.sql {xs : List V} (k : Ke K M H H') (h : SqL K H a xs) : SqL K H' a xs := by
  rcases h with (h | ⟨o, h⟩) | h
  · exact .inl (.inl (k.lst h))
  · exact .inl (.inr ⟨o, k.kp _ _ h (.inl rfl)⟩)
  · exact .inr h
theorem Kx.dt (k : Kx K M H H') (h : Dt K H v d) : Dt K H' v d := Dt.tk k.tk d v h
theorem Kx.ke (k : Kx K M H H') : Ke K M H H' := ⟨fun b o e c => k.kp b o e (c.imp id And.left), k.tab⟩
/-- M came since -/
theorem Kx.since (k : Kx K M H1 H2) (e : Ext H H1) (hM : ∀ b ∈ M, H b = none) : Ext H H2 := fun b o h => k.kp b o (e b o h) (.inr fun z => by
  rw [hM b z] at h
  cases h)
end
section
variable {K : PySem.W.Frag} {M M' : List Addr} {H H' H1 H2 : Hp} {a p : Addr} {o : HO} {v : V} {d : PyData}
theorem Ke.refl : Ke K M H H := ⟨fun _ _ e _ => e, id⟩
theorem Ke.ext (e : Ext H H') : Ke K M H H' := ⟨fun b o h _ => e b o h, fun t => t.ext e⟩
theorem Ke.trans (h : Ke K M H H1) (k : Ke K M H1 H2) : Ke K M H H2 := ⟨fun b o e c => k.kp b o (h.kp b o e c) c, fun t => k.tab (h.tab t)⟩
theorem Ke.mono (h : Ke K M H H') (s : ∀ b ∈ M, b ∈ M') : Ke K M' H H' := ⟨fun b o e c => h.kp b o e (c.imp id fun z => ⟨fun m => z.1 (s b m), z.2⟩), h.tab⟩
theorem Ke.new (h : H p = none) : Ke K M H (upd H p o) := .ext (Ext.upd h)
theorem Ke.tk (k : Ke K M H H') : TupK H H' := fun a xs => ⟨fun e => k.kp a _ e (.inl rfl), fun o e => k.kp a _ e (.inl rfl)⟩
theorem Ke.dt (k : Ke K M H H') (h : Dt K H v d) : Dt K H' v d := Dt.tk k.tk d v h
theorem _root_.L2.Ext.dt (k : Ext H H') (h : Dt K H v d) : Dt K H' v d := (Ke.ext (M := []) k).dt h
theorem _root_.L2.Ext.refl' : Ext H H := fun _ _ e => e
theorem _root_.L2.Ext.over (k : Ext H H1) (h : H p = none) : Ext H (upd H1 p o) := fun b o' e => (upd_ne (ne_of_none e h)).trans (k b o' e)
theorem _root_.L2.Ext.new (h : H p = none) : Ext H (upd H p o) := Ext.upd h
end
theorem atI_0 {α : Type} {x : α} {r : List α} : atI (x :: r) 0 = some x := atI_nat (j := 0) rfl
theorem atI_1 {α : Type} {x y : α} {r : List α} : atI (x :: y :: r) 1 = some y := atI_nat (j := 1) rfl
theorem sm (n : Nat) (h : n ≤ 1000000 := by decide) : n ≤ sizeLine := Nat.le_trans h (by decide)
theorem ifT {c : Prop} [Decidable c] {A B : Prop} (h : c) (a : A) : (if c then A else B) := by rw [if_pos h]; exact a
theorem ifF {c : Prop} [Decidable c] {A B : Prop} (h : ¬ c) (a : B) : (if c then A else B) := by rw [if_neg h]; exact a
theorem ifN {b : Bool} {A B : Prop} (h : b = false) (a : B) : (if b = true then A else B) := by rw [h]; exact a
theorem ifC {c : Prop} [Decidable c] {A B : Prop} (a : c → A) (b : ¬ c → B) : (if c then A else B) := by
  by_cases h : c
  · rw [if_pos h]; exact a h
  · rw [if_neg h]; exact b h
/-! ### rules by data -/
def tyD : PyData → String
  | .none => "NoneType"
  | .bool _ => "bool"
  | .int _ => "int"
  | .str _ => "str"
  | .tuple _ => "tuple"
  | .list _ => "list"
  | .dict _ => "dict"
theorem Dt.ty {K : PySem.W.Frag} {H : Hp} {v : V} {d : PyData} (h : Dt K H v d) : TyX K H v (.type (tyD d)) := by
  cases h with
  | non => exact .base .non
  | bl b => exact .base (.bl b)
  | int i => exact .base (.int i)
  | str x => exact .base (.str x)
  | tup hs ha =>
    rcases hs with (h | ⟨o, h⟩) | ⟨o, its, n, h, c, _⟩
    · exact .base (.tup h)
    · exact .fTuple h
    · exact .kTuple h c
section
variable {X : Cx} {a b : Expr} {ta tb : TE} {pos : Pos} {e : Expr} {es : List Expr} {t : TA}
/-- t[i] -/
def rIxD (K : PySem.W.Frag) : R2 := fun x y H Q => ∃ ds i d, Dt K H x (.tuple ds) ∧ y = .int i ∧ atI ds i = some d ∧ ∀ v, Dt K H v d → Q v H
theorem ix_D : IxR X (rIxD X.K) := by
  intro value slice pins s σ H x y v u Q I rx ry h hs
  obtain ⟨ds, i, d, hd, rfl, hi, q⟩ := h
  obtain ⟨p, xs, rfl, hx, ha⟩ := hd.tup_
  unfold atI at hi
  cases hj : ixN ds.length i with
  | none => rw [hj] at hi; cases hi
  | some j =>
    rw [hj] at hi
    obtain ⟨w, hw, hd2⟩ := ha.get (j := j) hi
    exact ix_tup value slice pins s σ H _ _ v u Q I rx ry ⟨p, xs, i, w, rfl, rfl, hx, by unfold atI; rw [ha.length, hj]; exact hw, q w hd2⟩ hs
/-- len(t) -/
def rLenD (K : PySem.W.Frag) : List V → Hp → VK → Prop := fun xs H Q => ∃ x ds, xs = [x] ∧ Dt K H x (.tuple ds) ∧ Q (.int ds.length) H
theorem call_lenT : CallR X (.builtin "len") (rLenD X.K) := by
  intro pins s σ H xs us Q I r h
  obtain ⟨x, ds, rfl, hd, q⟩ := h
  obtain ⟨p, ys, rfl, hx, ha⟩ := hd.tup_
  exact call_len pins s σ H _ us Q I r ⟨_, ys.length, rfl, .inr ⟨ys, hx, rfl⟩, by rw [ha.length]; exact q⟩
/-- isinstance(x, T) -/
def rIsD (K : PySem.W.Frag) : List V → Hp → VK → Prop := fun xs H Q => ∃ x n d b, xs = [x, .ty n] ∧ Dt K H x d ∧ kitB (tyD d) n = some b ∧ Q (.bl b) H
theorem call_isD : CallR X (.builtin "isinstance") (rIsD X.K) := by
  intro pins s σ H xs us Q I r h
  obtain ⟨x, n, d, b, rfl, hd, hk, q⟩ := h
  exact call_isi pins s σ H _ us Q I r ⟨x, .ty n, .type (tyD d), .type n, b, rfl, .ty n, hd.ty, kit_ty hk, q⟩
/-- ==, != -/
def rEqT (K : PySem.W.Frag) : R2 := fun x y H Q => ∃ d e, Dt K H x d ∧ Dt K H y e ∧ SeqAt.shaped d = true ∧ SeqAt.shaped e = true ∧ Q (.bl (PyData.eqv d e)) H
def rNeT (K : PySem.W.Frag) : R2 := fun x y H Q => ∃ d e, Dt K H x d ∧ Dt K H y e ∧ SeqAt.shaped d = true ∧ SeqAt.shaped e = true ∧ Q (.bl (!PyData.eqv d e)) H
theorem op_eqT (hu : X.A.units + 64 < cLine) : OpR X (compareOp .Eq) (rEqT X.K) := by
  intro pins s σ H x y v u Q I rx ry h
  obtain ⟨d, e, hd, he, q⟩ := h
  exact op_eqD hu pins s σ H x y v u Q I rx ry ⟨d, e, Dt.dp d x hd, Dt.dp e y he, q⟩
theorem op_neT (hu : X.A.units + 64 < cLine) : OpR X (compareOp .NotEq) (rNeT X.K) := by
  intro pins s σ H x y v u Q I rx ry h
  obtain ⟨d, e, hd, he, q⟩ := h
  exact op_neD hu pins s σ H x y v u Q I rx ry ⟨d, e, Dt.dp d x hd, Dt.dp e y he, q⟩
/-- t + u -/
def rCatD (K : PySem.W.Frag) : R2 := fun x y H Q => ∃ ds es, Dt K H x (.tuple ds) ∧ Dt K H y (.tuple es) ∧ ds.length + es.length ≤ sizeLine ∧ ∀ v H', Ext H H' → Dt K H' v (.tuple (ds ++ es)) → Q v H'
theorem op_catD : OpR X (binaryOp .Add) (rCatD X.K) := by
  intro pins s σ H x y v u Q I rx ry h
  obtain ⟨ds, es, hd, he, hz, q⟩ := h
  obtain ⟨p, xs, rfl, hx, ha⟩ := hd.tup_
  obtain ⟨p2, ys, rfl, hy, hb⟩ := he.tup_
  refine op_catA pins s σ H _ _ v u Q I rx ry ⟨p, p2, xs, ys, rfl, rfl, hx, hy, by rw [ha.length, hb.length]; exact hz, fun e => ?_, fun _ e => ?_, fun _ _ q' hq => ?_⟩
  · subst e
    obtain rfl : ds = [] := List.length_eq_zero_iff.mp (by rw [← ha.length]; rfl)
    exact q _ _ Ext.refl' he
  · subst e
    obtain rfl : es = [] := List.length_eq_zero_iff.mp (by rw [← hb.length]; rfl)
    exact q _ _ Ext.refl' (by rw [List.append_nil]; exact hd)
  · have k : Ext H (upd H q' (.tup (xs ++ ys))) := Ext.new hq
    exact q _ _ k (.tup (SqT.of upd_same) ((DtAll.tk (Ke.ext (K := X.K) (M := []) k).tk _ _ ha).append (DtAll.tk (Ke.ext (K := X.K) (M := []) k).tk _ _ hb)))
/-- the items of t[lo:hi] -/
def cutD {α : Type} (xs : List α) (lo hi : Option Int) : List α := (xs.drop (HT.sIx xs.length 0 lo)).take (HT.sIx xs.length xs.length hi - HT.sIx xs.length 0 lo)
def rSlD (K : PySem.W.Frag) : V → Option Int → Option Int → Hp → VK → Prop := fun x lo hi H Q => ∃ ds, Dt K H x (.tuple ds) ∧ ∀ v H', Ext H H' → Dt K H' v (.tuple (cutD ds lo hi)) → Q v H'
theorem sl_D : SlR X (rSlD X.K) := by
  intro pins s σ H x v vl vu lo hi sl Q I rx hs pl pu h
  obtain ⟨ds, hd, q⟩ := h
  obtain ⟨p, xs, rfl, hx, ha⟩ := hd.tup_
  have l := ha.length
  have e : DtAll X.K H (cutD xs lo hi) (cutD ds lo hi) := by
    unfold cutD
    rw [l]
    exact (ha.drop _).take _
  refine sl_tupA pins s σ H _ v vl vu lo hi sl Q I rx hs pl pu ⟨p, xs, rfl, hx, fun hw => q _ _ Ext.refl' ?_, fun _ q' hq => ?_⟩
  · have e2 : cutD ds lo hi = ds := by
      unfold cutD
      rw [← l, hw.1, hw.2, List.drop_zero, Nat.sub_zero, l, List.take_length]
    rw [e2]
    exact hd
  · have k : Ext H (upd H q' (.tup (cutV xs lo hi))) := Ext.new hq
    exact q _ _ k (.tup (SqT.of upd_same) (DtAll.tk (Ke.ext (K := X.K) (M := []) k).tk _ _ e))
/-- tuple(l), l a list -/
def rTupL (K : PySem.W.Frag) : List V → Hp → VK → Prop := fun xs H Q => ∃ p ys ds, xs = [.ref p] ∧ SqL K H p ys ∧ DtAll K H ys ds ∧ ∀ v H', Ext H H' → Dt K H' v (.tuple ds) → Q v H'
theorem call_tupleL : CallR X (.type "tuple") (rTupL X.K) := by
  intro pins s σ H xs us Q I r h
  obtain ⟨p, ys, ds, rfl, hl, ha, q⟩ := h
  exact call_tuple_of pins s σ H _ us Q I r ⟨p, ys, rfl, .inl ⟨hl, fun l hl => q _ _ (Ext.new hl) (.tup (SqT.of upd_same) (DtAll.tk (Ke.ext (K := X.K) (M := []) (Ext.new hl)).tk _ _ ha))⟩⟩
/-- (a, b, ..) -/
def tTupD (K : PySem.W.Frag) (t : TA) : TE := fun σ H Q => t σ H fun xs H1 => ∃ ds, DtAll K H1 xs ds ∧ ds.length ≤ sizeLine ∧ ∀ v H2, Ext H1 H2 → Dt K H2 v (.tuple ds) → Q v H2
theorem pe_tupD {x1} (h : PA X es t) : PE X (.Tuple es x1 pos) (tTupD X.K t) := by
  refine ⟨fun pins s σ H Q I hq => ?_⟩
  refine wpAny_Tuple_spliced (thn (h.run pos pins s σ H _ I hq) fun us s1 ⟨xs, H1, I1, r, ds, ha, z', q⟩ => ?_)
  have z : xs.length ≤ sizeLine := by rw [ha.length]; exact z'
  refine ⟨by rw [← r.length]; exact z, ?_⟩
  have hf : H1 s1.heap.objs.size = none := I1.hok.fresh (Nat.le_refl _)
  refine ⟨.ref s1.heap.objs.size, upd H1 s1.heap.objs.size (.tup xs), I1.laid (t' := s1.toks) (fun b u e => Heap.get?_push_of_some _ e) (Nat.le_refl _) ?_, rfl, q _ _ (Ext.new hf) (.tup (SqT.of upd_same) (DtAll.tk (Ke.ext (K := X.K) (M := []) (Ext.new hf)).tk _ _ ha))⟩
  exact ⟨z, us, r, ⟨_, Heap.get?_push_size _ rfl, rfl, _, rfl⟩⟩
theorem pe_tupK (K : PySem.W.Frag) {x1} (h : PA X es t) (hK : X.K = K := by rfl) : PE X (.Tuple es x1 pos) (tTupD K t) := by
  subst hK
  exact pe_tupD h
/-- a statement, what is known behind it told between -/
def tMid (t : TS) : TS := fun D σ H => ∃ R : L2.St → Hp → Prop, t { D with nx := R } σ H ∧ ∀ σ' H', R σ' H' → D.nx σ' H'
theorem ps_mid {st : Stmt} {t : TS} (h : PS X st t) : PS X st (tMid t) := by
  refine ⟨fun pins s σ H D I q => ?_⟩
  obtain ⟨R, q1, q2⟩ := q
  refine thn (h.run pins s σ H _ I q1) fun f s' hf => ?_
  cases f with
  | next =>
    obtain ⟨σ', H', I', r⟩ := hf
    exact ⟨σ', H', I', q2 _ _ r⟩
  | brk => exact hf
  | cont => exact hf
  | ret u => exact hf
/-- data that == may look at: n the depth -/
def Sh (n : Nat) (d : PyData) : Prop := d.canLay0 = true ∧ d.depth ≤ n
theorem Sh.shaped {n : Nat} {d : PyData} (h : Sh n d) (hn : n ≤ 64 := by decide) : SeqAt.shaped d = true := by
  unfold SeqAt.shaped
  rw [h.1, Bool.true_and]
  exact decide_eq_true (Nat.le_trans h.2 hn)
theorem Sh.mono {n m : Nat} {d : PyData} (h : Sh n d) (hn : n ≤ m) : Sh m d := ⟨h.1, Nat.le_trans h.2 hn⟩
theorem Sh.int {n : Nat} (i : Int) : Sh n (.int i) := ⟨rfl, by simp [PyData.depth]⟩
theorem Sh.non {n : Nat} : Sh n .none := ⟨rfl, by simp [PyData.depth]⟩
theorem Sh.bl {n : Nat} (b : Bool) : Sh n (.bool b) := ⟨rfl, by simp [PyData.depth]⟩
theorem Sh.str {n : Nat} {x : Str} (h : PyData.strOk x = true := by decide +kernel) : Sh n (.str x) := ⟨by rw [PyData.canLay0]; exact h, by simp [PyData.depth]⟩
theorem Sh.all {n : Nat} : ∀ {ds : List PyData}, (∀ d ∈ ds, Sh n d) → PyData.canLayAll0 ds = true ∧ PyData.depthAll ds ≤ n
  | [], _ => ⟨rfl, by simp [PyData.depthAll]⟩
  | d :: ds, h => by
    obtain ⟨a, b⟩ := Sh.all (ds := ds) fun e he => h e (List.mem_cons_of_mem _ he)
    obtain ⟨c, e⟩ := h d List.mem_cons_self
    refine ⟨?_, ?_⟩
    · rw [PyData.canLayAll0, c, a] <;> rfl
    · rw [PyData.depthAll]
      exact Nat.max_le.mpr ⟨e, b⟩
theorem Sh.tup {n : Nat} {ds : List PyData} (h : ∀ d ∈ ds, Sh n d) : Sh (n + 1) (.tuple ds) := by
  obtain ⟨a, b⟩ := Sh.all h
  exact ⟨by rw [PyData.canLay0]; exact a, by rw [PyData.depth]; omega⟩
theorem Sh.lst {n : Nat} {ds : List PyData} (h : ∀ d ∈ ds, Sh n d) : Sh (n + 1) (.list ds) := by
  obtain ⟨a, b⟩ := Sh.all h
  exact ⟨by rw [PyData.canLay0]; exact a, by rw [PyData.depth]; omega⟩
theorem Sh.eqv {n : Nat} {d : PyData} (h : Sh n d) : PyData.eqv d d = true := PySem.SeqAt.eqv_refl d h.1
end
section
variable {K : PySem.W.Frag} {H : Hp} {v : V} {d0 d1 d2 d3 d4 : PyData}
theorem Dt.tup1 (h : Dt K H v (.tuple [d0])) : ∃ a v0, v = .ref a ∧ SqT K H a [v0] ∧ Dt K H v0 d0 := by
  obtain ⟨a, xs, rfl, hx, ha⟩ := h.tup_
  obtain ⟨v0, r0, rfl, q0, ha⟩ := ha.cons_
  cases ha.nil_
  exact ⟨a, v0, rfl, hx, q0⟩
theorem Dt.tup2 (h : Dt K H v (.tuple [d0, d1])) : ∃ a v0 v1, v = .ref a ∧ SqT K H a [v0, v1] ∧ Dt K H v0 d0 ∧ Dt K H v1 d1 := by
  obtain ⟨a, xs, rfl, hx, ha⟩ := h.tup_
  obtain ⟨v0, r0, rfl, q0, ha⟩ := ha.cons_
  obtain ⟨v1, r1, rfl, q1, ha⟩ := ha.cons_
  cases ha.nil_
  exact ⟨a, v0, v1, rfl, hx, q0, q1⟩
theorem Dt.tup3 (h : Dt K H v (.tuple [d0, d1, d2])) : ∃ a v0 v1 v2, v = .ref a ∧ SqT K H a [v0, v1, v2] ∧ Dt K H v0 d0 ∧ Dt K H v1 d1 ∧ Dt K H v2 d2 := by
  obtain ⟨a, xs, rfl, hx, ha⟩ := h.tup_
  obtain ⟨v0, r0, rfl, q0, ha⟩ := ha.cons_
  obtain ⟨v1, r1, rfl, q1, ha⟩ := ha.cons_
  obtain ⟨v2, r2, rfl, q2, ha⟩ := ha.cons_
  cases ha.nil_
  exact ⟨a, v0, v1, v2, rfl, hx, q0, q1, q2⟩
end
theorem bt_isinstance : bootBuiltins "isinstance" = some (.builtin "isinstance") := by decide +kernel
theorem bt_len : bootBuiltins "len" = some (.builtin "len") := by decide +kernel
theorem bt_int : bootBuiltins "int" = some (.type "int") := by decide +kernel
theorem bt_bool : bootBuiltins "bool" = some (.type "bool") := by decide +kernel
theorem bt_str : bootBuiltins "str" = some (.type "str") := by decide +kernel
theorem bt_tuple : bootBuiltins "tuple" = some (.type "tuple") := by decide +kernel
theorem bt_list : bootBuiltins "list" = some (.type "list") := by decide +kernel
theorem bt_abs : bootBuiltins "abs" = some (.builtin "abs") := by decide +kernel
theorem bt_all : bootBuiltins "all" = some (.builtin "all") := by decide +kernel
theorem bt_min : bootBuiltins "min" = some (.builtin "min") := by decide +kernel
theorem bt_max : bootBuiltins "max" = some (.builtin "max") := by decide +kernel
/-! ### a method as its callers know it -/
structure Mcal (P : Program) (w : World) (K : PySem.W.Frag) (mg : Str → Option Value) (base : Heap) (CX : CXT) (k : Nat) (C : Addr) (m : Str) (ps : List Str) (dvs : List V) (sp : Sp) : Prop where
  ex : ∃ f fd ds, Meth K C m f ∧ FnOk P w K mg base CX k f fd ps sp ∧ Binds K fd ps ds ∧ Vals dvs ds
section
variable {X : Cx} {CX : CXT} {j k : Nat} {C : Addr} {m : Str} {ps : List Str} {sp : Sp} {dvs : List V} {E : XK} {e o : Expr} {es : List Expr} {ta : TE} {t : TA} {pos apos : Pos}
theorem pe_mcal (c : Mcal X.prog X.w X.K X.mg X.base CX j C m ps dvs sp) {pl : Sem Bool} (cl : Cls X.K C) (he : PE X o ta) (hr : Room k X.A) (hx : Passes CX X E) (ha : PA X (e :: es) t) (hj : j ≤ k := by decide)
    (hst : starEach (e :: es) X.env = (false, eval e X.env) :: starEach es X.env := by rfl) (hpl : (backTo pos (starEach es X.env)).any (·.1) = false := by rfl)
    (ht : eval (.Call (.Attribute o m apos) (e :: es) [] pos) X.env = (do
      let ov ← eval o X.env
      standAt apos.atName
      let (f, first) ← holding [ov] (getMethod ov m pl)
      callWith pos f first (backTo pos (starEach (e :: es) X.env)) (backToKw pos (keywordEach [] X.env))) := by rfl) :
    PE X (.Call (.Attribute o m apos) (e :: es) [] pos) (tMeth C m sp dvs E ta t) := by
  obtain ⟨f, fd, ds, hm, F, hb, hd⟩ := c.ex
  exact pe_meth he cl hm F (hr.mono hj) hb hd hx ha hst hpl ht
theorem pe_mcal0 (c : Mcal X.prog X.w X.K X.mg X.base CX j C m ps dvs sp) {pl : Sem Bool} (cl : Cls X.K C) (he : PE X o ta) (hr : Room k X.A) (hx : Passes CX X E) (hj : j ≤ k := by decide)
    (ht : eval (.Call (.Attribute o m apos) [] [] pos) X.env = (do
      let ov ← eval o X.env
      standAt apos.atName
      let (f, first) ← holding [ov] (getMethod ov m pl)
      callWith pos f first (backTo pos (starEach [] X.env)) (backToKw pos (keywordEach [] X.env))) := by rfl) :
    PE X (.Call (.Attribute o m apos) [] [] pos) (tMeth C m sp dvs E ta tNil) := by
  obtain ⟨f, fd, ds, hm, F, hb, hd⟩ := c.ex
  exact pe_meth0 he cl hm F (hr.mono hj) hb hd hx ht
end
/-! ### a def of the module as its callers know it -/
structure Cal (P : Program) (w : World) (K : PySem.W.Frag) (mg : Str → Option Value) (base : Heap) (CX : CXT) (k : Nat) (x : Str) (ps : List Str) (sp : Sp) : Prop where
  ex : ∃ f fd, mg x = some (.ref f) ∧ FnOk P w K mg base CX k f fd ps sp ∧ PySem.W.keepIn K (.ref f) = true ∧ Binds K fd ps []
section
variable {P : Program} {w : World} {K : PySem.W.Frag} {mg : Str → Option Value} {base : Heap} {CX : CXT} {k : Nat} {x qual : Str} {params : Arguments} {body : List Stmt} {scope : Scope} {kws : List (Str × V)} {f : Addr} {fd : FuncData} {N ps : List Str} {sp sp' : Sp}
theorem Cal.mono {j : Nat} (c : Cal P w K mg base CX j x ps sp) (h : j ≤ k) : Cal P w K mg base CX k x ps sp := by
  obtain ⟨f, fd, a1, a2, a3, a4⟩ := c.ex
  exact ⟨f, fd, a1, a2.mono h, a3, a4⟩
theorem Cal.imp (c : Cal P w K mg base CX k x ps sp) (h : ∀ vs H Q E, sp' vs H Q E → sp vs H Q E) : Cal P w K mg base CX k x ps sp' := by
  obtain ⟨f, fd, a1, a2, a3, a4⟩ := c.ex
  exact ⟨f, fd, a1, a2.imp h, a3, a4⟩
theorem cal_of {n : Str} (g : mg x = some (.ref f)) (F : FunD K n qual params body scope [] kws f fd) (S : FnScope N ps scope)
    (hb : ∀ (kV doc pm : Value) (an : Option Addr) (cdv ct : Value) (us : List Value), us.length = ps.length → bindArgs (PySem.W.fnOf n qual params body scope .none kV doc pm an cdv ct) ⟨us, []⟩ = pure (ps.zip us))
    (len : ∀ vs H Q E, sp vs H Q E → vs.length = ps.length)
    (hbody : ∀ (cdv : Value) (A : Around) (outer : List Env) (s : Shared) (H : Hp) (vs : List V) (Q : VK) (E : XK), Room k (A.deeper (envOfC qual scope s.heap.objs.size f cdv)) → sp vs H Q E →
      ∃ t, PSs (cxOf CX P w K mg base N qual scope f cdv A outer s H E) body t ∧ t { nx := fun _ H' => Q .non H', rt := Q } (start N vs) H) : Cal P w K mg base CX (k + 1) x ps sp :=
  ⟨f, fd, g, F.ok S len hbody, F.kp, F.bindsN hb⟩
end
def tCal (sp : Sp) (E : XK) (t : TA) : TE := fun σ H Q => t σ H fun vs H1 => sp vs H1 Q E
def tCal0 (sp : Sp) (E : XK) : TE := fun _ H Q => sp [] H Q E
section
variable {X : Cx} {CX : CXT} {j k : Nat} {x : Str} {ps : List Str} {sp : Sp} {E : XK} {e : Expr} {es : List Expr} {t : TA} {p pos : Pos}
theorem pe_cal (c : Cal X.prog X.w X.K X.mg X.base CX j x ps sp) (hr : Room k X.A) (hx : Passes CX X E) (ha : PA X (e :: es) t) (hj : j ≤ k := by decide) (hg : Gl X x := by rfl)
    (hdb : (x == ("__debug__" : Str)) = false := by decide) (he : starEach (e :: es) X.env = (false, eval e X.env) :: starEach es X.env := by rfl) (hpl : (backTo pos (starEach es X.env)).any (·.1) = false := by rfl) :
    PE X (.Call (.Name x p) (e :: es) [] pos) (tCal sp E t) := by
  obtain ⟨f, fd, hm, F, hk, hb⟩ := c.ex
  have h := pe_call (p := p) (pos := pos) F (hr.mono hj) hg hm hk hb .nil hx ha hdb he hpl
  have e : tCall sp [] E t = tCal sp E t := by
    unfold tCall tCal
    simp only [List.append_nil]
  rwa [e] at h
theorem pe_cal0 (c : Cal X.prog X.w X.K X.mg X.base CX j x ps sp) (hr : Room k X.A) (hx : Passes CX X E) (hj : j ≤ k := by decide) (hg : Gl X x := by rfl)
    (hdb : (x == ("__debug__" : Str)) = false := by decide) : PE X (.Call (.Name x p) [] [] pos) (tCal0 sp E) := by
  obtain ⟨f, fd, hm, F, hk, hb⟩ := c.ex
  exact pe_call0 F (hr.mono hj) hg hm hk hb .nil hx hdb
end
end K21
/-! K21U: enumerate over a tuple; zip of two tuples of any lengths. -/
namespace PySem
open Sem (wp)
theorem meets_enumerate_new1 {v : Value} {o : Obj} {H : Heap → Prop} (B : Begins v o H) :
    Meets (Builtin.«enumerate.__new__» ⟨[.type "enumerate", v], []⟩) (fun _ R s => H s.heap ∧
      R (.ok (.ret (.ref (s.heap.push o).objs.size))) { s with heap := (s.heap.push o).push { cls := .type "enumerate", data := .fields #[.none, .bool false, .ref s.heap.objs.size, rawInt 0, .none, .none] } }) :=
  .of_wp fun prog w A R s h => by
    obtain ⟨hp, g, d, tk, os⟩ := s; obtain ⟨h1, h⟩ := h
    have hsub := sub_enumerate
    have q1 : ∀ {A' : Around} {E : Value → Shared → Prop} {Q : Value → Shared → Prop}, Q (.ref hp.objs.size) ⟨hp.push o, g, d, tk, os⟩ → wpAny (model prog w) A' (pyIter v) Q E ⟨hp, g, d, tk, os⟩ :=
      fun q => B.iter prog w _ _ ⟨hp, g, d, tk, os⟩ _ h1 q
    wp_walk using q1
    refine wpAny_stack_any fun st => wpAny_pure ?_
    split
    · rename_i c _ _ _ _ _
      cases (c == Value.type "enumerate")
      · wp_walk using q1
        exact ⟨_, rfl, h⟩
      · wp_walk using q1
        exact ⟨_, rfl, h⟩
    · wp_walk using q1
      exact ⟨_, rfl, h⟩
section
variable {prog : Program} {w : World} {A : Around} {E : Value → Shared → Prop} {s : Shared}
theorem enum_begins1 {v : Value} {o : Obj} {H : Heap → Prop} {Q : Value → Shared → Prop} (B : Begins v o H) (h1 : H s.heap)
    (h : ∀ h', IsEnum h' (s.heap.objs.size + 1) s.heap.objs.size 0 .none → h'.get? s.heap.objs.size = some o → h'.objs.size = s.heap.objs.size + 2 →
      (∀ b o, s.heap.get? b = some o → h'.get? b = some o) → Q (.ref (s.heap.objs.size + 1)) { s with heap := h' }) :
    wpAny (model prog w) A (call (.type "enumerate") [v]) Q E s := by
  refine callType_new F.called_enumerate (by decide) (F.typeCall_enumerate_1 _) (F.newCall_enumerate_1 _) (fun obj => F.args_object_init_2 obj _) F.entry_enumerate_new
    (meets_enumerate_new1 B) ⟨h1, ?_⟩
  have hz : (s.heap.push o).objs.size = s.heap.objs.size + 1 := Heap.size_push ..
  show _ ∧ _
  rw [hz]
  have he : IsEnum ((s.heap.push o).push { cls := .type "enumerate", data := .fields #[.none, .bool false, .ref s.heap.objs.size, rawInt 0, .none, .none] }) (s.heap.objs.size + 1) s.heap.objs.size 0 .none := by
    have := Heap.get?_push_size (s.heap.push o) (o := { cls := .type "enumerate", data := .fields #[.none, .bool false, .ref s.heap.objs.size, rawInt 0, .none, .none] }) rfl
    rw [hz] at this; exact this
  refine ⟨⟨_, he, rfl⟩, h _ he (Heap.get?_push_of_some _ (Heap.get?_push_size _ B.free)) (by rw [Heap.size_push, hz]) fun b o x => Heap.get?_push_of_some _ (Heap.get?_push_of_some _ x)⟩
end
end PySem
namespace K21
open PySem PySem.Spec PyProof.Rows L2 LamX He
/-- the tuple at a, each item in a new pair with its number -/
def IteT (K : PySem.W.Frag) (a : Addr) : It :=
  ⟨fun i H => ∃ (xs : List V) (x : V), SqT K H a xs ∧ xs[i]? = some x, fun i H v H' => ∃ T x, v = .ref T ∧ H T = none ∧ H' = upd H T (.tup [.int (i : Nat), x]) ∧ ∀ xs, SqT K H a xs → xs[i]? = some x, fun i H => ∃ xs : List V, SqT K H a xs ∧ xs.length = i⟩
theorem turn_enumT {P : Program} {w : World} {K : PySem.W.Frag} {elts : List Expr} {kk : Nat} {tpos : Pos} (a e it : Addr) :
    Turn P w K (.Tuple elts kk tpos) (IteT K a) [e, it] e (fun i h => (∃ old, IsEnum h e it ((i : Nat) : Int) old) ∧ h.IsTupleIter it a i ∧ e ≠ it ∧ a ≠ it ∧ e ≠ a) where
  mem := by simp
  obj := fun i h st b hb => by
    obtain ⟨⟨old, he⟩, ⟨o, ho, hc, hd⟩, _⟩ := st
    have e' : b = e ∨ b = it := by simpa using hb
    rcases e' with z | z
    · rw [z]; exact ⟨_, he, fun v q => nomatch q⟩
    · rw [z]; exact ⟨o, ho, fun v q => by rw [hd] at q; cases q⟩
  keep := fun i h h' st k => let ⟨⟨old, he⟩, hi, hne⟩ := st; ⟨⟨old, k e (by simp) _ he⟩, hi.at fun o q => k it (by simp) o q, hne⟩
  item := by
    intro X hP hw hK hc i pins s σ H E I hf st hg
    subst hP hw hK
    obtain ⟨⟨old, he⟩, hit, hne, hai, hea⟩ := st
    obtain ⟨xs, x, hq, hx⟩ := hg
    obtain ⟨its, rv, p, hz⟩ := I.tuple hq
    obtain ⟨u, hu, ru⟩ := rv.get hx
    have hel : e < s.heap.objs.size := Heap.lt_size he
    have hil : it < s.heap.objs.size := by obtain ⟨_, q, _⟩ := hit; exact Heap.lt_size q
    have hn : i < its.toArray.size := by
      have := List.getElem?_eq_some_iff.mp hu
      obtain ⟨h, _⟩ := this
      simpa using h
    refine wpAny_pyNext_enum_itemD (Draws.tuple (show X.A.in1.handled = none from I.ok.hd hc) it a hai its.toArray) he ⟨hit, show s.heap.IsTuple a its.toArray from p⟩ hn hne (by
      intro z
      rcases List.mem_cons.mp z with q | q
      · exact hne q
      · exact hea (List.mem_singleton.mp q)) fun x' h' tk hP' ho hst hT hsz hk => ?_
    obtain ⟨hit', _⟩ := hst
    have eu : x' = u := by
      have e1 : its.toArray[i]? = some u := by simpa using hu
      rw [e1] at hP'
      exact (Option.some.inj hP').symm
    subst eu
    refine ⟨_, rfl, wpAny_letOwnedTupleGo_enum (s := { s with heap := h', toks := tk + 1 }) ho fun h'' he' sb => ?_⟩
    have hT2 : h''.get? s.heap.objs.size = some { cls := .type "tuple", data := .seq #[.int i tk, x'] } := (sb.2 _ (Nat.ne_of_gt hel)).trans hT
    have new : ObjOk X.prog X.w (upd H s.heap.objs.size (.tup [.int (i : Nat), x])) h'' s.heap.objs.size (.tup [.int (i : Nat), x]) :=
      ⟨by show 2 ≤ sizeLine; decide, [.int i tk, x'], .cons ⟨_, rfl⟩ (.cons ru .nil), ⟨_, hT2, rfl, _, rfl⟩⟩
    have I1 : Inv X pins σ (upd H s.heap.objs.size (.tup [.int (i : Nat), x])) { s with heap := h'', toks := tk + 1 } :=
      I.turnedNew (ch := [e, it]) (fun b ob hb q => (sb.2 b (fun z => hb (by simp [z]))).trans (hk b ob (fun z => hb (by simp [z])) (fun z => hb (by simp [z])) q)) hf (Nat.le_refl _) new
    refine ⟨.ref s.heap.objs.size, _, I1, rfl, ⟨_, x, rfl, I.hok.fresh (Nat.le_refl _), rfl, fun ys hy => by rw [I.tuple_inj hy hq]; exact hx⟩, ⟨⟨x', ?_⟩, hit'.at fun o q => (sb.2 it (Ne.symm hne)).trans q, hne, hai, hea⟩, fun b hb => ?_⟩
    · have e1 : ((i + 1 : Nat) : Int) = (i : Int) + 1 := by omega
      rw [e1]; exact he'
    · have hb' : b < s.heap.objs.size := by
        have e' : b = e ∨ b = it := by simpa using hb
        rcases e' with z | z
        · rw [z]; exact hel
        · rw [z]; exact hil
      rw [upd_ne (Nat.ne_of_lt hb')]
      exact (hf b hb).1
  done := by
    intro X hP hw hK hc i pins s σ H E I hf st hg
    subst hP hw hK
    obtain ⟨⟨old, he⟩, hit, hne, hai, hea⟩ := st
    obtain ⟨xs, hq, hx⟩ := hg
    obtain ⟨its, rv, p, hz⟩ := I.tuple hq
    obtain ⟨f0, f1, f2, f3, f4, f5⟩ := hf it (by simp)
    have hl := rv.length
    have ei : its.toArray.size = i := by
      rw [List.size_toArray, ← hl]
      exact hx
    have st' : s.heap.IsTupleIter it a its.toArray.size ∧ s.heap.IsTuple a its.toArray := ⟨by rw [ei]; exact hit, p⟩
    exact wpAny_pyNext_enum_endD (Draws.tuple (show X.A.in1.handled = none from I.ok.hd hc) it a hai its.toArray) he st' fun h' eb => ⟨rfl, I.turned (t' := s.toks) (fun b o hb q => eb b o hb q) f0 f1 f3 f4 f5⟩
  self := fun A i s Q E st h => let ⟨⟨_, he⟩, _⟩ := st; wpAny_pyIter_enum he h
def iEnumT (K : PySem.W.Frag) (ta : TA) : TI := fun σ H R => ta σ H fun vs H1 => ∃ a xs, vs = [.ref a] ∧ SqT K H1 a xs ∧ R (IteT K a) H1
theorem pi_enumT {X : Cx} {e : Expr} {ta : TA} {p pos tpos : Pos} {elts : List Expr} {kk : Nat} (hg : Gl X "enumerate") (hm : X.mg "enumerate" = none) (ha : PA X [e] ta) (hs : starEach [e] X.env = [(false, eval e X.env)] := by rfl) :
    PI X (.Tuple elts kk tpos) (.Call (.Name "enumerate" p) [e] [] pos) (iEnumT X.K ta) := by
  refine ⟨fun pins s σ H R I h => ?_⟩
  refine Call_ (ld_blt I hg hm PyProof.Rows.boot_enumerate (PyProof.Rows.callWith_type1 (thn (ha.run pos pins s σ H _ I h) fun us s1 ⟨vs, H1, I1, r1, q1⟩ => ?_) hs rfl))
  obtain ⟨a, xs, ex, hq, q⟩ := q1
  subst ex
  cases r1 with
  | cons r rr =>
    cases rr
    cases r
    obtain ⟨its, rv, p', hz⟩ := I1.tuple hq
    have hal : a < s1.heap.objs.size := by
      obtain ⟨o, ho, _⟩ := id p'
      exact Heap.lt_size ho
    refine enum_begins1 (begins_tuple a its.toArray) p' fun h' he hob hsz hk => wpAny_pyIter_enum he ?_
    have I2 : Inv X pins σ H1 { s1 with heap := h' } := I1.kept (t' := s1.toks) hk
    refine ⟨s1.heap.objs.size + 1, [s1.heap.objs.size + 1, s1.heap.objs.size], _, _, H1, rfl, I2, turn_enumT a (s1.heap.objs.size + 1) s1.heap.objs.size, ⟨⟨.none, he⟩, ⟨_, hob, rfl, rfl⟩, Nat.succ_ne_self _, Nat.ne_of_lt hal, Nat.ne_of_gt (Nat.lt_succ_of_lt hal)⟩, fun b hb => ?_, q⟩
    have e' : b = s1.heap.objs.size + 1 ∨ b = s1.heap.objs.size := by simpa using hb
    have hle : s1.heap.objs.size ≤ b := by
      rcases e' with z | z
      · rw [z]; exact Nat.le_add_right _ _
      · rw [z]; exact Nat.le_refl _
    exact I1.fpOk hle (I1.hok.fresh hle)
section
variable {K : PySem.W.Frag} {a b : Addr} {xs ys : List V}
theorem walk_enumT : Walk (IteT K a) xs.length (fun H => SqT K H a xs) (YPair (fun i => some (.int (i : Nat))) (fun i => xs[i]?)) where
  goes := fun i H hi h => ⟨xs, xs[i], h, by simp [hi]⟩
  stops := fun H h => ⟨xs, h, rfl⟩
  yields := fun i H x H' hi h y => by
    obtain ⟨T, z, e1, e2, e3, e4⟩ := y
    exact ⟨T, _, z, e1, e2, e3, rfl, e4 xs h⟩
theorem walk_zipT {n : Nat} (hn : n = min xs.length ys.length) : Walk (RZ.ItzT K a b) n (fun H => SqT K H a xs ∧ SqT K H b ys) (YPair (fun i => xs[i]?) (fun i => ys[i]?)) where
  goes := fun i H hi h => by
    have h1 : i < xs.length := by omega
    have h2 : i < ys.length := by omega
    exact ⟨xs, ys, xs[i], ys[i], h.1, h.2, by simp [h1], by simp [h2]⟩
  stops := fun H h => ⟨xs, ys, h.1, h.2, by omega⟩
  yields := fun i H x H' hi h y => by
    obtain ⟨T, z1, z2, e1, e2, e3, e4, e5⟩ := y
    exact ⟨T, z1, z2, e1, e2, e3, e4 xs h.1, e5 ys h.2⟩
end
end K21
/-! K21T: min and max of a tuple of ints. -/
namespace PySem
open Sem (wp)
section
variable {prog : Program} {w : World} {A : Around} {E : Value → Shared → Prop} {s : Shared} {l : Addr} {xs : Array (Int × Tok)}
theorem iter_intTup {Q : Value → Shared → Prop} (hl : s.heap.IsTuple l (intItems xs))
    (h : ∀ s₂ : Shared, s₂ = { s with heap := s.heap.push { cls := .type "tuple_iterator", data := .fields #[.ref l, .int 0 0] } } →
      (s₂.heap.IsTupleIter s.heap.objs.size l 0 ∧ s₂.heap.IsTuple l (intItems xs)) → (∀ b ∈ [s.heap.objs.size, l], b < s₂.heap.objs.size) → l ≠ s.heap.objs.size → Q (.ref s.heap.objs.size) s₂) :
    wpAny (model prog w) A (pyIter (.ref l)) Q E s := by
  have hlt : l < s.heap.objs.size := by obtain ⟨_, e, _⟩ := hl; exact Heap.lt_size e
  refine wpAny_pyIter_tuple hl (h _ rfl ⟨⟨_, Heap.get?_push_size _ rfl, rfl, rfl⟩, hl.at fun o e => Heap.get?_push_of_some _ e⟩ (fun b hb => ?_) (Nat.ne_of_lt hlt))
  show b < (s.heap.push _).objs.size
  rw [Heap.size_push]
  rcases List.mem_cons.mp hb with rfl | hb
  · exact Nat.lt_succ_self _
  · rcases List.mem_cons.mp hb with rfl | hb
    · exact Nat.lt_succ_of_lt hlt
    · cases hb
theorem old_keptT {o₀ : Obj} {h' : Heap} (hk : ∀ b o, b ∉ [s.heap.objs.size] → (s.heap.push o₀).get? b = some o → h'.get? b = some o) :
    ∀ b o, s.heap.get? b = some o → h'.get? b = some o := fun b o e => by
  refine hk b o (fun hm => ?_) (Heap.get?_push_of_some _ e)
  rcases List.mem_cons.mp hm with e1 | hm
  · exact absurd (e1 ▸ Heap.lt_size e) (Nat.lt_irrefl _)
  · cases hm
theorem max_intTup {Q : Value → Shared → Prop} (hh : A.handled = none) (hl : s.heap.IsTuple l (intItems xs)) (hne : 0 < xs.size)
    (h : ∀ v h' tk, (intItems xs)[argBest (fun i j => decide (numAt xs i > numAt xs j)) (xs.size - 1)]? = some v → (∀ b o, s.heap.get? b = some o → h'.get? b = some o) → Q v { s with heap := h', toks := tk }) :
    wpAny (model prog w) A (call (.builtin "max") [.ref l]) Q E s := by
  refine call_max_walk (iter_intTup hl fun s₂ e st hfp hlI => ?_)
  subst e
  refine ⟨_, _, _, _, _, _, _, rfl, Walks.tuple (A := A.in1) hh _ l hlI (intItems xs), st, hfp, by simpa [intItems] using hne, CmpOf.ints_gt (numAt xs) (fun _ _ => intItems_at), fun v h' tk hP hk => ?_⟩
  exact h v h' tk (by simpa [intItems] using hP) (old_keptT hk)
theorem min_intTup {Q : Value → Shared → Prop} (hh : A.handled = none) (hl : s.heap.IsTuple l (intItems xs)) (hne : 0 < xs.size)
    (h : ∀ v h' tk, (intItems xs)[argBest (fun i j => decide (numAt xs i < numAt xs j)) (xs.size - 1)]? = some v → (∀ b o, s.heap.get? b = some o → h'.get? b = some o) → Q v { s with heap := h', toks := tk }) :
    wpAny (model prog w) A (call (.builtin "min") [.ref l]) Q E s := by
  refine call_min_walk (iter_intTup hl fun s₂ e st hfp hlI => ?_)
  subst e
  refine ⟨_, _, _, _, _, _, _, rfl, Walks.tuple (A := A.in1) hh _ l hlI (intItems xs), st, hfp, by simpa [intItems] using hne, CmpOf.ints_lt (numAt xs) (fun _ _ => intItems_at), fun v h' tk hP hk => ?_⟩
  exact h v h' tk (by simpa [intItems] using hP) (old_keptT hk)
end
end PySem
namespace K21
open PySem PySem.Spec PyProof.Rows L2 LamX He
section
variable {prog : Program} {w : World} {A : Around} {E : Value → Shared → Prop} {s : Shared} {l : Addr} {its : List Value} {ns : List Int} {Q : Value → Shared → Prop}
theorem max_rawT (hh : A.handled = none) (hl : s.heap.IsTuple l its.toArray) (hi : IntsAre its ns) (hne : 0 < ns.length)
    (h : ∀ h' tk M t', (∀ b o, s.heap.get? b = some o → h'.get? b = some o) → M ∈ ns → (∀ a, a ∈ ns → a ≤ M) → Q (.int M t') { s with heap := h', toks := tk }) : wpAny (model prog w) A (call (.builtin "max") [.ref l]) Q E s := by
  obtain ⟨xs, e⟩ := hi.allInts.items
  have hn : numsOf (intItems xs).toList = ns := by rw [← e]; exact hi.numsOf
  rw [nums_intItems] at hn
  subst hn
  rw [e] at hl
  have hsz : 0 < xs.size := by simpa using hne
  refine PySem.max_intTup hh hl hsz fun v h' tk hv hk => ?_
  obtain ⟨t, rfl⟩ := intItems_at hv
  obtain ⟨h1, h2⟩ := argBest_gt (numAt xs) (xs.size - 1)
  refine h h' tk _ t hk ?_ fun a ha => ?_
  · rw [numAt_eq]; exact PySem.getD_mem (by rw [List.length_map, Array.length_toList]; omega)
  · obtain ⟨j, hj, rfl⟩ := mem_getD ha
    rw [List.length_map, Array.length_toList] at hj
    rw [← numAt_eq]; exact h2 j (by omega)
theorem min_rawT (hh : A.handled = none) (hl : s.heap.IsTuple l its.toArray) (hi : IntsAre its ns) (hne : 0 < ns.length)
    (h : ∀ h' tk M t', (∀ b o, s.heap.get? b = some o → h'.get? b = some o) → M ∈ ns → (∀ a, a ∈ ns → M ≤ a) → Q (.int M t') { s with heap := h', toks := tk }) : wpAny (model prog w) A (call (.builtin "min") [.ref l]) Q E s := by
  obtain ⟨xs, e⟩ := hi.allInts.items
  have hn : numsOf (intItems xs).toList = ns := by rw [← e]; exact hi.numsOf
  rw [nums_intItems] at hn
  subst hn
  rw [e] at hl
  have hsz : 0 < xs.size := by simpa using hne
  refine PySem.min_intTup hh hl hsz fun v h' tk hv hk => ?_
  obtain ⟨t, rfl⟩ := intItems_at hv
  obtain ⟨h1, h2⟩ := argBest_lt (numAt xs) (xs.size - 1)
  refine h h' tk _ t hk ?_ fun a ha => ?_
  · rw [numAt_eq]; exact PySem.getD_mem (by rw [List.length_map, Array.length_toList]; omega)
  · obtain ⟨j, hj, rfl⟩ := mem_getD ha
    rw [List.length_map, Array.length_toList] at hj
    rw [← numAt_eq]; exact h2 j (by omega)
end
/-- the least, the greatest of ints -/
def minL : List Int → Int
  | [] => 0
  | [x] => x
  | x :: r => if x ≤ minL r then x else minL r
def maxL : List Int → Int
  | [] => 0
  | [x] => x
  | x :: r => if maxL r ≤ x then x else maxL r
theorem minL_spec : ∀ {ns : List Int}, ns ≠ [] → minL ns ∈ ns ∧ ∀ a ∈ ns, minL ns ≤ a
  | [], h => absurd rfl h
  | [x], _ => by simp [minL]
  | x :: y :: r, _ => by
    obtain ⟨h1, h2⟩ := minL_spec (ns := y :: r) (by simp)
    have e : minL (x :: y :: r) = if x ≤ minL (y :: r) then x else minL (y :: r) := rfl
    rw [e]
    split
    · rename_i c
      refine ⟨List.mem_cons_self, fun a ha => ?_⟩
      rcases List.mem_cons.mp ha with rfl | ha
      · exact Int.le_refl _
      · exact Int.le_trans c (h2 a ha)
    · rename_i c
      refine ⟨List.mem_cons_of_mem _ h1, fun a ha => ?_⟩
      rcases List.mem_cons.mp ha with rfl | ha
      · omega
      · exact h2 a ha
theorem maxL_spec : ∀ {ns : List Int}, ns ≠ [] → maxL ns ∈ ns ∧ ∀ a ∈ ns, a ≤ maxL ns
  | [], h => absurd rfl h
  | [x], _ => by simp [maxL]
  | x :: y :: r, _ => by
    obtain ⟨h1, h2⟩ := maxL_spec (ns := y :: r) (by simp)
    have e : maxL (x :: y :: r) = if maxL (y :: r) ≤ x then x else maxL (y :: r) := rfl
    rw [e]
    split
    · rename_i c
      refine ⟨List.mem_cons_self, fun a ha => ?_⟩
      rcases List.mem_cons.mp ha with rfl | ha
      · exact Int.le_refl _
      · exact Int.le_trans (h2 a ha) c
    · rename_i c
      refine ⟨List.mem_cons_of_mem _ h1, fun a ha => ?_⟩
      rcases List.mem_cons.mp ha with rfl | ha
      · omega
      · exact h2 a ha
section
variable {X : Cx}
def rMaxT (K : PySem.W.Frag) : List V → Hp → VK → Prop := fun vs H Q => ∃ (v : V) (ns : List Int), vs = [v] ∧ Dt K H v (.tuple (ns.map .int)) ∧ ns ≠ [] ∧ Q (.int (maxL ns)) H
def rMinT (K : PySem.W.Frag) : List V → Hp → VK → Prop := fun vs H Q => ∃ (v : V) (ns : List Int), vs = [v] ∧ Dt K H v (.tuple (ns.map .int)) ∧ ns ≠ [] ∧ Q (.int (minL ns)) H
theorem cr_maxT (hc : X.calm = true) : CallR X (.builtin "max") (rMaxT X.K) := by
  intro pins s σ H vs us Q I r h
  obtain ⟨v, ns, rfl, hd, hne, q⟩ := h
  obtain ⟨a, xs, rfl, hs, ha⟩ := hd.tup_
  obtain rfl := ha.ints
  obtain ⟨its, rv, hl, _⟩ := I.tuple hs
  rw [Vals.ref1 r]
  refine max_rawT (I.ok.hd hc) hl rv.ints (List.length_pos_iff.mpr hne) fun h' tk m t' hk h1 h2 => ⟨.int m, H, I.kept hk, ⟨_, rfl⟩, ?_⟩
  obtain ⟨g1, g2⟩ := maxL_spec hne
  have e : m = maxL ns := Int.le_antisymm (g2 m h1) (h2 _ g1)
  rw [e]
  exact q
theorem cr_minT (hc : X.calm = true) : CallR X (.builtin "min") (rMinT X.K) := by
  intro pins s σ H vs us Q I r h
  obtain ⟨v, ns, rfl, hd, hne, q⟩ := h
  obtain ⟨a, xs, rfl, hs, ha⟩ := hd.tup_
  obtain rfl := ha.ints
  obtain ⟨its, rv, hl, _⟩ := I.tuple hs
  rw [Vals.ref1 r]
  refine min_rawT (I.ok.hd hc) hl rv.ints (List.length_pos_iff.mpr hne) fun h' tk m t' hk h1 h2 => ⟨.int m, H, I.kept hk, ⟨_, rfl⟩, ?_⟩
  obtain ⟨g1, g2⟩ := minL_spec hne
  have e : m = minL ns := Int.le_antisymm (h2 _ g1) (g2 m h1)
  rw [e]
  exact q
end
end K21
/-! K21I: t[:n - 1:-1] of a tuple of n items (the empty tuple); attributes as targets. -/
namespace K21
open PySem PySem.Spec PyProof.Rows L2 LamX He HT
section
variable {prog : Program} {w : World} {A : Around} {E : Value → Shared → Prop} {s : Shared}
theorem sliceApplied_back {sl : Addr} {vl vu vs : Value} {n : Nat} {Q : Int × Int × Nat → Shared → Prop} (hn : 1 ≤ n) (hs : s.heap.IsSliceOf sl vl vu vs) (pl : IsPart vl none) (pu : IsPart vu (some ((n : Int) - 1))) (ps : IsPart vs (some (-1)))
    (h : Q ((n : Int) - 1, -1, 0) s) : wpAny (model prog w) A (Builtin.Slice.sliceApplied (.ref sl) (pure (n : Int))) Q E s := by
  obtain ⟨os, hos, hcs, hds⟩ := id hs
  unfold Builtin.Slice.sliceApplied Builtin.Slice.sliceFields
  refine wpAny_bind (wpAny_bind (wpAny_field hos hds (x := vl) rfl (wpAny_bind (wpAny_field hos hds (x := vu) rfl (wpAny_bind (wpAny_field hos hds (x := vs) rfl (wpAny_pure ?_)))))))
  refine wpAny_bind (slicePart_ ps ?_)
  show wpAny _ _ (if ((-1 : Int) == 0) = true then _ else _) _ _ s
  rw [if_neg (by decide)]
  refine wpAny_bind (slicePart_ pl (wpAny_bind (slicePart_ pu (wpAny_bind (wpAny_pure ?_)))))
  show wpAny _ _ (match Builtin.Slice.sliceAdjust none (some ((n : Int) - 1)) (-1) (n : Int) with | (lo, hi) => pure (lo, (-1 : Int), Builtin.Slice.slicePlaces lo hi (-1))) _ _ s
  have e : Builtin.Slice.sliceAdjust none (some ((n : Int) - 1)) (-1) (n : Int) = ((n : Int) - 1, (n : Int) - 1) := by
    unfold Builtin.Slice.sliceAdjust
    have c : ¬ ((n : Int) - 1 < 0) := by omega
    simp [c]
  rw [e]
  have e2 : Builtin.Slice.slicePlaces ((n : Int) - 1) ((n : Int) - 1) (-1) = 0 := by
    unfold Builtin.Slice.slicePlaces
    simp
  show wpAny _ _ (pure ((n : Int) - 1, (-1 : Int), Builtin.Slice.slicePlaces ((n : Int) - 1) ((n : Int) - 1) (-1))) _ _ s
  rw [e2]
  exact wpAny_pure h
theorem getItem_tuple_back {t sl : Addr} {items : Array Value} {vl vu vs : Value} {Q : Value → Shared → Prop} (hn : 1 ≤ items.size) (ht : IsTup s.heap t items) (hs : s.heap.IsSliceOf sl vl vu vs) (pl : IsPart vl none) (pu : IsPart vu (some ((items.size : Int) - 1))) (ps : IsPart vs (some (-1)))
    (h : Q (.ref s.heap.objs.size) { s with heap := s.heap.push { cls := .type "tuple", data := .seq ([] : List Value).toArray } }) : wpAny (model prog w) A (getItem (.ref t) (.ref sl)) Q E s := by
  obtain ⟨os, hos, hcs, hds⟩ := id hs
  have hTs : s.TypeIs (.ref sl) "slice" := ⟨os, hos, hcs⟩
  unfold getItem
  try with_reducible refine wpAny_holding ?_
  first | refine wpAny_bind (wpAny_pure ?_) | skip
  refine wpAny_bind (wpAny_sequenceKey ht.typeIs (by decide) ?_)
  refine wpAny_bind (wpAny_callSpecial?_slot (name := Str.ofString "__getitem__") ht.typeIs PyProof.Rows.slot_tuple_getitem
    (wpAny_call_entry PyProof.Rows.slot_tuple_getitem ht.typeIs entry_tuple_getitem ?_ (args_tuple_getitem _ _)))
  show wpAny _ _ (Builtin.Tuple.tupleItemsOf (.ref t) >>= _) _ _ s
  refine wpAny_bind (tupleItemsOf_ ht ?_)
  refine wpAny_bind (wpAny_typeOf hTs ?_)
  rw [if_pos (by decide)]
  refine wpAny_bind (sliceApplied_back hn hs pl pu ps ?_)
  have hno : ¬ ((((items.size : Int) - 1) == 0 && (-1 : Int) == 1 && (0 : Nat) == items.size) = true) := by
    intro q
    rw [Bool.and_eq_true, Bool.and_eq_true] at q
    have q2 : (-1 : Int) = 1 := eq_of_beq q.1.2
    omega
  show wpAny _ _ (if (((items.size : Int) - 1) == 0 && (-1 : Int) == 1 && (0 : Nat) == items.size) = true then _ else _) _ _ s
  rw [if_neg hno]
  have htake : sizeOk (.seq ([] : List Value).toArray) := by
    show 0 ≤ sizeLine
    exact Nat.zero_le _
  first
    | exact wpAny_bind (m := Builtin.Tuple.tupleExact _) (wpAny_newObj_type (wpAny_pure ⟨_, rfl, wpAny_pure h⟩) htake)
    | exact wpAny_bind (m := Builtin.Tuple.tupleExact _) (wpAny_newObj_type (wpAny_bind (wpAny_pure (wpAny_pure ⟨_, rfl, wpAny_pure h⟩))) htake)
end
/-- t[:hi:-1], hi the last place: nothing -/
def tBack (K : PySem.W.Frag) (te th : TE) : TE := fun σ H Q => te σ H fun x H1 => th σ H1 fun y H2 => ∃ ds : List PyData, Dt K H2 x (.tuple ds) ∧ 1 ≤ ds.length ∧ y = .int ((ds.length : Int) - 1) ∧ ∀ v H', Ext H2 H' → Dt K H' v (.tuple []) → Q v H'
section
variable {X : Cx}
theorem pe_back {e hi : Expr} {te th : TE} {k : Nat} {p1 p2 p3 pos : Pos} (he : PE X e te) (hh : PE X hi th) : PE X (.Subscript e (.Slice none (some hi) (some (.UnaryOp .USub (.Constant (.int 1) k p1) p2)) p3) pos) (tBack X.K te th) := by
  refine ⟨fun pins s σ H Q I h => ?_⟩
  refine Subscript_ (thn (he.run pins s σ H _ I h) fun v s1 ⟨x, H1, I1, r1, q1⟩ => ?_)
  have hst : PO X (some (.UnaryOp .USub (.Constant (.int 1) k p1) p2)) (tPart (tUn (rU fun i => .int (-i)) (tC (.int 1)))) := po_some (pe_un un_neg pe_int)
  refine wpAny_Slice (thn (po_none.run pins s1 σ H1 (fun o H2 => o = none ∧ H2 = H1) I1 ⟨rfl, rfl⟩) fun vl s2 ⟨l, H2, I2, pl, el, e2⟩ => ?_)
  subst el e2
  refine thn (show wpAny (model X.prog X.w) X.A (evalPart (some hi) X.env) _ X.xe s2 from hh.run pins s2 σ H2 _ I2 q1) fun vu s3 ⟨y, H3, I3, r3, q3⟩ => ?_
  obtain ⟨ds, hd, h1, ey, q⟩ := q3
  subst ey
  have pu : IsPart vu (some ((ds.length : Int) - 1)) := by
    obtain ⟨t, rfl⟩ := r3
    exact .int _ t
  refine thn (hst.run pins s3 σ H3 (fun o H4 => o = some (-1) ∧ H4 = H3) I3 ⟨1, rfl, -1, rfl, rfl, rfl⟩) fun vs s4 ⟨o, H4, I4, ps, eo, e4⟩ => ?_
  subst eo e4
  have I5 : Inv X pins σ H4 { s4 with heap := s4.heap.push { cls := .type "slice", data := .fields #[vl, vu, vs] } } := I4.kept (t' := s4.toks) fun b ob q => Heap.get?_push_of_some _ q
  obtain ⟨a, xs, rfl, hx, ha⟩ := hd.tup_
  cases r1
  obtain ⟨its, r, ht, hz⟩ := I5.tuple hx
  have hlen : its.toArray.size = ds.length := by rw [List.size_toArray, ← r.length, ha.length]
  show wpAny (model X.prog X.w) X.A (subscriptTail e (.Slice none (some hi) (some (.UnaryOp .USub (.Constant (.int 1) k p1) p2)) p3) (.ref a) (.ref s4.heap.objs.size)) (EP X pins σ Q) X.xe { s4 with heap := s4.heap.push { cls := .type "slice", data := .fields #[vl, vu, vs] } }
  refine tail_any (ops := [.ref a, .ref s4.heap.objs.size]) ht.typeIs (PyProof.Rows.slot_tuple_getitem.lookup) ?_ (by with_unfolding_all rfl)
  refine getItem_tuple_back (by rw [hlen]; exact h1) ht (Heap.IsSliceOf.new _ vl vu vs) pl (by rw [hlen]; exact pu) ps ?_
  have k : Ext H4 (upd H4 (s4.heap.push ({ cls := .type "slice", data := .fields #[vl, vu, vs] } : Obj)).objs.size (.tup [])) := Ext.new (I5.hok.fresh (Nat.le_refl _))
  refine ⟨.ref _, _, I5.laid (t' := s4.toks) (o := .tup []) (fun b ob q => Heap.get?_push_of_some _ q) (Nat.le_refl _) ?_, rfl, q _ _ k (.tup (SqT.of upd_same) .nil)⟩
  exact ⟨by show 0 ≤ sizeLine; exact Nat.zero_le _, [], .nil, ⟨_, Heap.get?_push_size _ rfl, rfl, _, rfl⟩⟩
/-- o.f as a target -/
def gFld (K : PySem.W.Frag) (ta : TE) (f : Str) : TG := fun v σ H Q => ta σ H fun x H1 => ∃ a C dx fs, x = .ref a ∧ H1 a = some (.ins C dx fs) ∧ Cls K C ∧ NoAttr K C f ∧ fs.length < 1000 ∧ Q σ (upd H1 a (.ins C dx (putF f v fs)))
theorem pg_fld {o : Expr} {ta : TE} {f : Str} {pos : Pos} (ho : PE X o ta) : PG X (.Attribute o f pos) (gFld X.K ta f) := by
  refine ⟨fun pins s σ H v u Q I r h => ?_⟩
  show wpAny _ _ (do
    let ov ← holding [u] (eval o X.env)
    standAt pos.atName
    holding [u, ov] (setAttr ov f u)
    release [u, ov] []) _ _ s
  refine wpAny_bind (wpAny_holding (thn (ho.run pins s σ H _ I h) fun ov s1 ⟨x, H1, I1, r1, q1⟩ => ?_))
  obtain ⟨a, C, dx, fs, ex, ea, c, n, l, q⟩ := q1
  subst ex
  obtain rfl : ov = Value.ref a := r1
  refine wpAny_bind (wpAny_standAt (wpAny_bind (wpAny_holding (setattr_ok I1 ea c n l r fun s3 I3 => ?_))))
  exact wpAny_release ⟨σ, _, I3, q⟩
end
end K21
/-! K21Q: worlds, rules, rounds in plain Lean; the first defs. -/
namespace K21
open PySem PySem.Spec PyProof.Rows L2 LamX He
/-! ### plain data -/
inductive Deed where
  | hold
  | shift (k : Int)
  | run (k : Int)
  | jump (p q : Int)
def Deed.d : Deed → PyData
  | .hold => .tuple [.str "hold"]
  | .shift k => .tuple [.str "shift", .int k]
  | .run k => .tuple [.str "run", .int k]
  | .jump p q => .tuple [.str "jump", .int p, .int q]
def Deed.ok : Deed → Prop
  | .hold => True
  | .shift k => -60 ≤ k ∧ k ≤ 60
  | .run k => 0 ≤ k ∧ k ≤ 60
  | .jump p q => 1 ≤ q ∧ q ≤ 60 ∧ 0 ≤ p ∧ p ≤ q
structure Wd where
  lo : Int
  hi : Int
  el : Int
  eh : Int
  ls : Int
def Wd.d (x : Wd) : PyData := .tuple [.int x.lo, .int x.hi, .int x.el, .int x.eh, .int x.ls]
structure Wd.ok (x : Wd) : Prop where
  a : -60 ≤ x.lo
  b : x.lo ≤ x.hi
  c : x.hi ≤ 60
  d : 0 ≤ x.el
  e : x.el ≤ 60
  f : 0 ≤ x.eh
  g : x.eh ≤ 60
  h : 0 ≤ x.ls
  i : x.ls ≤ 3
theorem kb_int_int : kitB "int" "int" = some true := by decide +kernel
theorem kb_int_bool : kitB "int" "bool" = some false := by decide +kernel
theorem kb_tup : kitB "tuple" "tuple" = some true := by decide +kernel
theorem kb_str : kitB "str" "str" = some true := by decide +kernel
section
variable {P : Program} {w : World} {K : PySem.W.Frag} {mg : Str → Option Value} {base : Heap}
/-! ### is_integer, is_whole -/
def spIsInt : Sp := fun vs H Q _ => ∃ i : Int, vs = [.int i] ∧ Q (.bl true) H
theorem ok_is_integer (Z : Tx K mg) : Cal P w K mg base CX0 1 "is_integer" p_is_integer spIsInt := by
  obtain ⟨fd, F⟩ := Z.fn_is_integer
  refine cal_of Z.g_is_integer F sc_is_integer (fun _ _ _ _ _ _ us hl => match us, hl with | [_], _ => rfl) (by intro vs H Q E h; repeat (first | (obtain ⟨rfl, _⟩ := h; rfl) | (obtain ⟨_, h⟩ := h))) fun cdv A outer s H vs Q E hr h => ?_
  refine ⟨_, PSs.nox (pss_one (ps_ret (pe_and (pe_callB call_isD (by rfl) Z.f_isinstance bt_isinstance (pa_cons (pv 0) (pa_cons (pe_bltn (v := .ty "int") (by rfl) Z.f_int bt_int rfl) pa_nil))) (pe_one (pe_not (pe_callB call_isD (by rfl) Z.f_isinstance bt_isinstance (pa_cons (pv 0) (pa_cons (pe_bltn (v := .ty "bool") (by rfl) Z.f_bool bt_bool rfl) pa_nil)))))))), ?_⟩
  obtain ⟨i, rfl, q⟩ := h
  refine ⟨_, rfl, _, _, .int i, true, rfl, .int i, kb_int_int, _, rfl, ?_⟩
  refine ⟨_, rfl, _, _, .int i, false, rfl, .int i, kb_int_bool, _, rfl, ?_⟩
  exact q
def spWhole : Sp := fun vs H Q _ => ∃ i l m : Int, vs = [.int i, .int l, .int m] ∧ Q (.bl (decide (l ≤ i ∧ i ≤ m))) H
theorem ok_is_whole (Z : Tx K mg) : Cal P w K mg base CX0 2 "is_whole" p_is_whole spWhole := by
  obtain ⟨fd, F⟩ := Z.fn_is_whole
  refine cal_of Z.g_is_whole F sc_is_whole (fun _ _ _ _ _ _ us hl => match us, hl with | [_, _, _], _ => rfl) (by intro vs H Q E h; repeat (first | (obtain ⟨rfl, _⟩ := h; rfl) | (obtain ⟨_, h⟩ := h))) fun cdv A outer s H vs Q E hr h => ?_
  have c_is_integer := ok_is_integer (P := P) (w := w) (base := base) Z
  refine ⟨_, PSs.nox (pss_one (ps_ret (pe_and (pe_cal c_is_integer hr pass0 (pa_cons (pv 0) pa_nil)) (pe_one (pe_chain op_le op_le (pv 1) (pv 0) (pv 2)))))), ?_⟩
  obtain ⟨i, l, m, rfl, q⟩ := h
  refine ⟨_, rfl, i, rfl, _, rfl, ?_⟩
  refine ⟨_, rfl, _, rfl, _, _, rfl, rfl, _, rfl, ?_⟩
  by_cases h1 : l ≤ i
  · rw [if_pos (by simpa using h1)]
    refine ⟨_, rfl, _, _, rfl, rfl, ?_⟩
    have e : decide (l ≤ i ∧ i ≤ m) = decide (i ≤ m) := by simp [h1]
    rw [e] at q
    exact q
  · rw [if_neg (by simpa using h1)]
    have e : decide (l ≤ i ∧ i ≤ m) = false := by simp [h1]
    rw [e] at q
    exact q
/-! ### is_world, need_world -/
def spWorld (K : PySem.W.Frag) : Sp := fun vs H Q _ => ∃ (v : V) (x : Wd), vs = [v] ∧ Dt K H v x.d ∧ x.ok ∧ Q (.bl true) H
theorem ok_is_world (Z : Tx K mg) : Cal P w K mg base CX0 3 "is_world" p_is_world (spWorld K) := by
  obtain ⟨fd, F⟩ := Z.fn_is_world
  obtain ⟨t1, c_MOST_DRIFT⟩ := Z.c_MOST_DRIFT
  obtain ⟨t2, c_MOST_ERROR⟩ := Z.c_MOST_ERROR
  obtain ⟨t3, c_MOST_LOSSES⟩ := Z.c_MOST_LOSSES
  refine cal_of Z.g_is_world F sc_is_world (fun _ _ _ _ _ _ us hl => match us, hl with | [_], _ => rfl) (by intro vs H Q E h; repeat (first | (obtain ⟨rfl, _⟩ := h; rfl) | (obtain ⟨_, h⟩ := h))) fun cdv A outer s H vs Q E hr h => ?_
  have c_is_whole := ok_is_whole (P := P) (w := w) (base := base) Z
  refine ⟨_, PSs.nox (pss_cons (ps_if (PW.pt (pw_or (pt_not (pt_val (pe_callB call_isD (by rfl) Z.f_isinstance bt_isinstance (pa_cons (pv 0) (pa_cons (pe_bltn (v := .ty "tuple") (by rfl) Z.f_tuple bt_tuple rfl) pa_nil))))) (pw_or1 (pt_cmpR op_ne (pe_callB call_lenT (by rfl) Z.f_len bt_len (pa_cons (pv 0) pa_nil)) pe_int (nomark _)))))
      (pss_one (ps_ret pe_bl))
      pss_nil)
    (pss_cons (ps_if (PW.pt (pw_or (pt_not (pt_val (pe_cal c_is_whole hr pass0 (pa_cons (pe_ix ix_D (pv 0) pe_int (fun _ _ => rfl)) (pa_cons (pe_un un_neg (pe_glob (v := .int 60) (by rfl) c_MOST_DRIFT ⟨_, rfl⟩)) (pa_cons (pe_glob (v := .int 60) (by rfl) c_MOST_DRIFT ⟨_, rfl⟩) pa_nil)))))) (pw_or1 (pt_not (pt_val (pe_cal c_is_whole hr pass0 (pa_cons (pe_ix ix_D (pv 0) pe_int (fun _ _ => rfl)) (pa_cons (pe_un un_neg (pe_glob (v := .int 60) (by rfl) c_MOST_DRIFT ⟨_, rfl⟩)) (pa_cons (pe_glob (v := .int 60) (by rfl) c_MOST_DRIFT ⟨_, rfl⟩) pa_nil)))))))))
      (pss_one (ps_ret pe_bl))
      pss_nil)
    (pss_cons (ps_if (PW.pt (pw_or (pt_not (pt_val (pe_cal c_is_whole hr pass0 (pa_cons (pe_ix ix_D (pv 0) pe_int (fun _ _ => rfl)) (pa_cons pe_int (pa_cons (pe_glob (v := .int 60) (by rfl) c_MOST_ERROR ⟨_, rfl⟩) pa_nil)))))) (pw_or1 (pt_not (pt_val (pe_cal c_is_whole hr pass0 (pa_cons (pe_ix ix_D (pv 0) pe_int (fun _ _ => rfl)) (pa_cons pe_int (pa_cons (pe_glob (v := .int 60) (by rfl) c_MOST_ERROR ⟨_, rfl⟩) pa_nil)))))))))
      (pss_one (ps_ret pe_bl))
      pss_nil)
    (pss_one (ps_ret (pe_and (pe_cal c_is_whole hr pass0 (pa_cons (pe_ix ix_D (pv 0) pe_int (fun _ _ => rfl)) (pa_cons pe_int (pa_cons (pe_glob (v := .int 3) (by rfl) c_MOST_LOSSES ⟨_, rfl⟩) pa_nil)))) (pe_one (pe_cmpR op_le (pe_ix ix_D (pv 0) pe_int (fun _ _ => rfl)) (pe_ix ix_D (pv 0) pe_int (fun _ _ => rfl)) (nomark _))))))))), ?_⟩
  obtain ⟨v, x, rfl, hv, ok, q⟩ := h
  have e0 : decide (-60 ≤ x.lo ∧ x.lo ≤ 60) = true := decide_eq_true ⟨ok.a, by have := ok.b; have := ok.c; omega⟩
  have e1 : decide (-60 ≤ x.hi ∧ x.hi ≤ 60) = true := decide_eq_true ⟨by have := ok.b; have := ok.a; omega, ok.c⟩
  have e2 : decide (0 ≤ x.el ∧ x.el ≤ 60) = true := decide_eq_true ⟨ok.d, ok.e⟩
  have e3 : decide (0 ≤ x.eh ∧ x.eh ≤ 60) = true := decide_eq_true ⟨ok.f, ok.g⟩
  have e4 : decide (0 ≤ x.ls ∧ x.ls ≤ 3) = true := decide_eq_true ⟨ok.h, ok.i⟩
  have e5 : decide (x.lo ≤ x.hi) = true := decide_eq_true ok.b
  refine ⟨_, rfl, _, _, _, true, rfl, hv, kb_tup, _, rfl, ?_⟩
  refine ⟨_, rfl, _, _, rfl, hv, rfl, _, rfl, ?_⟩
  refine ⟨_, rfl, _, _, _, hv, rfl, rfl, fun u hu => ?_⟩; obtain rfl := hu.int_; clear hu
  refine ⟨60, rfl, x.lo, -60, 60, rfl, _, rfl, ?_⟩
  rw [e0]
  refine ⟨_, rfl, _, _, _, hv, rfl, rfl, fun u hu => ?_⟩; obtain rfl := hu.int_; clear hu
  refine ⟨60, rfl, x.hi, -60, 60, rfl, _, rfl, ?_⟩
  rw [e1]
  refine ⟨_, rfl, _, _, _, hv, rfl, rfl, fun u hu => ?_⟩; obtain rfl := hu.int_; clear hu
  refine ⟨x.el, 0, 60, rfl, _, rfl, ?_⟩
  rw [e2]
  refine ⟨_, rfl, _, _, _, hv, rfl, rfl, fun u hu => ?_⟩; obtain rfl := hu.int_; clear hu
  refine ⟨x.eh, 0, 60, rfl, _, rfl, ?_⟩
  rw [e3]
  refine ⟨_, rfl, _, _, _, hv, rfl, rfl, fun u hu => ?_⟩; obtain rfl := hu.int_; clear hu
  refine ⟨x.ls, 0, 3, rfl, _, rfl, ?_⟩
  rw [e4]
  refine ⟨_, rfl, _, _, _, hv, rfl, rfl, fun u hu => ?_⟩; obtain rfl := hu.int_; clear hu
  refine ⟨_, rfl, _, _, _, hv, rfl, rfl, fun u hu => ?_⟩; obtain rfl := hu.int_; clear hu
  refine ⟨_, _, rfl, rfl, ?_⟩
  show Q (.bl (decide (x.lo ≤ x.hi))) H
  rw [e5]
  exact q
def spNeedW (K : PySem.W.Frag) : Sp := fun vs H Q _ => ∃ (v : V) (x : Wd), vs = [v] ∧ Dt K H v x.d ∧ x.ok ∧ Q v H
theorem ok_need_world (Z : Tx K mg) : Cal P w K mg base CX0 4 "need_world" p_need_world (spNeedW K) := by
  obtain ⟨fd, F⟩ := Z.fn_need_world
  refine cal_of Z.g_need_world F sc_need_world (fun _ _ _ _ _ _ us hl => match us, hl with | [_], _ => rfl) (by intro vs H Q E h; repeat (first | (obtain ⟨rfl, _⟩ := h; rfl) | (obtain ⟨_, h⟩ := h))) fun cdv A outer s H vs Q E hr h => ?_
  have c_is_world := ok_is_world (P := P) (w := w) (base := base) Z
  refine ⟨_, PSs.nox (pss_cons (ps_if (pt_not (pt_val (pe_cal c_is_world hr pass0 (pa_cons (pv 0) pa_nil))))
      (pss_one ps_never)
      pss_nil)
    (pss_one (ps_ret (pv 0)))), ?_⟩
  obtain ⟨v, x, rfl, hv, ok, q⟩ := h
  exact ⟨_, rfl, v, x, rfl, hv, ok, _, rfl, _, rfl, q⟩
/-! ### is_deed, is_entry -/
def spDeed (K : PySem.W.Frag) : Sp := fun vs H Q _ => ∃ (v : V) (x : Deed), vs = [v] ∧ Dt K H v x.d ∧ x.ok ∧ ∀ H', Ext H H' → Q (.bl true) H'
theorem sh_deed (x : Deed) : Sh 1 x.d := by
  cases x <;> (refine Sh.tup fun d hd => ?_; simp only [List.mem_cons, List.not_mem_nil, or_false] at hd; rcases hd with rfl | rfl | rfl <;> first | exact Sh.int _ | exact Sh.str)
theorem ok_is_deed (Z : Tx K mg) : Cal P w K mg base CX0 3 "is_deed" p_is_deed (spDeed K) := by
  obtain ⟨fd, F⟩ := Z.fn_is_deed
  obtain ⟨t1, c_MOST_PARTS⟩ := Z.c_MOST_PARTS
  obtain ⟨t2, c_MOST_RUN⟩ := Z.c_MOST_RUN
  obtain ⟨t3, c_HOLD⟩ := Z.c_HOLD
  obtain ⟨t4, c_SHIFT⟩ := Z.c_SHIFT
  obtain ⟨t5, c_RUN⟩ := Z.c_RUN
  obtain ⟨t6, c_JUMP⟩ := Z.c_JUMP
  refine cal_of Z.g_is_deed F sc_is_deed (fun _ _ _ _ _ _ us hl => match us, hl with | [_], _ => rfl) (by intro vs H Q E h; repeat (first | (obtain ⟨rfl, _⟩ := h; rfl) | (obtain ⟨_, h⟩ := h))) fun cdv A outer s H vs Q E hr h => ?_
  have c_is_whole := ok_is_whole (P := P) (w := w) (base := base) Z
  refine ⟨_, PSs.nox (pss_cons (ps_if (PW.pt (pw_or (pt_not (pt_val (pe_callB call_isD (by rfl) Z.f_isinstance bt_isinstance (pa_cons (pv 0) (pa_cons (pe_bltn (v := .ty "tuple") (by rfl) Z.f_tuple bt_tuple rfl) pa_nil))))) (pw_or (pt_cmpR (op_eqT hr.units) (pv 0) (pe_tupD pa_nil) (nomark _)) (pw_or1 (pt_not (pt_val (pe_callB call_isD (by rfl) Z.f_isinstance bt_isinstance (pa_cons (pe_ix ix_D (pv 0) pe_int (fun _ _ => rfl)) (pa_cons (pe_bltn (v := .ty "str") (by rfl) Z.f_str bt_str rfl) pa_nil)))))))))
      (pss_one (ps_ret pe_bl))
      pss_nil)
    (pss_cons (ps_if (pt_cmpR op_eq (pe_ix ix_D (pv 0) pe_int (fun _ _ => rfl)) (pe_glob (v := .str "jump") (by rfl) c_JUMP ⟨_, rfl⟩) (nomark _))
      (pss_one (ps_ret (pe_and (pe_cmpR op_eq (pe_callB call_lenT (by rfl) Z.f_len bt_len (pa_cons (pv 0) pa_nil)) pe_int (nomark _)) (pe_and (pe_cal c_is_whole hr pass0 (pa_cons (pe_ix ix_D (pv 0) pe_int (fun _ _ => rfl)) (pa_cons pe_int (pa_cons (pe_glob (v := .int 60) (by rfl) c_MOST_PARTS ⟨_, rfl⟩) pa_nil)))) (pe_one (pe_cal c_is_whole hr pass0 (pa_cons (pe_ix ix_D (pv 0) pe_int (fun _ _ => rfl)) (pa_cons pe_int (pa_cons (pe_ix ix_D (pv 0) pe_int (fun _ _ => rfl)) pa_nil)))))))))
      pss_nil)
    (pss_cons (ps_if (pt_cmpR op_eq (pe_ix ix_D (pv 0) pe_int (fun _ _ => rfl)) (pe_glob (v := .str "hold") (by rfl) c_HOLD ⟨_, rfl⟩) (nomark _))
      (pss_one (ps_ret (pe_cmpR op_eq (pe_callB call_lenT (by rfl) Z.f_len bt_len (pa_cons (pv 0) pa_nil)) pe_int (nomark _))))
      pss_nil)
    (pss_cons (ps_if (PW.pt (pw_or (pt_cmpR op_ne (pe_callB call_lenT (by rfl) Z.f_len bt_len (pa_cons (pv 0) pa_nil)) pe_int (nomark _)) (pw_or1 (pt_cmpR op_notIn_seq (pe_ix ix_D (pv 0) pe_int (fun _ _ => rfl)) (pe_tupD (pa_cons (pe_glob (v := .str "shift") (by rfl) c_SHIFT ⟨_, rfl⟩) (pa_cons (pe_glob (v := .str "run") (by rfl) c_RUN ⟨_, rfl⟩) pa_nil))) (by with_unfolding_all rfl)))))
      (pss_one (ps_ret pe_bl))
      pss_nil)
    (pss_one (ps_ret (pe_cal c_is_whole hr pass0 (pa_cons (pe_ix ix_D (pv 0) pe_int (fun _ _ => rfl)) (pa_cons (pe_ifExp (pt_cmpR op_eq (pe_ix ix_D (pv 0) pe_int (fun _ _ => rfl)) (pe_glob (v := .str "shift") (by rfl) c_SHIFT ⟨_, rfl⟩) (nomark _)) (pe_un un_neg (pe_glob (v := .int 60) (by rfl) c_MOST_RUN ⟨_, rfl⟩)) pe_int) (pa_cons (pe_glob (v := .int 60) (by rfl) c_MOST_RUN ⟨_, rfl⟩) pa_nil)))))))))), ?_⟩
  obtain ⟨v, x, rfl, hv, ok, q⟩ := h
  have ne : PyData.eqv x.d (.tuple []) = false := by
    cases x <;> simp [Deed.d, PyData.eqv, PyData.eqvAll]
  have hx : ∃ (n : Str) (r : List PyData), x.d = .tuple (.str n :: r) := by
    cases x <;> exact ⟨_, _, rfl⟩
  obtain ⟨n, r, ex⟩ := hx
  rw [ex] at hv ne
  have sh := sh_deed x
  rw [ex] at sh
  refine ⟨_, rfl, _, _, _, true, rfl, hv, kb_tup, _, rfl, ?_⟩
  refine ⟨_, rfl, [], .nil, by decide, fun u H1 k1 hu => ?_⟩
  have hv := k1.dt hv
  refine ⟨_, _, hv, hu, sh.shaped, rfl, _, rfl, ?_⟩
  rw [ne]
  refine ⟨_, rfl, _, _, _, hv, rfl, atI_0, fun u hu => ?_⟩
  refine ⟨_, _, _, true, rfl, hu, kb_str, _, rfl, ?_⟩
  refine ⟨_, rfl, _, _, _, hv, rfl, atI_0, fun u hu => ?_⟩
  obtain rfl := hu.str_
  refine ⟨rfl, _, rfl, ?_⟩
  cases x with
  | hold =>
    cases ex
    refine ifN (by decide +kernel) ?_
    refine ⟨_, rfl, _, _, _, hv, rfl, rfl, fun u hu => ?_⟩
    obtain rfl := hu.str_
    refine ⟨rfl, _, rfl, ifT (by decide +kernel) ?_⟩
    exact ⟨_, rfl, _, _, rfl, hv, rfl, q _ k1⟩
  | shift k =>
    cases ex
    refine ifN (by decide +kernel) ?_
    refine ⟨_, rfl, _, _, _, hv, rfl, rfl, fun u hu => ?_⟩
    obtain rfl := hu.str_
    refine ⟨rfl, _, rfl, ifN (by decide +kernel) ?_⟩
    refine ⟨_, rfl, _, _, rfl, hv, rfl, _, rfl, ?_⟩
    refine ⟨_, rfl, _, _, _, hv, rfl, rfl, fun u hu => ?_⟩
    obtain rfl := hu.str_
    refine ⟨[.str "shift", .str "run"], .cons (.str _) (.cons (.str _) .nil), by decide, fun u H2 k2 hu => ?_⟩
    have hv := k2.dt hv
    obtain ⟨a, v0, v1, rfl, hs, h0, h1⟩ := hu.tup2
    obtain rfl := h0.str_
    obtain rfl := h1.str_
    refine ⟨_, _, rfl, .inr hs, rfl, rfl, _, rfl, ifN (by decide +kernel) ?_⟩
    refine ⟨_, rfl, _, _, _, hv, rfl, rfl, fun u hu => ?_⟩; obtain rfl := hu.int_; clear hu
    refine ⟨_, rfl, _, _, _, hv, rfl, rfl, fun u hu => ?_⟩
    obtain rfl := hu.str_
    refine ⟨rfl, _, rfl, ifT (by decide +kernel) ?_⟩
    refine ⟨60, rfl, k, -60, 60, rfl, ?_⟩
    rw [decide_eq_true (p := -60 ≤ k ∧ k ≤ 60) ok]
    exact q _ fun a o z => k2 a o (k1 a o z)
  | run k =>
    cases ex
    refine ifN (by decide +kernel) ?_
    refine ⟨_, rfl, _, _, _, hv, rfl, rfl, fun u hu => ?_⟩
    obtain rfl := hu.str_
    refine ⟨rfl, _, rfl, ifN (by decide +kernel) ?_⟩
    refine ⟨_, rfl, _, _, rfl, hv, rfl, _, rfl, ?_⟩
    refine ⟨_, rfl, _, _, _, hv, rfl, rfl, fun u hu => ?_⟩
    obtain rfl := hu.str_
    refine ⟨[.str "shift", .str "run"], .cons (.str _) (.cons (.str _) .nil), by decide, fun u H2 k2 hu => ?_⟩
    have hv := k2.dt hv
    obtain ⟨a, v0, v1, rfl, hs, h0, h1⟩ := hu.tup2
    obtain rfl := h0.str_
    obtain rfl := h1.str_
    refine ⟨_, _, rfl, .inr hs, rfl, rfl, _, rfl, ifN (by decide +kernel) ?_⟩
    refine ⟨_, rfl, _, _, _, hv, rfl, rfl, fun u hu => ?_⟩; obtain rfl := hu.int_; clear hu
    refine ⟨_, rfl, _, _, _, hv, rfl, rfl, fun u hu => ?_⟩
    obtain rfl := hu.str_
    refine ⟨rfl, _, rfl, ifN (by decide +kernel) ?_⟩
    refine ⟨k, 0, 60, rfl, ?_⟩
    rw [decide_eq_true (p := 0 ≤ k ∧ k ≤ 60) ok]
    exact q _ fun a o z => k2 a o (k1 a o z)
  | jump p r =>
    cases ex
    refine ifT (by decide +kernel) ?_
    refine ⟨_, rfl, _, _, rfl, hv, rfl, _, rfl, ?_⟩
    refine ⟨_, rfl, _, _, _, hv, rfl, rfl, fun u hu => ?_⟩; obtain rfl := hu.int_; clear hu
    refine ⟨r, 1, 60, rfl, ?_⟩
    rw [decide_eq_true (p := 1 ≤ r ∧ r ≤ 60) ⟨ok.1, ok.2.1⟩]
    refine ⟨_, rfl, ?_⟩
    refine ⟨_, rfl, _, _, _, hv, rfl, rfl, fun u hu => ?_⟩; obtain rfl := hu.int_; clear hu
    refine ⟨_, rfl, _, _, _, hv, rfl, rfl, fun u hu => ?_⟩; obtain rfl := hu.int_; clear hu
    refine ⟨p, 0, r, rfl, ?_⟩
    rw [decide_eq_true (p := 0 ≤ p ∧ p ≤ r) ⟨ok.2.2.1, ok.2.2.2⟩]
    exact q _ k1
end
end K21
/-! K21M: the defs of rules.py that the law reaches. -/
namespace K21
open PySem PySem.Spec PyProof.Rows L2 LamX He
structure En where
  dd : Deed
  m : Int
def En.d (e : En) : PyData := .tuple [e.dd.d, .int e.m]
structure En.ok (n : Nat) (e : En) : Prop where
  dd : e.dd.ok
  a : 0 ≤ e.m
  b : e.m < n
structure Md where
  cuts : List Int
  es : List En
  miss : En
def Md.d (m : Md) : PyData := .tuple [.tuple (m.cuts.map .int), .tuple (m.es.map En.d), m.miss.d]
def Deed.still : Deed → Bool
  | .hold => true
  | .shift _ => true
  | _ => false
structure Md.ok (n : Nat) (m : Md) : Prop where
  few : m.cuts.length ≤ 4
  rng : ∀ c ∈ m.cuts, -300 ≤ c ∧ c ≤ 300
  asc : m.cuts.Pairwise (· < ·)
  len : m.es.length = m.cuts.length + 1
  es : ∀ e ∈ m.es, e.ok n
  miss : m.miss.ok n
  still : m.miss.dd.still = true
def rD (r : List Md) : PyData := .tuple (r.map Md.d)
structure rOk (r : List Md) : Prop where
  lo : 1 ≤ r.length
  hi : r.length ≤ 3
  ms : ∀ m ∈ r, m.ok r.length
def optV : Option Int → V
  | none => .non
  | some i => .int i
def optD : Option Int → PyData
  | none => .none
  | some i => .int i
theorem Dt.opt {K : PySem.W.Frag} {H : Hp} (o : Option Int) : Dt K H (optV o) (optD o) := by
  cases o with
  | none => exact .non
  | some i => exact .int i
theorem Dt.opt_ {K : PySem.W.Frag} {H : Hp} {v : V} {o : Option Int} (h : Dt K H v (optD o)) : v = optV o := by
  cases o with
  | none => exact h.non_
  | some i => exact h.int_
abbrev Rd := Int × Option Int
def Rd.d (x : Rd) : PyData := .tuple [.int x.1, optD x.2]
structure Sd where
  m : Int
  ls : Int
  df : Int
def Sd.d (x : Sd) : PyData := .tuple [.int x.m, .int x.ls, .int x.df]
def Sd.ok (r : List Md) (x : Sd) : Prop := ∃ k : Nat, x.m = k ∧ k < r.length
section
variable {P : Program} {w : World} {K : PySem.W.Frag} {mg : Str → Option Value} {base : Heap}
/-! ### is_entry -/
def spEntry (K : PySem.W.Frag) : Sp := fun vs H Q _ => ∃ (v : V) (n : Nat) (e : En), vs = [v, .int n] ∧ Dt K H v e.d ∧ e.ok n ∧ ∀ H', Ext H H' → Q (.bl true) H'
theorem ok_is_entry (Z : Tx K mg) : Cal P w K mg base CX0 4 "is_entry" p_is_entry (spEntry K) := by
  obtain ⟨fd, F⟩ := Z.fn_is_entry
  refine cal_of Z.g_is_entry F sc_is_entry (fun _ _ _ _ _ _ us hl => match us, hl with | [_, _], _ => rfl) (by intro vs H Q E h; repeat (first | (obtain ⟨rfl, _⟩ := h; rfl) | (obtain ⟨_, h⟩ := h))) fun cdv A outer s H vs Q E hr h => ?_
  have c_is_whole := ok_is_whole (P := P) (w := w) (base := base) Z
  have c_is_deed := ok_is_deed (P := P) (w := w) (base := base) Z
  refine ⟨_, PSs.nox (pss_one (ps_ret (pe_and (pe_callB call_isD (by rfl) Z.f_isinstance bt_isinstance (pa_cons (pv 0) (pa_cons (pe_bltn (v := .ty "tuple") (by rfl) Z.f_tuple bt_tuple rfl) pa_nil))) (pe_and (pe_cmpR op_eq (pe_callB call_lenT (by rfl) Z.f_len bt_len (pa_cons (pv 0) pa_nil)) pe_int (nomark _)) (pe_and (pe_cal c_is_deed hr pass0 (pa_cons (pe_ix ix_D (pv 0) pe_int (fun _ _ => rfl)) pa_nil)) (pe_one (pe_cal c_is_whole hr pass0 (pa_cons (pe_ix ix_D (pv 0) pe_int (fun _ _ => rfl)) (pa_cons pe_int (pa_cons (pe_op op_sub (pv 1) pe_int) pa_nil)))))))))), ?_⟩
  obtain ⟨v, n, e, rfl, hv, ok, q⟩ := h
  refine ⟨_, rfl, _, _, _, true, rfl, hv, kb_tup, _, rfl, ?_⟩
  refine ⟨_, rfl, _, _, rfl, hv, rfl, _, rfl, ?_⟩
  refine ⟨_, rfl, _, _, _, hv, rfl, rfl, fun u hu => ?_⟩
  refine ⟨u, e.dd, rfl, hu, ok.dd, fun H1 k1 => ⟨_, rfl, ?_⟩⟩
  have hv := k1.dt hv
  refine ⟨_, rfl, _, _, _, hv, rfl, rfl, fun u hu => ?_⟩; obtain rfl := hu.int_; clear hu
  refine ⟨_, rfl, _, _, rfl, rfl, e.m, 0, _, rfl, ?_⟩
  rw [decide_eq_true (p := 0 ≤ e.m ∧ e.m ≤ (n : Int) - 1) ⟨ok.a, by have := ok.b; omega⟩]
  exact q _ k1
/-! ### taken_by -/
def takenBy : Deed → Int → Int
  | .hold, _ => 0
  | .shift k, _ => k
  | .run k, e => if (if e < k then e else k) > 0 - k then (if e < k then e else k) else 0 - k
  | .jump p q, e => if e ≥ 0 then p * (if e < 0 then -e else e) / q else 0 - p * (if e < 0 then -e else e) / q
def spTaken (K : PySem.W.Frag) : Sp := fun vs H Q _ => ∃ (v : V) (x : Deed) (e : Int), vs = [v, .int e] ∧ Dt K H v x.d ∧ x.ok ∧ Q (.int (takenBy x e)) H
theorem ok_taken_by (Z : Tx K mg) : Cal P w K mg base CX0 1 "taken_by" p_taken_by (spTaken K) := by
  obtain ⟨fd, F⟩ := Z.fn_taken_by
  obtain ⟨t3, c_HOLD⟩ := Z.c_HOLD
  obtain ⟨t4, c_SHIFT⟩ := Z.c_SHIFT
  obtain ⟨t5, c_RUN⟩ := Z.c_RUN
  refine cal_of Z.g_taken_by F sc_taken_by (fun _ _ _ _ _ _ us hl => match us, hl with | [_, _], _ => rfl) (by intro vs H Q E h; repeat (first | (obtain ⟨rfl, _⟩ := h; rfl) | (obtain ⟨_, h⟩ := h))) fun cdv A outer s H vs Q E hr h => ?_
  refine ⟨_, PSs.nox (pss_cons (ps_if (pt_cmpR op_eq (pe_ix ix_D (pv 0) pe_int (fun _ _ => rfl)) (pe_glob (v := .str "hold") (by rfl) c_HOLD ⟨_, rfl⟩) (nomark _))
      (pss_one (ps_ret pe_int))
      pss_nil)
    (pss_cons (ps_if (pt_cmpR op_eq (pe_ix ix_D (pv 0) pe_int (fun _ _ => rfl)) (pe_glob (v := .str "shift") (by rfl) c_SHIFT ⟨_, rfl⟩) (nomark _))
      (pss_one (ps_ret (pe_ix ix_D (pv 0) pe_int (fun _ _ => rfl))))
      pss_nil)
    (pss_cons (ps_if (pt_cmpR op_eq (pe_ix ix_D (pv 0) pe_int (fun _ _ => rfl)) (pe_glob (v := .str "run") (by rfl) c_RUN ⟨_, rfl⟩) (nomark _))
      (pss_one (ps_ret (pe_callB (call_max2 rfl) (by rfl) Z.f_max bt_max (pa_cons (pe_op op_sub pe_int (pe_ix ix_D (pv 0) pe_int (fun _ _ => rfl))) (pa_cons (pe_callB (call_min2 rfl) (by rfl) Z.f_min bt_min (pa_cons (pe_ix ix_D (pv 0) pe_int (fun _ _ => rfl)) (pa_cons (pv 1) pa_nil))) pa_nil)))))
      pss_nil)
    (pss_cons (ps_set (i := 2) sc_taken_by.nd rfl (Or.inl rfl) (pe_op op_fdiv (pe_op op_mul (pe_ix ix_D (pv 0) pe_int (fun _ _ => rfl)) (pe_callB call_abs (by rfl) Z.f_abs bt_abs (pa_cons (pv 1) pa_nil))) (pe_ix ix_D (pv 0) pe_int (fun _ _ => rfl))))
    (pss_one (ps_ret (pe_ifExp (pt_cmpR op_ge (pv 1) pe_int (nomark _)) (pv 2) (pe_op op_sub pe_int (pv 2))))))))), ?_⟩
  obtain ⟨v, x, e, rfl, hv, ok, q⟩ := h
  cases x with
  | hold =>
    refine ⟨_, rfl, _, _, _, hv, rfl, rfl, fun u hu => ?_⟩
    obtain rfl := hu.str_
    exact ⟨rfl, _, rfl, ifT (by decide +kernel) q⟩
  | shift k =>
    refine ⟨_, rfl, _, _, _, hv, rfl, rfl, fun u hu => ?_⟩
    obtain rfl := hu.str_
    refine ⟨rfl, _, rfl, ifN (by decide +kernel) ?_⟩
    refine ⟨_, rfl, _, _, _, hv, rfl, rfl, fun u hu => ?_⟩
    obtain rfl := hu.str_
    refine ⟨rfl, _, rfl, ifT (by decide +kernel) ?_⟩
    refine ⟨_, rfl, _, _, _, hv, rfl, rfl, fun u hu => ?_⟩; obtain rfl := hu.int_; clear hu
    exact q
  | run k =>
    refine ⟨_, rfl, _, _, _, hv, rfl, rfl, fun u hu => ?_⟩
    obtain rfl := hu.str_
    refine ⟨rfl, _, rfl, ifN (by decide +kernel) ?_⟩
    refine ⟨_, rfl, _, _, _, hv, rfl, rfl, fun u hu => ?_⟩
    obtain rfl := hu.str_
    refine ⟨rfl, _, rfl, ifN (by decide +kernel) ?_⟩
    refine ⟨_, rfl, _, _, _, hv, rfl, rfl, fun u hu => ?_⟩
    obtain rfl := hu.str_
    refine ⟨rfl, _, rfl, ifT (by decide +kernel) ?_⟩
    refine ⟨_, rfl, _, _, _, hv, rfl, rfl, fun u hu => ?_⟩; obtain rfl := hu.int_; clear hu
    refine ⟨_, _, rfl, rfl, ?_⟩
    refine ⟨_, rfl, _, _, _, hv, rfl, rfl, fun u hu => ?_⟩; obtain rfl := hu.int_; clear hu
    exact ⟨_, rfl, _, _, rfl, _, _, rfl, q⟩
  | jump p r =>
    refine ⟨_, rfl, _, _, _, hv, rfl, rfl, fun u hu => ?_⟩
    obtain rfl := hu.str_
    refine ⟨rfl, _, rfl, ifN (by decide +kernel) ?_⟩
    refine ⟨_, rfl, _, _, _, hv, rfl, rfl, fun u hu => ?_⟩
    obtain rfl := hu.str_
    refine ⟨rfl, _, rfl, ifN (by decide +kernel) ?_⟩
    refine ⟨_, rfl, _, _, _, hv, rfl, rfl, fun u hu => ?_⟩
    obtain rfl := hu.str_
    refine ⟨rfl, _, rfl, ifN (by decide +kernel) ?_⟩
    refine ⟨_, rfl, _, _, _, hv, rfl, rfl, fun u hu => ?_⟩; obtain rfl := hu.int_; clear hu
    obtain ⟨o1, o2, o3, o4⟩ := ok
    refine ⟨_, rfl, _, rfl, _, _, rfl, rfl, .inl ⟨by omega, by omega⟩, ?_⟩
    refine ⟨_, rfl, _, _, _, hv, rfl, rfl, fun u hu => ?_⟩; obtain rfl := hu.int_; clear hu
    refine ⟨_, _, rfl, rfl, ⟨by omega, by omega⟩, ?_⟩
    refine ⟨_, rfl, _, _, rfl, rfl, _, rfl, ifC (fun c => ?_) fun c => ?_⟩
    · refine ⟨_, rfl, ?_⟩
      have e2 : takenBy (.jump p r) e = p * (if e < 0 then -e else e) / r := if_pos (by simpa using c)
      rw [e2] at q
      exact q
    · refine ⟨_, rfl, _, _, rfl, rfl, ?_⟩
      have e2 : takenBy (.jump p r) e = 0 - p * (if e < 0 then -e else e) / r := if_neg (by simpa using c)
      rw [e2] at q
      exact q
/-! ### is_round -/
def goodR (x : Wd) (ms : Int) (r : Rd) : Bool := decide (x.lo ≤ r.1 ∧ r.1 ≤ x.hi) && match r.2 with
  | none => decide (ms < x.ls)
  | some k => decide (0 - x.el ≤ k ∧ k ≤ x.eh)
def spRound (K : PySem.W.Frag) : Sp := fun vs H Q _ => ∃ (v u : V) (x : Wd) (ms : Int) (r : Rd), vs = [v, .int ms, u] ∧ Dt K H v x.d ∧ Dt K H u (Rd.d r) ∧ Q (.bl (goodR x ms r)) H
theorem ok_is_round (Z : Tx K mg) : Cal P w K mg base CX0 3 "is_round" p_is_round (spRound K) := by
  obtain ⟨fd, F⟩ := Z.fn_is_round
  refine cal_of Z.g_is_round F sc_is_round (fun _ _ _ _ _ _ us hl => match us, hl with | [_, _, _], _ => rfl) (by intro vs H Q E h; repeat (first | (obtain ⟨rfl, _⟩ := h; rfl) | (obtain ⟨_, h⟩ := h))) fun cdv A outer s H vs Q E hr h => ?_
  have c_is_whole := ok_is_whole (P := P) (w := w) (base := base) Z
  refine ⟨_, PSs.nox (pss_cons (ps_if (PW.pt (pw_or (pt_not (pt_val (pe_callB call_isD (by rfl) Z.f_isinstance bt_isinstance (pa_cons (pv 2) (pa_cons (pe_bltn (v := .ty "tuple") (by rfl) Z.f_tuple bt_tuple rfl) pa_nil))))) (pw_or (pt_cmpR op_ne (pe_callB call_lenT (by rfl) Z.f_len bt_len (pa_cons (pv 2) pa_nil)) pe_int (nomark _)) (pw_or1 (pt_not (pt_val (pe_cal c_is_whole hr pass0 (pa_cons (pe_ix ix_D (pv 2) pe_int (fun _ _ => rfl)) (pa_cons (pe_ix ix_D (pv 0) pe_int (fun _ _ => rfl)) (pa_cons (pe_ix ix_D (pv 0) pe_int (fun _ _ => rfl)) pa_nil))))))))))
      (pss_one (ps_ret pe_bl))
      pss_nil)
    (pss_cons (ps_if (pt_cmpR op_isN (pe_ix ix_D (pv 2) pe_int (fun _ _ => rfl)) pe_non (nomark _))
      (pss_one (ps_ret (pe_cmpR op_lt (pv 1) (pe_ix ix_D (pv 0) pe_int (fun _ _ => rfl)) (nomark _))))
      pss_nil)
    (pss_one (ps_ret (pe_cal c_is_whole hr pass0 (pa_cons (pe_ix ix_D (pv 2) pe_int (fun _ _ => rfl)) (pa_cons (pe_op op_sub pe_int (pe_ix ix_D (pv 0) pe_int (fun _ _ => rfl))) (pa_cons (pe_ix ix_D (pv 0) pe_int (fun _ _ => rfl)) pa_nil)))))))), ?_⟩
  obtain ⟨v, u, x, ms, r, rfl, hv, hu0, q⟩ := h
  refine ⟨_, rfl, _, _, _, true, rfl, hu0, kb_tup, _, rfl, ?_⟩
  refine ⟨_, rfl, _, _, rfl, hu0, rfl, _, rfl, ?_⟩
  refine ⟨_, rfl, _, _, _, hu0, rfl, rfl, fun u hu => ?_⟩; obtain rfl := hu.int_; clear hu
  refine ⟨_, rfl, _, _, _, hv, rfl, rfl, fun u hu => ?_⟩; obtain rfl := hu.int_; clear hu
  refine ⟨_, rfl, _, _, _, hv, rfl, rfl, fun u hu => ?_⟩; obtain rfl := hu.int_; clear hu
  refine ⟨r.1, x.lo, x.hi, rfl, _, rfl, ?_⟩
  by_cases c : x.lo ≤ r.1 ∧ r.1 ≤ x.hi
  · rw [decide_eq_true c]
    have eg : goodR x ms r = match r.2 with
      | none => decide (ms < x.ls)
      | some k => decide (0 - x.el ≤ k ∧ k ≤ x.eh) := by
      unfold goodR
      rw [decide_eq_true c, Bool.true_and]
    rw [eg] at q
    refine ⟨_, rfl, _, _, _, hu0, rfl, rfl, fun u hu => ?_⟩
    obtain rfl := hu.opt_
    refine ⟨rfl, _, rfl, ?_⟩
    obtain ⟨r1, r2⟩ := r
    cases r2 with
    | none =>
      refine ifT (by simp [optV]) ?_
      refine ⟨_, rfl, ?_⟩
      refine ⟨_, rfl, _, _, _, hv, rfl, rfl, fun u hu => ?_⟩; obtain rfl := hu.int_; clear hu
      exact ⟨_, _, rfl, rfl, q⟩
    | some k =>
      refine ifN (by simp [optV]) ?_
      refine ⟨_, rfl, _, _, _, hu0, rfl, rfl, fun u hu => ?_⟩; obtain rfl := hu.int_; clear hu
      refine ⟨_, rfl, _, _, _, hv, rfl, rfl, fun u hu => ?_⟩; obtain rfl := hu.int_; clear hu
      refine ⟨_, _, rfl, rfl, ?_⟩
      refine ⟨_, rfl, _, _, _, hv, rfl, rfl, fun u hu => ?_⟩; obtain rfl := hu.int_; clear hu
      exact ⟨k, _, _, rfl, q⟩
  · rw [decide_eq_false c]
    have eg : goodR x ms r = false := by
      unfold goodR
      rw [decide_eq_false c, Bool.false_and]
    rw [eg] at q
    exact q
/-! ### entry_at, stepped -/
def entryIx (m : Md) (est : Int) : Nat := (m.cuts.filter fun c => decide (c ≤ est)).length
def entryAt (m : Md) (est : Int) : En := m.es.getD (entryIx m est) m.miss
theorem entryAt_get {n : Nat} {m : Md} (ok : m.ok n) (est : Int) : m.es[entryIx m est]? = some (entryAt m est) := by
  have h : entryIx m est < m.es.length := by
    have := List.length_filter_le (fun c => decide (c ≤ est)) m.cuts
    have := ok.len
    unfold entryIx
    omega
  unfold entryAt
  rw [List.getD_eq_getElem?_getD, List.getElem?_eq_getElem h]
  rfl
theorem entryAt_mem {n : Nat} {m : Md} (ok : m.ok n) (est : Int) : entryAt m est ∈ m.es := List.mem_of_getElem? (entryAt_get ok est)
theorem getMap {α : Type} {f : α → PyData} {xs : List α} {j : Nat} {x : α} (h : xs[j]? = some x) : (xs.map f)[j]? = some (f x) := by
  rw [List.getElem?_map, h]
  rfl
def spEntryAt (K : PySem.W.Frag) : Sp := fun vs H Q _ => ∃ (v : V) (m : Md) (n : Nat) (e : Int), vs = [v, .int e] ∧ Dt K H v m.d ∧ m.ok n ∧ ∀ u H', Ext H H' → Dt K H' u (entryAt m e).d → Q u H'
theorem ok_entry_at (Z : Tx K mg) : Cal P w K mg base CX0 1 "entry_at" p_entry_at (spEntryAt K) := by
  obtain ⟨fd, F⟩ := Z.fn_entry_at
  refine cal_of Z.g_entry_at F sc_entry_at (fun _ _ _ _ _ _ us hl => match us, hl with | [_, _], _ => rfl) (by intro vs H Q E h; repeat (first | (obtain ⟨rfl, _⟩ := h; rfl) | (obtain ⟨_, h⟩ := h))) fun cdv A outer s H vs Q E hr h => ?_
  refine ⟨_, PSs.nox (pss_one (ps_ret (pe_ix ix_D (pe_ix ix_D (pv 0) pe_int (fun _ _ => rfl)) (pe_callB call_len (by rfl) Z.f_len bt_len (pa_cons (pe_lc (own := [("cut", 2)]) (g := gName 2) rfl sc_entry_at.nd (pi_tup (pe_ix ix_D (pv 0) pe_int (fun _ _ => rfl))) (blkOk_by (own := [("cut", 2)]) (N := n_entry_at) (sc := defScope s_entry_at) (by decide +kernel)) (fun _ _ _ _ _ => pg_name (i := 2) sc_entry_at.nd rfl (Or.inl rfl)) (fun _ _ _ _ _ => pts_one (pt_cmpR op_le (pv 2) (pv 1) (nomark _))) (fun _ _ _ _ _ => pv 2)) pa_nil)) (fun _ _ => rfl)))), ?_⟩
  obtain ⟨v, m, n, e, rfl, hv, ok, q⟩ := h
  refine ⟨_, rfl, _, _, _, hv, rfl, rfl, fun u hu => ?_⟩
  refine ⟨_, rfl, _, _, _, hv, rfl, rfl, fun u2 hu2 => ?_⟩
  obtain ⟨a, xs, rfl, hx, ha⟩ := hu2.tup_
  have hx2 := ha.ints
  subst hx2
  refine ⟨a, rfl, ⟨_, hx⟩, fun D hD => lc_tup (xs := m.cuts.map V.int) (fun i H1 => H1 D = some (.lst ((((m.cuts.take i).filter fun c => decide (c ≤ e))).map V.int)) ∧ Ext H H1) ⟨upd_same, Ext.new hD⟩ (fun i H1 _ p => hx.tk (Ke.ext (K := K) (M := []) p.2).tk) ?_ ?_⟩
  · intro i x H1 hxi p
    rw [List.getElem?_map] at hxi
    obtain ⟨c, hc, rfl⟩ := Option.map_eq_some_iff.mp hxi
    have et : m.cuts.take (i + 1) = m.cuts.take i ++ [c] := by
      rw [List.take_add_one, hc] <;> rfl
    have hl : (((m.cuts.take i).filter fun c => decide (c ≤ e)).map V.int).length < sizeLine := by
      have h1 := List.length_filter_le (fun c => decide (c ≤ e)) (m.cuts.take i)
      have h2 : (m.cuts.take i).length ≤ m.cuts.length := by rw [List.length_take]; omega
      have h3 := ok.few
      rw [List.length_map]
      exact Nat.lt_of_le_of_lt (Nat.le_trans h1 (Nat.le_trans h2 h3)) (by decide)
    refine ⟨rfl, _, rfl, _, rfl, _, _, rfl, rfl, _, rfl, ifC (fun h => ⟨_, rfl, _, p.1, hl, ?_, p.2.over hD⟩) fun h => ⟨?_, p.2⟩⟩
    · rw [upd_same, et, List.filter_append, List.map_append]
      congr 3
      rw [List.filter_cons_of_pos (by simpa using h)]
      rfl
    · rw [p.1, et, List.filter_append, List.filter_cons_of_neg (by simpa using h), List.filter_nil, List.append_nil]
  · intro H1 p
    obtain ⟨p1, p2⟩ := p
    have p1 : H1 D = some (.lst ((m.cuts.filter fun c => decide (c ≤ e)).map V.int)) := by
      rw [p1, List.length_map, List.take_length]
    have hu := p2.dt hu
    refine ⟨_, entryIx m e, rfl, .inl ⟨_, SqL.of p1, by rw [List.length_map] <;> rfl⟩, ?_⟩
    refine ⟨_, _, _, hu, rfl, atI_nat (getMap (entryAt_get ok e)), fun w hw => ?_⟩
    exact q w H1 p2 hw
/-- what a round makes: the difference amid, what was taken off, the stand -/
def stp (r : List Md) (x : Sd) (dr : Int) : Option Int → Int × Int × Sd
  | none => let e := (r.getD x.m.toNat ⟨[], [], ⟨.hold, 0⟩⟩).miss
    (x.df + dr, takenBy e.dd 0, ⟨e.m, x.ls + 1, x.df + dr - takenBy e.dd 0⟩)
  | some k => let e := entryAt (r.getD x.m.toNat ⟨[], [], ⟨.hold, 0⟩⟩) (x.df + dr + k)
    (x.df + dr, takenBy e.dd (x.df + dr + k), ⟨e.m, 0, x.df + dr - takenBy e.dd (x.df + dr + k)⟩)
theorem Sd.ok.get {r : List Md} {x : Sd} (h : x.ok r) : ∃ m, r[x.m.toNat]? = some m ∧ r.getD x.m.toNat ⟨[], [], ⟨.hold, 0⟩⟩ = m ∧ m ∈ r ∧ atI (r.map Md.d) x.m = some m.d := by
  obtain ⟨k, e, hk⟩ := h
  have e1 : x.m.toNat = k := by omega
  have e2 : r[k]? = some r[k] := List.getElem?_eq_getElem hk
  refine ⟨r[k], by rw [e1, e2], by rw [e1, List.getD_eq_getElem?_getD, e2] <;> rfl, List.getElem_mem hk, ?_⟩
  rw [e]
  exact atI_nat (getMap e2)
theorem En.ok.sd {r : List Md} {e : En} {a b : Int} (h : e.ok r.length) : Sd.ok r ⟨e.m, a, b⟩ := ⟨e.m.toNat, by have := h.a; show e.m = _; omega, by have := h.a; have := h.b; omega⟩
theorem stp_ok {r : List Md} (ro : rOk r) {x : Sd} (h : x.ok r) (dr : Int) (er : Option Int) : Sd.ok r (stp r x dr er).2.2 := by
  obtain ⟨m, e1, e2, hm, _⟩ := h.get
  have mo := ro.ms m hm
  cases er with
  | none =>
    unfold stp
    rw [e2]
    exact mo.miss.sd
  | some k =>
    unfold stp
    rw [e2]
    exact (mo.es _ (entryAt_mem mo _)).sd
def spStepped (K : PySem.W.Frag) : Sp := fun vs H Q _ => ∃ (vr vx : V) (r : List Md) (x : Sd) (dr : Int) (er : Option Int), vs = [vr, vx, .int dr, optV er] ∧ Dt K H vr (rD r) ∧ rOk r ∧ Dt K H vx x.d ∧ x.ok r ∧
  ∀ u H', Ext H H' → Dt K H' u (.tuple [.int (stp r x dr er).1, .int (stp r x dr er).2.1, (stp r x dr er).2.2.d]) → Q u H'
theorem ok_stepped (Z : Tx K mg) : Cal P w K mg base CX0 2 "stepped" p_stepped (spStepped K) := by
  obtain ⟨fd, F⟩ := Z.fn_stepped
  refine cal_of Z.g_stepped F sc_stepped (fun _ _ _ _ _ _ us hl => match us, hl with | [_, _, _, _], _ => rfl) (by intro vs H Q E h; repeat (first | (obtain ⟨rfl, _⟩ := h; rfl) | (obtain ⟨_, h⟩ := h))) fun cdv A outer s H vs Q E hr h => ?_
  have c_taken_by := ok_taken_by (P := P) (w := w) (base := base) Z
  have c_entry_at := ok_entry_at (P := P) (w := w) (base := base) Z
  refine ⟨_, PSs.nox (pss_cons (ps_asg (pv 1) (pg_tup rfl (pgs_cons (pg_name (i := 4) sc_stepped.nd rfl (Or.inl rfl)) (pgs_cons (pg_name (i := 5) sc_stepped.nd rfl (Or.inl rfl)) (pgs_cons (pg_name (i := 6) sc_stepped.nd rfl (Or.inl rfl)) pgs_nil)))))
    (pss_cons (ps_set (i := 7) sc_stepped.nd rfl (Or.inl rfl) (pe_op op_add (pv 6) (pv 2)))
    (pss_cons (ps_if (pt_cmpR op_isN (pv 3) pe_non (nomark _))
      (pss_cons (ps_asg (pe_ix ix_D (pe_ix ix_D (pv 0) (pv 4) (fun _ _ => rfl)) pe_int (fun _ _ => rfl)) (pg_tup rfl (pgs_cons (pg_name (i := 8) sc_stepped.nd rfl (Or.inl rfl)) (pgs_cons (pg_name (i := 9) sc_stepped.nd rfl (Or.inl rfl)) pgs_nil))))
        (pss_cons (ps_set (i := 10) sc_stepped.nd rfl (Or.inl rfl) (pe_cal c_taken_by hr pass0 (pa_cons (pv 8) (pa_cons pe_int pa_nil))))
        (pss_one (ps_ret (pe_tupD (pa_cons (pv 7) (pa_cons (pv 10) (pa_cons (pe_tupD (pa_cons (pv 9) (pa_cons (pe_op op_add (pv 5) pe_int) (pa_cons (pe_op op_sub (pv 7) (pv 10)) pa_nil)))) pa_nil))))))))
      pss_nil)
    (pss_cons (ps_asg (pe_cal c_entry_at hr pass0 (pa_cons (pe_ix ix_D (pv 0) (pv 4) (fun _ _ => rfl)) (pa_cons (pe_op op_add (pv 7) (pv 3)) pa_nil))) (pg_tup rfl (pgs_cons (pg_name (i := 8) sc_stepped.nd rfl (Or.inl rfl)) (pgs_cons (pg_name (i := 9) sc_stepped.nd rfl (Or.inl rfl)) pgs_nil))))
    (pss_cons (ps_set (i := 10) sc_stepped.nd rfl (Or.inl rfl) (pe_cal c_taken_by hr pass0 (pa_cons (pv 8) (pa_cons (pe_op op_add (pv 7) (pv 3)) pa_nil))))
    (pss_one (ps_ret (pe_tupD (pa_cons (pv 7) (pa_cons (pv 10) (pa_cons (pe_tupD (pa_cons (pv 9) (pa_cons pe_int (pa_cons (pe_op op_sub (pv 7) (pv 10)) pa_nil)))) pa_nil))))))))))), ?_⟩
  obtain ⟨vr, vx, r, x, dr, er, rfl, hr0, ro, hx, xo, q⟩ := h
  obtain ⟨m, e1, e2, hm, e3⟩ := xo.get
  have mo := ro.ms m hm
  obtain ⟨a, v0, v1, v2, rfl, hs, h0, h1, h2⟩ := hx.tup3
  obtain rfl := h0.int_
  obtain rfl := h1.int_
  obtain rfl := h2.int_
  refine ⟨_, rfl, a, _, rfl, hs, rfl, _, _, rfl, _, _, rfl, _, _, rfl, rfl, ?_⟩
  refine ⟨_, rfl, _, rfl, _, _, rfl, rfl, ?_⟩
  cases er with
  | none =>
    refine ⟨_, rfl, rfl, _, rfl, ifT (by simp [optV]) ?_⟩
    refine ⟨_, rfl, _, rfl, _, _, _, hr0, rfl, e3, fun u hu => ?_⟩
    refine ⟨_, _, _, hu, rfl, rfl, fun u hu => ?_⟩
    obtain ⟨a2, w0, w1, rfl, hs2, g0, g1⟩ := hu.tup2
    obtain rfl := g1.int_
    refine ⟨a2, _, rfl, hs2, rfl, _, _, rfl, _, _, rfl, rfl, ?_⟩
    refine ⟨_, rfl, w0, _, 0, rfl, g0, mo.miss.dd, ?_⟩
    refine ⟨_, rfl, _, rfl, _, rfl, _, rfl, _, _, rfl, rfl, _, rfl, _, rfl, _, _, rfl, rfl, ?_⟩
    refine ⟨[.int m.miss.m, .int (x.ls + 1), .int (x.df + dr - takenBy m.miss.dd 0)], .cons (.int _) (.cons (.int _) (.cons (.int _) .nil)), sm 3, fun u H1 k1 hu => ?_⟩
    refine ⟨[.int (x.df + dr), .int (takenBy m.miss.dd 0), .tuple [.int m.miss.m, .int (x.ls + 1), .int (x.df + dr - takenBy m.miss.dd 0)]], .cons (.int _) (.cons (.int _) (.cons hu .nil)), sm 3, fun u H2 k2 hu => ?_⟩
    have es : stp r x dr none = (x.df + dr, takenBy m.miss.dd 0, ⟨m.miss.m, x.ls + 1, x.df + dr - takenBy m.miss.dd 0⟩) := by
      unfold stp
      rw [e2]
    rw [es] at q
    exact q u H2 (k1.trans k2) hu
  | some k =>
    refine ⟨_, rfl, rfl, _, rfl, ifN (by simp [optV]) ?_⟩
    refine ⟨_, rfl, _, rfl, _, _, _, hr0, rfl, e3, fun u hu => ?_⟩
    refine ⟨_, rfl, _, rfl, _, _, rfl, rfl, ?_⟩
    refine ⟨u, m, _, _, rfl, hu, mo, fun u H1 k1 hu => ?_⟩
    obtain ⟨a2, w0, w1, rfl, hs2, g0, g1⟩ := hu.tup2
    obtain rfl := g1.int_
    refine ⟨a2, _, rfl, hs2, rfl, _, _, rfl, _, _, rfl, rfl, ?_⟩
    have eo := mo.es _ (entryAt_mem mo (x.df + dr + k))
    refine ⟨_, rfl, _, rfl, _, rfl, _, _, rfl, rfl, w0, _, _, rfl, g0, eo.dd, ?_⟩
    refine ⟨_, rfl, _, rfl, _, rfl, _, rfl, _, rfl, _, _, rfl, rfl, ?_⟩
    refine ⟨[.int (entryAt m (x.df + dr + k)).m, .int 0, .int (x.df + dr - takenBy (entryAt m (x.df + dr + k)).dd (x.df + dr + k))], .cons (.int _) (.cons (.int _) (.cons (.int _) .nil)), sm 3, fun u H2 k2 hu => ?_⟩
    refine ⟨[.int (x.df + dr), .int (takenBy (entryAt m (x.df + dr + k)).dd (x.df + dr + k)), .tuple [.int (entryAt m (x.df + dr + k)).m, .int 0, .int (x.df + dr - takenBy (entryAt m (x.df + dr + k)).dd (x.df + dr + k))]], .cons (.int _) (.cons (.int _) (.cons hu .nil)), sm 3, fun u H3 k3 hu => ?_⟩
    have es : stp r x dr (some k) = (x.df + dr, takenBy (entryAt m (x.df + dr + k)).dd (x.df + dr + k), ⟨(entryAt m (x.df + dr + k)).m, 0, x.df + dr - takenBy (entryAt m (x.df + dr + k)).dd (x.df + dr + k)⟩) := by
      unfold stp
      rw [e2]
    rw [es] at q
    exact q u H3 (k1.trans (k2.trans k3)) hu
/-! ### are_cuts, is_mode, need_rule -/
theorem all_rep (n : Nat) : (List.replicate n true).all id = true := by
  rw [List.all_eq_true]
  intro x hx
  rw [List.eq_of_mem_replicate hx] <;> rfl
theorem map_rep (n : Nat) : List.replicate n (V.bl true) = (List.replicate n true).map V.bl := by rw [List.map_replicate]
theorem rep_snoc {α : Type} (n : Nat) (x : α) : List.replicate n x ++ [x] = List.replicate (n + 1) x := by rw [List.replicate_succ']
theorem cutD_from1 {α : Type} (xs : List α) : cutD xs (some 1) none = xs.drop 1 := by
  unfold cutD
  rw [HT.sIx_none]
  cases xs with
  | nil => rfl
  | cons x r =>
    have e : HT.sIx (x :: r).length 0 (some ((1 : Nat) : Int)) = 1 := by
      rw [HT.sIx_nat]
      simp
    have e' : HT.sIx (x :: r).length 0 (some 1) = 1 := e
    rw [e']
    simp
def spCuts (K : PySem.W.Frag) : Sp := fun vs H Q _ => ∃ (v : V) (cs : List Int), vs = [v] ∧ Dt K H v (.tuple (cs.map .int)) ∧ cs.length ≤ 4 ∧ (∀ c ∈ cs, -300 ≤ c ∧ c ≤ 300) ∧ cs.Pairwise (· < ·) ∧ ∀ H', Ext H H' → Q (.bl true) H'
theorem ok_are_cuts (Z : Tx K mg) : Cal P w K mg base CX0 3 "are_cuts" p_are_cuts (spCuts K) := by
  obtain ⟨fd, F⟩ := Z.fn_are_cuts
  obtain ⟨t1, c_MOST_CUTS⟩ := Z.c_MOST_CUTS
  obtain ⟨t2, c_MOST_CUT⟩ := Z.c_MOST_CUT
  refine cal_of Z.g_are_cuts F sc_are_cuts (fun _ _ _ _ _ _ us hl => match us, hl with | [_], _ => rfl) (by intro vs H Q E h; repeat (first | (obtain ⟨rfl, _⟩ := h; rfl) | (obtain ⟨_, h⟩ := h))) fun cdv A outer s H vs Q E hr h => ?_
  have c_is_whole := ok_is_whole (P := P) (w := w) (base := base) Z
  refine ⟨_, PSs.nox (pss_cons (ps_if (PW.pt (pw_or (pt_not (pt_val (pe_callB call_isD (by rfl) Z.f_isinstance bt_isinstance (pa_cons (pv 0) (pa_cons (pe_bltn (v := .ty "tuple") (by rfl) Z.f_tuple bt_tuple rfl) pa_nil))))) (pw_or1 (pt_cmpR op_gt (pe_callB call_lenT (by rfl) Z.f_len bt_len (pa_cons (pv 0) pa_nil)) (pe_glob (v := .int 4) (by rfl) c_MOST_CUTS ⟨_, rfl⟩) (nomark _)))))
      (pss_one (ps_ret pe_bl))
      pss_nil)
    (pss_cons (ps_if (pt_not (pt_val (pe_callB (cr_all rfl) (by rfl) Z.f_all bt_all (pa_cons (pe_lc (own := [("cut", 1)]) (g := gName 1) rfl sc_are_cuts.nd (pi_tup (pv 0)) (blkOk_by (own := [("cut", 1)]) (N := n_are_cuts) (sc := defScope s_are_cuts) (by decide +kernel)) (fun _ _ _ _ _ => pg_name (i := 1) sc_are_cuts.nd rfl (Or.inl rfl)) (fun _ _ _ _ _ => pts_nil) (fun _ _ _ _ _ => pe_cal c_is_whole hr pass0 (pa_cons (pv 1) (pa_cons (pe_un un_neg (pe_glob (v := .int 300) (by rfl) c_MOST_CUT ⟨_, rfl⟩)) (pa_cons (pe_glob (v := .int 300) (by rfl) c_MOST_CUT ⟨_, rfl⟩) pa_nil))))) pa_nil))))
      (pss_one (ps_ret pe_bl))
      pss_nil)
    (pss_one (ps_ret (pe_callB (cr_all rfl) (by rfl) Z.f_all bt_all (pa_cons (pe_lc (own := [("one", 2), ("other", 3)]) (g := gTup K 2 (gCons (gName 2) (gCons (gName 3) gNil))) rfl sc_are_cuts.nd (RZ.pi_zipA (by rfl) Z.f_zip (pa_cons (pv 0) (pa_cons (pe_slice sl_D (pv 0) (po_some pe_int) po_none) pa_nil))) (blkOk_by (own := [("one", 2), ("other", 3)]) (N := n_are_cuts) (sc := defScope s_are_cuts) (by decide +kernel)) (fun _ _ _ _ _ => pg_tup rfl (pgs_cons (pg_name (i := 2) sc_are_cuts.nd rfl (Or.inl rfl)) (pgs_cons (pg_name (i := 3) sc_are_cuts.nd rfl (Or.inl rfl)) pgs_nil))) (fun _ _ _ _ _ => pts_nil) (fun _ _ _ _ _ => pe_cmpR op_lt (pv 2) (pv 3) (nomark _))) pa_nil)))))), ?_⟩
  obtain ⟨v, cs, rfl, hv, few, rng, asc, q⟩ := h
  obtain ⟨a, xs, rfl, hx, ha⟩ := id hv.tup_
  have hx2 := ha.ints
  subst hx2
  refine ⟨_, rfl, _, _, _, true, rfl, hv, kb_tup, _, rfl, ?_⟩
  refine ⟨_, rfl, _, _, rfl, hv, _, _, rfl, rfl, _, rfl, ifN ?_ ?_⟩
  · rw [List.length_map]
    exact decide_eq_false (by omega)
  refine ⟨_, rfl, a, rfl, ⟨_, hx⟩, fun D hD => lc_tup (xs := cs.map V.int) (fun i H1 => H1 D = some (.lst (List.replicate i (.bl true))) ∧ Ext H H1) ⟨upd_same, Ext.new hD⟩ (fun i H1 _ p => hx.tk (Ke.ext (K := K) (M := []) p.2).tk) ?_ ?_⟩
  · intro i x H1 hxi p
    rw [List.getElem?_map] at hxi
    obtain ⟨c, hc, rfl⟩ := Option.map_eq_some_iff.mp hxi
    have hi : i < cs.length := by
      obtain ⟨h, _⟩ := List.getElem?_eq_some_iff.mp hc
      exact h
    refine ⟨rfl, _, rfl, 300, rfl, c, -300, 300, rfl, _, p.1, ?_, ?_, p.2.over hD⟩
    · rw [List.length_replicate]
      exact Nat.lt_of_lt_of_le (by omega : i < 4) (sm 4)
    · rw [upd_same, decide_eq_true (rng c (List.mem_of_getElem? hc)), rep_snoc]
  intro H1 p
  obtain ⟨p1, k1⟩ := p
  refine ⟨D, _, rfl, SqL.of (by rw [p1, List.length_map, map_rep]), _, rfl, ?_⟩
  rw [all_rep]
  have hv := k1.dt hv
  refine ⟨_, rfl, _, rfl, 1, rfl, _, hv, fun u H2 k2 hu => ?_⟩
  rw [cutD_from1, ← List.map_drop] at hu
  obtain ⟨b, ys, rfl, hy, hb⟩ := hu.tup_
  have hy2 := hb.ints
  subst hy2
  have hx2 := hx.tk (Ke.ext (K := K) (M := []) (k1.trans k2)).tk
  refine ⟨a, b, _, _, rfl, .inr ⟨hx2, hy, fun D2 hD2 => lc_it (walk_zipT (n := (cs.drop 1).length) (by simp)) (fun i H3 => H3 D2 = some (.lst (List.replicate i (.bl true))) ∧ Ext H2 H3) ⟨upd_same, Ext.new hD2⟩ (fun i H3 _ p => ⟨hx2.tk (Ke.ext (K := K) (M := []) p.2).tk, hy.tk (Ke.ext (K := K) (M := []) p.2).tk⟩) ?_ ?_⟩⟩
  · intro i v H3 H4 hi p y
    obtain ⟨T, x, y, rfl, hT, rfl, e1, e2⟩ := y
    simp only [List.getElem?_map] at e1 e2
    obtain ⟨c1, g1, rfl⟩ := Option.map_eq_some_iff.mp e1
    obtain ⟨c2, g2, rfl⟩ := Option.map_eq_some_iff.mp e2
    have lt : c1 < c2 := by
      rw [List.getElem?_drop] at g2
      obtain ⟨h1, f1⟩ := List.getElem?_eq_some_iff.mp g1
      obtain ⟨h2, f2⟩ := List.getElem?_eq_some_iff.mp g2
      have := List.pairwise_iff_getElem.mp asc i (1 + i) h1 h2 (by omega)
      rw [f1, f2] at this
      exact this
    have hDT : D2 ≠ T := ne_of_none p.1 hT
    refine ⟨T, _, rfl, SqT.of upd_same, rfl, _, _, rfl, _, _, rfl, rfl, rfl, _, rfl, _, rfl, _, _, rfl, rfl, _, (upd_ne hDT).trans p.1, ?_, ?_, (p.2.trans (Ext.new hT)).over hD2⟩
    · rw [List.length_replicate]
      have : i < 4 := by
        have := List.length_drop (l := cs) (i := 1)
        omega
      exact Nat.lt_of_lt_of_le this (sm 4)
    · rw [upd_same]
      show some (HO.lst (List.replicate i (V.bl true) ++ [V.bl (decide (c1 < c2))])) = _
      rw [decide_eq_true lt, rep_snoc]
  · intro H3 p
    obtain ⟨p3, k3⟩ := p
    refine ⟨D2, _, rfl, SqL.of (by rw [p3, map_rep]), ?_⟩
    rw [all_rep]
    exact q _ (k1.trans (k2.trans k3))
def spMode (K : PySem.W.Frag) : Sp := fun vs H Q _ => ∃ (v : V) (n : Nat) (m : Md), vs = [v, .int n] ∧ Dt K H v m.d ∧ m.ok n ∧ ∀ H', Ext H H' → Q (.bl true) H'
theorem mapD {α : Type} {f : α → PyData} {K : PySem.W.Frag} {H : Hp} {vs : List V} {xs : List α} {i : Nat} {v : V} (h : DtAll K H vs (xs.map f)) (e : vs[i]? = some v) : ∃ x, xs[i]? = some x ∧ Dt K H v (f x) := by
  obtain ⟨d, hd, hv⟩ := h.at_ e
  rw [List.getElem?_map] at hd
  obtain ⟨x, hx, rfl⟩ := Option.map_eq_some_iff.mp hd
  exact ⟨x, hx, hv⟩
theorem ok_is_mode (Z : Tx K mg) : Cal P w K mg base CX0 5 "is_mode" p_is_mode (spMode K) := by
  obtain ⟨fd, F⟩ := Z.fn_is_mode
  obtain ⟨t3, c_HOLD⟩ := Z.c_HOLD
  obtain ⟨t4, c_SHIFT⟩ := Z.c_SHIFT
  refine cal_of Z.g_is_mode F sc_is_mode (fun _ _ _ _ _ _ us hl => match us, hl with | [_, _], _ => rfl) (by intro vs H Q E h; repeat (first | (obtain ⟨rfl, _⟩ := h; rfl) | (obtain ⟨_, h⟩ := h))) fun cdv A outer s H vs Q E hr h => ?_
  have c_are_cuts := ok_are_cuts (P := P) (w := w) (base := base) Z
  have c_is_entry := ok_is_entry (P := P) (w := w) (base := base) Z
  refine ⟨_, PSs.nox (pss_cons (ps_if (PW.pt (pw_or (pt_not (pt_val (pe_callB call_isD (by rfl) Z.f_isinstance bt_isinstance (pa_cons (pv 0) (pa_cons (pe_bltn (v := .ty "tuple") (by rfl) Z.f_tuple bt_tuple rfl) pa_nil))))) (pw_or (pt_cmpR op_ne (pe_callB call_lenT (by rfl) Z.f_len bt_len (pa_cons (pv 0) pa_nil)) pe_int (nomark _)) (pw_or1 (pt_not (pt_val (pe_cal c_are_cuts hr pass0 (pa_cons (pe_ix ix_D (pv 0) pe_int (fun _ _ => rfl)) pa_nil))))))))
      (pss_one (ps_ret pe_bl))
      pss_nil)
    (pss_cons (ps_if (PW.pt (pw_or (pt_not (pt_val (pe_callB call_isD (by rfl) Z.f_isinstance bt_isinstance (pa_cons (pe_ix ix_D (pv 0) pe_int (fun _ _ => rfl)) (pa_cons (pe_bltn (v := .ty "tuple") (by rfl) Z.f_tuple bt_tuple rfl) pa_nil))))) (pw_or1 (pt_cmpR op_ne (pe_callB call_lenT (by rfl) Z.f_len bt_len (pa_cons (pe_ix ix_D (pv 0) pe_int (fun _ _ => rfl)) pa_nil)) (pe_op op_add (pe_callB call_lenT (by rfl) Z.f_len bt_len (pa_cons (pe_ix ix_D (pv 0) pe_int (fun _ _ => rfl)) pa_nil)) pe_int) (nomark _)))))
      (pss_one (ps_ret pe_bl))
      pss_nil)
    (pss_cons (ps_if (pt_not (pt_val (pe_callB (cr_all rfl) (by rfl) Z.f_all bt_all (pa_cons (pe_lc (own := [("entry", 2)]) (g := gName 2) rfl sc_is_mode.nd (pi_tup (pe_ix ix_D (pv 0) pe_int (fun _ _ => rfl))) (blkOk_by (own := [("entry", 2)]) (N := n_is_mode) (sc := defScope s_is_mode) (by decide +kernel)) (fun _ _ _ _ _ => pg_name (i := 2) sc_is_mode.nd rfl (Or.inl rfl)) (fun _ _ _ _ _ => pts_nil) (fun _ _ _ _ _ => pe_cal c_is_entry hr pass0 (pa_cons (pv 2) (pa_cons (pv 1) pa_nil)))) pa_nil))))
      (pss_one (ps_ret pe_bl))
      pss_nil)
    (pss_one (ps_ret (pe_and (pe_cal c_is_entry hr pass0 (pa_cons (pe_ix ix_D (pv 0) pe_int (fun _ _ => rfl)) (pa_cons (pv 1) pa_nil))) (pe_one (pe_cmpR op_in_seq (pe_ix ix_D (pe_ix ix_D (pe_ix ix_D (pv 0) pe_int (fun _ _ => rfl)) pe_int (fun _ _ => rfl)) pe_int (fun _ _ => rfl)) (pe_tupD (pa_cons (pe_glob (v := .str "hold") (by rfl) c_HOLD ⟨_, rfl⟩) (pa_cons (pe_glob (v := .str "shift") (by rfl) c_SHIFT ⟨_, rfl⟩) pa_nil))) (by with_unfolding_all rfl))))))))), ?_⟩
  obtain ⟨v, n, m, rfl, hv, ok, q⟩ := h
  refine ⟨_, rfl, _, _, _, true, rfl, hv, kb_tup, _, rfl, ?_⟩
  refine ⟨_, rfl, _, _, rfl, hv, rfl, _, rfl, ?_⟩
  refine ⟨_, rfl, _, _, _, hv, rfl, rfl, fun u hu => ?_⟩
  refine ⟨u, m.cuts, rfl, hu, ok.few, ok.rng, ok.asc, fun H1 k1 => ⟨_, rfl, ?_⟩⟩
  clear hu
  have hv := k1.dt hv
  refine ⟨_, rfl, _, _, _, hv, rfl, rfl, fun u hu => ?_⟩
  refine ⟨u, _, _, true, rfl, hu, kb_tup, _, rfl, ?_⟩
  refine ⟨_, rfl, _, _, _, hv, rfl, rfl, fun u hu => ?_⟩
  refine ⟨u, _, rfl, hu, ?_⟩
  refine ⟨_, rfl, _, _, _, hv, rfl, rfl, fun u hu => ?_⟩
  refine ⟨u, _, rfl, hu, ?_⟩
  refine ⟨_, _, rfl, rfl, rfl, _, rfl, ifN (by simp [ok.len]) ?_⟩
  clear hu
  refine ⟨_, rfl, _, _, _, hv, rfl, rfl, fun u hu => ?_⟩
  obtain ⟨a, xs, rfl, hx, ha⟩ := hu.tup_
  have lx : xs.length = m.es.length := by rw [ha.length, List.length_map]
  refine ⟨a, rfl, ⟨_, hx⟩, fun D hD => lc_tup (xs := xs) (fun i H2 => H2 D = some (.lst (List.replicate i (.bl true))) ∧ Ext H1 H2) ⟨upd_same, Ext.new hD⟩ (fun i H2 _ p => hx.tk (Ke.ext (K := K) (M := []) p.2).tk) ?_ ?_⟩
  · intro i x H2 hxi p
    obtain ⟨e, he, hxe⟩ := mapD ha hxi
    have hi : i < xs.length := by
      obtain ⟨h, _⟩ := List.getElem?_eq_some_iff.mp hxi
      exact h
    refine ⟨rfl, _, rfl, _, rfl, x, n, e, rfl, p.2.dt hxe, ok.es e (List.mem_of_getElem? he), fun H3 k3 => ⟨_, k3 _ _ p.1, ?_, ?_, (p.2.trans k3).over hD⟩⟩
    · rw [List.length_replicate]
      have := ok.few
      have := ok.len
      exact Nat.lt_of_lt_of_le (by omega : i < 5) (sm 5)
    · rw [upd_same, rep_snoc]
  intro H2 p
  obtain ⟨p2, k2⟩ := p
  refine ⟨D, _, rfl, SqL.of (by rw [p2, map_rep]), _, rfl, ?_⟩
  rw [all_rep]
  have hv := k2.dt hv
  refine ⟨_, rfl, _, _, _, hv, rfl, rfl, fun u hu => ?_⟩
  refine ⟨_, rfl, u, n, m.miss, rfl, hu, ok.miss, fun H3 k3 => ⟨_, rfl, ?_⟩⟩
  have hv := k3.dt hv
  clear hu
  refine ⟨_, rfl, _, _, _, hv, rfl, rfl, fun u hu => ?_⟩
  refine ⟨_, _, _, hu, rfl, rfl, fun u hu => ?_⟩
  have hx : ∃ (n : Str) (r : List PyData), m.miss.dd.d = .tuple (.str n :: r) ∧ inV (.str n) [.str "hold", .str "shift"] = true := by
    have st := ok.still
    cases h : m.miss.dd with
    | hold => exact ⟨_, _, rfl, by decide +kernel⟩
    | shift k => exact ⟨_, _, rfl, by decide +kernel⟩
    | run k => rw [h] at st; cases st
    | jump p r => rw [h] at st; cases st
  obtain ⟨nm, r, ex, hin⟩ := hx
  rw [ex] at hu
  refine ⟨_, _, _, hu, rfl, atI_0, fun u hu => ?_⟩
  obtain rfl := hu.str_
  refine ⟨[.str "hold", .str "shift"], .cons (.str _) (.cons (.str _) .nil), sm 2, fun u H4 k4 hu => ?_⟩
  obtain ⟨a, v0, v1, rfl, hs, h0, h1⟩ := hu.tup2
  obtain rfl := h0.str_
  obtain rfl := h1.str_
  refine ⟨_, _, rfl, .inr hs, rfl, rfl, ?_⟩
  have e : (if false = true then !inV (.str nm) [.str "hold", .str "shift"] else inV (.str nm) [.str "hold", .str "shift"]) = true := hin
  rw [e]
  exact q _ (k1.trans (k2.trans (k3.trans k4)))
def spNeedR (K : PySem.W.Frag) : Sp := fun vs H Q _ => ∃ (v : V) (r : List Md), vs = [v] ∧ Dt K H v (rD r) ∧ rOk r ∧ ∀ H', Ext H H' → Q v H'
theorem ok_need_rule (Z : Tx K mg) : Cal P w K mg base CX0 6 "need_rule" p_need_rule (spNeedR K) := by
  obtain ⟨fd, F⟩ := Z.fn_need_rule
  obtain ⟨t3, c_MOST_MODES⟩ := Z.c_MOST_MODES
  refine cal_of Z.g_need_rule F sc_need_rule (fun _ _ _ _ _ _ us hl => match us, hl with | [_], _ => rfl) (by intro vs H Q E h; repeat (first | (obtain ⟨rfl, _⟩ := h; rfl) | (obtain ⟨_, h⟩ := h))) fun cdv A outer s H vs Q E hr h => ?_
  have c_is_mode := ok_is_mode (P := P) (w := w) (base := base) Z
  refine ⟨_, PSs.nox (pss_cons (ps_if (PW.pt (pw_or (pt_not (pt_val (pe_callB call_isD (by rfl) Z.f_isinstance bt_isinstance (pa_cons (pv 0) (pa_cons (pe_bltn (v := .ty "tuple") (by rfl) Z.f_tuple bt_tuple rfl) pa_nil))))) (pw_or1 (pt_not (pt_chain op_le op_le pe_int (pe_callB call_lenT (by rfl) Z.f_len bt_len (pa_cons (pv 0) pa_nil)) (pe_glob (v := .int 3) (by rfl) c_MOST_MODES ⟨_, rfl⟩))))))
      (pss_one ps_never)
      pss_nil)
    (pss_cons (ps_for PassesOwn.never rfl (pi_enumT (by rfl) Z.f_enumerate (pa_cons (pv 0) pa_nil)) (pg_tup rfl (pgs_cons (pg_name (i := 1) sc_need_rule.nd rfl (Or.inl rfl)) (pgs_cons (pg_name (i := 2) sc_need_rule.nd rfl (Or.inl rfl)) pgs_nil)))
      (pss_one (ps_if (pt_not (pt_val (pe_cal c_is_mode hr pass0 (pa_cons (pv 2) (pa_cons (pe_callB call_lenT (by rfl) Z.f_len bt_len (pa_cons (pv 0) pa_nil)) pa_nil)))))
          (pss_one ps_never)
          pss_nil)))
    (pss_one (ps_ret (pv 0))))), ?_⟩
  obtain ⟨v, r, rfl, hv, ro, q⟩ := h
  have r1 := ro.lo
  have r2 := ro.hi
  refine ⟨_, rfl, _, _, _, true, rfl, hv, kb_tup, _, rfl, ?_⟩
  refine ⟨_, rfl, _, _, rfl, hv, _, _, rfl, rfl, _, rfl, ifT (by simp; omega) ?_⟩
  refine ⟨_, _, rfl, rfl, _, rfl, ifN (by simp; omega) ?_⟩
  obtain ⟨a, xs, rfl, hx, ha⟩ := id hv.tup_
  have lx : xs.length = r.length := by rw [ha.length, List.length_map]
  refine ⟨_, rfl, a, xs, rfl, hx, for_it walk_enumT (fun i σ H1 => (∃ o1 o2, σ = [some (.ref a), o1, o2]) ∧ Ext H H1) ⟨⟨_, _, rfl⟩, Ext.refl'⟩ (fun i σ H1 _ p => hx.tk (Ke.ext (K := K) (M := []) p.2).tk) ?_ ?_⟩
  · intro i x σ H1 H2 hi p y
    obtain ⟨⟨o1, o2, rfl⟩, k1⟩ := p
    obtain ⟨T, x1, x2, rfl, hT, rfl, e1, e2⟩ := y
    cases e1
    obtain ⟨m, hm, hxm⟩ := mapD ha e2
    have k2 : Ext H (upd H1 T (.tup [.int i, x2])) := k1.trans (Ext.new hT)
    refine ⟨T, _, rfl, SqT.of upd_same, rfl, _, _, rfl, _, _, rfl, rfl, ?_⟩
    refine ⟨_, rfl, _, rfl, _, _, rfl, k2.dt hv, x2, r.length, m, ?_, k2.dt hxm, ro.ms m (List.mem_of_getElem? hm), fun H3 k3 => ⟨_, rfl, ⟨_, _, rfl⟩, k2.trans k3⟩⟩
    rw [List.length_map]
  · intro σ H1 p
    obtain ⟨⟨o1, o2, rfl⟩, k1⟩ := p
    exact ⟨_, rfl, q _ k1⟩
end
end K21
/-! K21G: gone_through. -/
namespace K21
open PySem PySem.Spec PyProof.Rows L2 LamX He
/-- what doing rounds makes: the first that is none, all differences, the stand -/
def goneP (x : Wd) (r : List Md) : Nat → Sd → List Int → List Rd → Option Nat × List Int × Sd
  | _, b, acc, [] => (none, acc, b)
  | i, b, acc, one :: rs => if goodR x b.ls one = true then goneP x r (i + 1) (stp r b one.1 one.2).2.2 (acc ++ [(stp r b one.1 one.2).1, (stp r b one.1 one.2).2.2.df]) rs else (some i, acc, b)
theorem goneP_ok {x : Wd} {r : List Md} (ro : rOk r) : ∀ (rs : List Rd) (i : Nat) (b : Sd) (acc : List Int), b.ok r → (goneP x r i b acc rs).2.2.ok r
  | [], _, _, _, h => h
  | one :: rs, i, b, acc, h => by
    unfold goneP
    split
    · exact goneP_ok ro rs _ _ _ (stp_ok ro h _ _)
    · exact h
theorem goneP_len {x : Wd} {r : List Md} : ∀ (rs : List Rd) (i : Nat) (b : Sd) (acc : List Int), (goneP x r i b acc rs).2.1.length ≤ acc.length + 2 * rs.length
  | [], _, _, acc => by simp [goneP]
  | one :: rs, i, b, acc => by
    unfold goneP
    split
    · refine Nat.le_trans (goneP_len rs _ _ _) ?_
      simp only [List.length_append, List.length_cons, List.length_nil]
      omega
    · simp only [List.length_cons]
      omega
theorem goneP_cons (x : Wd) (r : List Md) (i : Nat) (b : Sd) (acc : List Int) (one : Rd) (rs : List Rd) : goneP x r i b acc (one :: rs) = if goodR x b.ls one = true then goneP x r (i + 1) (stp r b one.1 one.2).2.2 (acc ++ [(stp r b one.1 one.2).1, (stp r b one.1 one.2).2.2.df]) rs else (some i, acc, b) := by rw [goneP]
def natO (o : Option Nat) : V := optV (o.map fun n => (n : Int))
section
variable {P : Program} {w : World} {K : PySem.W.Frag} {mg : Str → Option Value} {base : Heap}
def spGone (K : PySem.W.Frag) : Sp := fun vs H Q _ => ∃ (vw vr vb vs' : V) (x : Wd) (r : List Md) (b : Sd) (rs : List Rd), vs = [vw, vr, vb, vs'] ∧ Dt K H vw x.d ∧ Dt K H vr (rD r) ∧ rOk r ∧ Dt K H vb b.d ∧ b.ok r ∧ Dt K H vs' (.tuple (rs.map Rd.d)) ∧ rs.length ≤ 1000 ∧
  ∀ p l v2 H', Ext H H' → H' p = some (.tup [natO (goneP x r 0 b [b.df] rs).1, .ref l, v2]) → H' l = some (.lst ((goneP x r 0 b [b.df] rs).2.1.map V.int)) → Dt K H' v2 (goneP x r 0 b [b.df] rs).2.2.d → Q (.ref p) H'
theorem ok_gone_through (Z : Tx K mg) : Cal P w K mg base CX0 4 "gone_through" p_gone_through (spGone K) := by
  obtain ⟨fd, F⟩ := Z.fn_gone_through
  refine cal_of Z.g_gone_through F sc_gone_through (fun _ _ _ _ _ _ us hl => match us, hl with | [_, _, _, _], _ => rfl) (by intro vs H Q E h; repeat (first | (obtain ⟨rfl, _⟩ := h; rfl) | (obtain ⟨_, h⟩ := h))) fun cdv A outer s H vs Q E hr h => ?_
  have c_is_round := ok_is_round (P := P) (w := w) (base := base) Z
  have c_stepped := ok_stepped (P := P) (w := w) (base := base) Z
  refine ⟨_, PSs.nox (pss_cons (ps_par (i := 4) (j := 5) rfl sc_gone_through.nd rfl rfl (by decide) rfl rfl (pa_cons (pv 2) (pa_cons (pe_lst (pa_cons (pe_ix ix_D (pv 2) pe_int (fun _ _ => rfl)) pa_nil)) pa_nil)) (by rfl))
    (pss_cons (ps_for PassesOwn.never rfl (pi_enumT (by rfl) Z.f_enumerate (pa_cons (pv 3) pa_nil)) (pg_tup rfl (pgs_cons (pg_name (i := 6) sc_gone_through.nd rfl (Or.inl rfl)) (pgs_cons (pg_name (i := 7) sc_gone_through.nd rfl (Or.inl rfl)) pgs_nil)))
      (pss_cons (ps_if (pt_not (pt_val (pe_cal c_is_round hr pass0 (pa_cons (pv 0) (pa_cons (pe_ix ix_D (pv 4) pe_int (fun _ _ => rfl)) (pa_cons (pv 7) pa_nil))))))
          (pss_one (ps_ret (pe_tup (pa_cons (pv 6) (pa_cons (pv 5) (pa_cons (pv 4) pa_nil))))))
          pss_nil)
        (pss_cons (ps_asg (pe_cal c_stepped hr pass0 (pa_cons (pv 1) (pa_cons (pv 4) (pa_cons (pe_ix ix_D (pv 7) pe_int (fun _ _ => rfl)) (pa_cons (pe_ix ix_D (pv 7) pe_int (fun _ _ => rfl)) pa_nil))))) (pg_tup rfl (pgs_cons (pg_name (i := 8) sc_gone_through.nd rfl (Or.inl rfl)) (pgs_cons (pg_name (i := 9) sc_gone_through.nd rfl (Or.inl rfl)) (pgs_cons (pg_name (i := 4) sc_gone_through.nd rfl (Or.inl rfl)) pgs_nil)))))
        (pss_one (ps_expr (pe_bm PySem.F.plainAttrs_list PySem.F.slot_list_extend PySem.F.type_list_extend mt_extend (pv 5) (pa_cons (pe_lst (pa_cons (pv 8) (pa_cons (pe_ix ix_D (pv 4) pe_int (fun _ _ => rfl)) pa_nil))) pa_nil)))))))
    (pss_one (ps_ret (pe_tup (pa_cons pe_non (pa_cons (pv 5) (pa_cons (pv 4) pa_nil)))))))), ?_⟩
  obtain ⟨vw, vr, vb, vs', x, r, b, rs, rfl, hw, hr0, ro, hb, bo, hs, few, q⟩ := h
  refine ⟨_, rfl, ?_⟩
  refine ⟨_, rfl, _, _, _, hb, rfl, rfl, fun u hu => ?_⟩; obtain rfl := hu.int_; clear hu
  refine ⟨sm 1, fun l hl => ⟨_, _, rfl, ?_⟩⟩
  obtain ⟨a, xs, rfl, hx, ha⟩ := id hs.tup_
  have lx : xs.length = rs.length := by rw [ha.length, List.length_map]
  have k0 : Ext H (upd H l (.lst [.int b.df])) := Ext.new hl
  refine ⟨_, rfl, a, xs, rfl, hx.tk (Ke.ext (K := K) (M := []) k0).tk, for_it (walk_enumT (xs := xs)) (fun i σ H1 => ∃ sd acc vd o6 o7 o8 o9, σ = [some vw, some vr, some vb, some (.ref a), some vd, some (.ref l), o6, o7, o8, o9] ∧ Ext H H1 ∧ H1 l = some (.lst (acc.map V.int)) ∧ Dt K H1 vd (Sd.d sd) ∧ sd.ok r ∧ acc.length ≤ 1 + 2 * i ∧
      goneP x r 0 b [b.df] rs = goneP x r i sd acc (rs.drop i)) ⟨b, [b.df], vb, _, _, _, _, rfl, k0, upd_same, k0.dt hb, bo, Nat.le_refl _, by rw [List.drop_zero]⟩ (fun i σ H1 _ p => ?_) ?_ ?_⟩
  · obtain ⟨sd, acc, vd, o6, o7, o8, o9, rfl, k1, _⟩ := p
    exact hx.tk (Ke.ext (K := K) (M := []) k1).tk
  · intro i v σ H1 H2 hi p y
    obtain ⟨sd, acc, vd, o6, o7, o8, o9, rfl, k1, hll, hd, so, hacc, eg⟩ := p
    obtain ⟨T, x1, x2, rfl, hT, rfl, e1, e2⟩ := y
    cases e1
    obtain ⟨one, ho, hone⟩ := mapD ha e2
    have kT : Ext H1 (upd H1 T (.tup [.int i, x2])) := Ext.new hT
    have hone1 := (k1.trans kT).dt hone
    have hd1 := kT.dt hd
    have ed : rs.drop i = one :: rs.drop (i + 1) := by
      obtain ⟨h1, h2⟩ := List.getElem?_eq_some_iff.mp ho
      rw [List.drop_eq_getElem_cons h1, h2]
    rw [ed] at eg
    refine ⟨T, _, rfl, SqT.of upd_same, rfl, _, _, rfl, _, _, rfl, rfl, ?_⟩
    refine ⟨_, rfl, ?_⟩
    refine ⟨_, rfl, _, _, _, hd1, rfl, rfl, fun u hu => ?_⟩; obtain rfl := hu.int_; clear hu
    refine ⟨_, rfl, vw, x2, x, sd.ls, one, rfl, (k1.trans kT).dt hw, hone1, _, rfl, ?_⟩
    by_cases g : goodR x sd.ls one = true
    · rw [g]
      rw [goneP_cons, if_pos g] at eg
      refine ⟨_, rfl, _, rfl, ?_⟩
      refine ⟨_, rfl, _, _, _, hone1, rfl, rfl, fun u hu => ?_⟩; obtain rfl := hu.int_; clear hu
      refine ⟨_, rfl, _, _, _, hone1, rfl, rfl, fun u hu => ?_⟩
      obtain rfl := hu.opt_
      clear hu
      refine ⟨vr, vd, r, sd, one.1, one.2, rfl, (k1.trans kT).dt hr0, ro, hd1, so, fun u H2 k2 hu => ?_⟩
      obtain ⟨a2, w0, w1, w2, rfl, hs2, g0, g1, g2⟩ := hu.tup3
      obtain rfl := g0.int_
      obtain rfl := g1.int_
      refine ⟨a2, _, rfl, hs2, rfl, _, _, rfl, _, _, rfl, _, _, rfl, rfl, ?_⟩
      have hl2 : H2 l = some (.lst (acc.map V.int)) := k2 _ _ (kT _ _ hll)
      refine ⟨_, rfl, .inl ⟨rfl, _, SqL.of hl2⟩, _, rfl, ?_⟩
      refine ⟨_, rfl, _, _, _, g2, rfl, rfl, fun u hu => ?_⟩; obtain rfl := hu.int_; clear hu
      refine ⟨sm 2, fun p hp => ?_⟩
      have hlp : l ≠ p := ne_of_none hl2 hp
      refine ⟨l, p, _, _, rfl, rfl, (upd_ne hlp).trans hl2, upd_same, ?_, ?_⟩
      · rw [List.length_map]
        have h1 : i < 1000 := by omega
        have h2 : acc.length ≤ 2001 := by omega
        exact Nat.le_trans (by simp only [List.length_cons, List.length_nil]; omega : _ ≤ 2003) (sm 2003)
      · have k3 : Ext H (upd (upd H2 p (.lst [.int (stp r sd one.1 one.2).1, .int (stp r sd one.1 one.2).2.2.df])) l (.lst (acc.map V.int ++ [.int (stp r sd one.1 one.2).1, .int (stp r sd one.1 one.2).2.2.df]))) :=
          ((k1.trans (kT.trans k2)).trans (Ext.new hp)).over hl
        refine ⟨(stp r sd one.1 one.2).2.2, acc ++ [(stp r sd one.1 one.2).1, (stp r sd one.1 one.2).2.2.df], w2, _, _, _, _, rfl, k3, ?_, ?_, stp_ok ro so _ _, ?_, eg⟩
        · rw [upd_same, List.map_append]
          rfl
        · refine Dt.tk ?_ _ _ g2
          intro c ys
          have nl : ∀ o, (∃ ys, o = HO.tup ys ∨ ∃ q, o = HO.frz q (.tup ys)) → H2 c = some o → (upd (upd H2 p (.lst [.int (stp r sd one.1 one.2).1, .int (stp r sd one.1 one.2).2.2.df])) l (.lst (acc.map V.int ++ [.int (stp r sd one.1 one.2).1, .int (stp r sd one.1 one.2).2.2.df]))) c = some o := fun o ho e => by
            have h1 : c ≠ l := fun z => by
              rw [z, hl2] at e
              obtain ⟨ys, z1 | ⟨q, z1⟩⟩ := ho <;> (subst z1; cases e)
            rw [upd_ne h1, upd_ne (ne_of_none e hp)]
            exact e
          exact ⟨fun e => nl _ ⟨ys, .inl rfl⟩ e, fun o e => nl _ ⟨ys, .inr ⟨o, rfl⟩⟩ e⟩
        · simp only [List.length_append, List.length_cons, List.length_nil]
          omega
    · have g' : goodR x sd.ls one = false := by simpa using g
      rw [g']
      rw [goneP_cons, if_neg g] at eg
      refine ⟨_, rfl, _, rfl, _, rfl, sm 3, fun p hp => ?_⟩
      have hlp : l ≠ p := ne_of_none (kT _ _ hll) hp
      have kp := Ext.new (o := .tup [.int i, .ref l, vd]) hp
      rw [eg] at q
      exact q p l vd _ ((k1.trans kT).trans kp) upd_same ((upd_ne hlp).trans (kT _ _ hll)) (kp.dt hd1)
  · intro σ H1 p
    obtain ⟨sd, acc, vd, o6, o7, o8, o9, rfl, k1, hll, hd, so, hacc, eg⟩ := p
    rw [lx, List.drop_length] at eg
    rw [eg] at q
    refine ⟨_, rfl, _, rfl, sm 3, fun p hp => ?_⟩
    have hlp : l ≠ p := ne_of_none hll hp
    have kp := Ext.new (o := .tup [.non, .ref l, vd]) hp
    exact q p l vd _ (k1.trans kp) upd_same ((upd_ne hlp).trans hll) (kp.dt hd)
end
end K21
/-! K21J: pairs as data; need_many, Pair.__init__, properties, do. -/
namespace K21
open PySem PySem.Spec PyProof.Rows L2 LamX He
/-- what a pair had behind a step -/
structure Sn where
  rs : List Rd
  sd : Sd
  df : List Int
def Sn.d (s : Sn) : PyData := .tuple [.tuple (s.rs.map Rd.d), s.sd.d, .tuple (s.df.map .int)]
structure Sn.ok (r : List Md) (s : Sn) : Prop where
  sd : s.sd.ok r
  df : s.df ≠ []
  few : s.rs.length ≤ 1000
  dl : s.df.length ≤ 1 + 2 * s.rs.length
structure Ps where
  w : Wd
  r : List Md
  b : Int
  now : Sn
  past : List Sn
  coming : List Sn
structure Ps.ok (p : Ps) : Prop where
  w : p.w.ok
  r : rOk p.r
  b : -500 ≤ p.b ∧ p.b ≤ 500
  now : p.now.ok p.r
  past : ∀ s ∈ p.past, s.ok p.r
  coming : ∀ s ∈ p.coming, s.ok p.r
  few : p.past.length + p.coming.length ≤ 1000
def pfs (vw vr : V) (b : Int) (vn vp vc : V) : List (Str × V) := [("own_world", vw), ("own_rule", vr), ("begin", .int b), ("now", vn), ("past", vp), ("coming", vc)]
/-- the instance at a is the pair p -/
def PairAt (K : PySem.W.Frag) (H : Hp) (a : Addr) (p : Ps) : Prop := ∃ dx vw vr vn vp vc, H a = some (.ins (ga K "Pair") dx (pfs vw vr p.b vn vp vc)) ∧ Dt K H vw p.w.d ∧ Dt K H vr (rD p.r) ∧ Dt K H vn p.now.d ∧ Dt K H vp (.tuple (p.past.map Sn.d)) ∧ Dt K H vc (.tuple (p.coming.map Sn.d))
section
variable {K : PySem.W.Frag} {M : List Addr} {H H' H1 : Hp} {a dx C : Addr} {p : Ps} {vw vr vn vp vc y : V} {b : Int} {fs : List (Str × V)}
theorem lk_w : (pfs vw vr b vn vp vc).lookup ("own_world" : Str) = some vw := rfl
theorem lk_r : (pfs vw vr b vn vp vc).lookup ("own_rule" : Str) = some vr := rfl
theorem lk_b : (pfs vw vr b vn vp vc).lookup ("begin" : Str) = some (.int b) := rfl
theorem lk_n : (pfs vw vr b vn vp vc).lookup ("now" : Str) = some vn := rfl
theorem lk_p : (pfs vw vr b vn vp vc).lookup ("past" : Str) = some vp := rfl
theorem lk_c : (pfs vw vr b vn vp vc).lookup ("coming" : Str) = some vc := rfl
theorem pf_n : putF "now" y (pfs vw vr b vn vp vc) = pfs vw vr b y vp vc := rfl
theorem pf_p : putF "past" y (pfs vw vr b vn vp vc) = pfs vw vr b vn y vc := rfl
theorem pf_c : putF "coming" y (pfs vw vr b vn vp vc) = pfs vw vr b vn vp y := rfl
theorem PairAt.ke (k : Ke K M H H') (ha : a ∉ M) (h : PairAt K H a p) : PairAt K H' a p := by
  obtain ⟨dx, vw, vr, vn, vp, vc, h0, h1, h2, h3, h4, h5⟩ := h
  exact ⟨dx, vw, vr, vn, vp, vc, k.kp _ _ h0 (.inr ⟨ha, rfl⟩), k.dt h1, k.dt h2, k.dt h3, k.dt h4, k.dt h5⟩
theorem PairAt.kx (k : Kx K M H H') (ha : a ∉ M) (h : PairAt K H a p) : PairAt K H' a p := h.ke k.ke ha
theorem PairAt.ext (k : Ext H H') (h : PairAt K H a p) : PairAt K H' a p := h.ke (M := []) (.ext k) (by simp)
/-- an instance in M is written -/
theorem Kx.put {fs' : List (Str × V)} (k : Kx K M H H1) (ha : a ∈ M) (h : H1 a = some (.ins C dx fs)) : Kx K M H (upd H1 a (.ins C dx fs')) := by
  refine ⟨fun b o e c => ?_, fun t => ?_⟩
  · have e1 := k.kp b o e c
    have hne : b ≠ a := fun z => by
      subst z
      rcases c with c | c
      · rw [h] at e1
        cases e1
        cases c
      · exact c ha
    rw [upd_ne hne]
    exact e1
  · have t1 := k.tab t
    intro q hq
    obtain ⟨ps, a1, a2, a3⟩ := t1 q hq
    refine ⟨ps, (upd_ne (ne_of a1 h (by intro z; cases z))).trans a1, a2, fun pos cv hc => ?_⟩
    obtain ⟨c, e1, e2⟩ := a3 pos cv hc
    exact ⟨c, e1, (upd_ne (ne_of e2 h (by intro z; unfold CodeO at z; cases z))).trans e2⟩
theorem Dt.put {d : PyData} {v : V} (hd : Dt K H v d) (h : H a = some (.ins C dx fs)) {fs' : List (Str × V)} : Dt K (upd H a (.ins C dx fs')) v d := (Kx.put (M := [a]) Kx.refl List.mem_cons_self h).dt hd
end
/-- an own error is let out: its class, its field's datum -/
def Err (K : PySem.W.Frag) (E : XK) (n fld : Str) (d : PyData) (H : Hp) : Prop := ∀ x v H', Ext H H' → H x = none → H' x = some (.xd [(fld, v)]) → Dt K H' v d → E (.ref (ga K n)) (some x) H'
theorem Err.at_ {K : PySem.W.Frag} {E : XK} {n fld : Str} {d : PyData} {H H1 : Hp} {x : Addr} {v : V} (e : Err K E n fld d H) (k : Ext H H1) (hx : H1 x = none) (hv : Dt K H1 v d) : E (.ref (ga K n)) (some x) (upd H1 x (.xd [(fld, v)])) :=
  e x v _ (k.trans (Ext.new hx)) (by
    cases h : H x with
    | none => rfl
    | some o => rw [k _ _ h] at hx; cases hx) upd_same ((Ext.new hx).dt hv)
theorem Err.ext {K : PySem.W.Frag} {E : XK} {n fld : Str} {d : PyData} {H H1 : Hp} (e : Err K E n fld d H) (k : Ext H H1) : Err K E n fld d H1 := fun x v H' k2 hx h hv => e x v H' (k.trans k2) (by
    cases q : H x with
    | none => rfl
    | some o => rw [k _ _ q] at hx; cases hx) h hv
section
variable {P : Program} {w : World} {K : PySem.W.Frag} {mg : Str → Option Value} {base : Heap}
def spMany (K : PySem.W.Frag) : Sp := fun vs H Q E => ∃ (m : Int) (v : V) (ds : List PyData), vs = [.int m, v] ∧ 1 ≤ m ∧ Dt K H v (.tuple ds) ∧ (m > ds.length → Err K E "NothingLeft" "many" (.int m) H) ∧ (m ≤ ds.length → Q .non H)
theorem ok_need_many (Z : Tx K mg) : Cal P w K mg base (L2.CX P w) 3 "need_many" p_need_many (spMany K) := by
  obtain ⟨fd, F⟩ := Z.fn_need_many
  refine cal_of Z.g_need_many F sc_need_many (fun _ _ _ _ _ _ us hl => match us, hl with | [_, _], _ => rfl) (by intro vs H Q E h; repeat (first | (obtain ⟨rfl, _⟩ := h; rfl) | (obtain ⟨_, h⟩ := h))) fun cdv A outer s H vs Q E hr h => ?_
  have c_is_integer := ok_is_integer (P := P) (w := w) (base := base) Z
  refine ⟨_, (pss_cons (ps_if (PW.pt (pw_or (pt_not (pt_val (pe_cal c_is_integer hr pass0 (pa_cons (pv 0) pa_nil)))) (pw_or1 (pt_cmpR op_lt (pv 0) pe_int (nomark _)))))
      (pss_one ps_never)
      pss_nil)
    (pss_one (ps_if (pt_cmpR op_gt (pv 0) (pe_callB call_lenT (by rfl) Z.f_len bt_len (pa_cons (pv 1) pa_nil)) (nomark _))
      (pss_one (ps_raise rfl (takes_of rfl rfl rfl rfl) (pmk_NothingLeft (k := 0) Z (hr.mono (by decide)) (pa_cons (pv 0) pa_nil))))
      pss_nil))), ?_⟩
  obtain ⟨m, v, ds, rfl, hm, hv, q1, q2⟩ := h
  refine ⟨_, rfl, m, rfl, _, rfl, ?_⟩
  refine ⟨_, rfl, _, _, rfl, rfl, _, rfl, ifN (by simp; omega) ?_⟩
  refine ⟨_, rfl, _, rfl, _, _, rfl, hv, _, _, rfl, rfl, _, rfl, ifC (fun c => ?_) fun c => ?_⟩
  · have c' : m > ds.length := by simpa using c
    exact ⟨_, rfl, _, rfl, fun d hd => (q1 c').at_ Ext.refl' hd (.int m)⟩
  · have c' : m ≤ ds.length := by simpa using c
    exact q2 c'
/-! ### Pair.__init__ -/
def newP (x : Wd) (r : List Md) (b : Int) : Ps := ⟨x, r, b, ⟨[], ⟨0, 0, b⟩, [b]⟩, [], []⟩
theorem newP_ok {x : Wd} {r : List Md} {b : Int} (xo : x.ok) (ro : rOk r) (hb : -500 ≤ b ∧ b ≤ 500) : (newP x r b).ok :=
  ⟨xo, ro, hb, ⟨⟨0, rfl, ro.lo⟩, by simp [newP], by simp [newP], by simp [newP]⟩, by simp [newP], by simp [newP], by simp [newP]⟩
def spPInit (K : PySem.W.Frag) : Sp := fun vs H Q _ => ∃ (a dx : Addr) (vw vr : V) (b : Int) (x : Wd) (r : List Md), vs = [.ref a, vw, vr, .int b] ∧ H a = some (.ins (ga K "Pair") dx []) ∧ Dt K H vw x.d ∧ x.ok ∧ Dt K H vr (rD r) ∧ rOk r ∧ -500 ≤ b ∧ b ≤ 500 ∧
  ∀ H', Kx K [a] H H' → PairAt K H' a (newP x r b) → Q .non H'
theorem ok_Pair_init (Z : Tx K mg) {fd : FuncData} (F : FunD K d_Pair_init.name d_Pair_init.qual (defArgs s_Pair_init) (defBody s_Pair_init) (defScope s_Pair_init) (d_Pair_init.dfl.map (Dv.v K)) [] (d_Pair_init.at_ K) fd) :
    FnOk P w K mg base CX0 7 (ma K (ga K "Pair") "__init__") fd p_Pair_init (spPInit K) := by
  obtain ⟨t1, c_MOST_BEGIN⟩ := Z.c_MOST_BEGIN
  refine F.ok sc_Pair_init (by intro vs H Q E h; repeat (first | (obtain ⟨rfl, _⟩ := h; rfl) | (obtain ⟨_, h⟩ := h))) fun cdv A outer s H vs Q E hr h => ?_
  have c_is_whole := ok_is_whole (P := P) (w := w) (base := base) Z
  have c_need_world := ok_need_world (P := P) (w := w) (base := base) Z
  have c_need_rule := ok_need_rule (P := P) (w := w) (base := base) Z
  refine ⟨_, PSs.nox (pss_cons (ps_fld (pv 0) (pe_cal c_need_world hr pass0 (pa_cons (pv 1) pa_nil)) rfl)
    (pss_cons (ps_fld (pv 0) (pe_cal c_need_rule hr pass0 (pa_cons (pv 2) pa_nil)) rfl)
    (pss_cons (ps_if (pt_not (pt_val (pe_cal c_is_whole hr pass0 (pa_cons (pv 3) (pa_cons (pe_un un_neg (pe_glob (v := .int 500) (by rfl) c_MOST_BEGIN ⟨_, rfl⟩)) (pa_cons (pe_glob (v := .int 500) (by rfl) c_MOST_BEGIN ⟨_, rfl⟩) pa_nil))))))
      (pss_one ps_never)
      pss_nil)
    (pss_cons (ps_fld (pv 0) (pv 3) rfl)
    (pss_cons (ps_fld (pv 0) (pe_tupD (pa_cons (pe_tupD pa_nil) (pa_cons (pe_tupD (pa_cons pe_int (pa_cons pe_int (pa_cons (pv 3) pa_nil)))) (pa_cons (pe_tupD (pa_cons (pv 3) pa_nil)) pa_nil)))) rfl)
    (pss_cons (ps_fld (pv 0) (pe_tupD pa_nil) rfl)
    (pss_one (ps_fld (pv 0) (pe_tupD pa_nil) rfl)))))))), ?_⟩
  obtain ⟨a, dx, vw, vr, b, x, r, rfl, ha, hw, xo, hr0, ro, b1, b2, q⟩ := h
  refine ⟨_, rfl, vw, x, rfl, hw, xo, _, rfl, a, _, dx, _, rfl, ha, Z.clsP, Z.no_own_world, (by show (0 : Nat) < 1000; decide), ?_⟩
  have k1 : Kx K [a] H (upd H a (.ins (ga K "Pair") dx [("own_world", vw)])) := Kx.put .refl List.mem_cons_self ha
  refine ⟨_, rfl, vr, r, rfl, k1.dt hr0, ro, fun H2 k2 => ⟨_, rfl, a, _, dx, _, rfl, k2 _ _ upd_same, Z.clsP, Z.no_own_rule, (by show (1 : Nat) < 1000; decide), ?_⟩⟩
  have k3 := Kx.put (fs' := putF "own_rule" vr [("own_world", vw)]) (k1.trans (.ext k2)) List.mem_cons_self (k2 _ _ upd_same)
  refine ⟨_, rfl, _, rfl, b, -500, 500, rfl, _, rfl, ?_⟩
  rw [decide_eq_true (p := -500 ≤ b ∧ b ≤ 500) ⟨b1, b2⟩]
  refine ⟨_, rfl, _, rfl, a, _, dx, _, rfl, upd_same, Z.clsP, Z.no_begin, (by show (2 : Nat) < 1000; decide), ?_⟩
  have k4 := Kx.put (fs' := putF "begin" (.int b) (putF "own_rule" vr [("own_world", vw)])) k3 List.mem_cons_self upd_same
  refine ⟨[], .nil, sm 0, fun u1 H5 k5 hu1 => ?_⟩
  refine ⟨_, rfl, [.int 0, .int 0, .int b], .cons (.int _) (.cons (.int _) (.cons (.int _) .nil)), sm 3, fun u2 H6 k6 hu2 => ?_⟩
  refine ⟨_, rfl, [.int b], .cons (.int _) .nil, sm 1, fun u3 H7 k7 hu3 => ?_⟩
  refine ⟨[.tuple [], .tuple [.int 0, .int 0, .int b], .tuple [.int b]], .cons ((k6.trans k7).dt hu1) (.cons (k7.dt hu2) (.cons hu3 .nil)), sm 3, fun u4 H8 k8 hu4 => ?_⟩
  have k9 := k4.trans (.ext (k5.trans (k6.trans (k7.trans k8))))
  refine ⟨_, rfl, a, _, dx, _, rfl, (k5.trans (k6.trans (k7.trans k8))) _ _ upd_same, Z.clsP, Z.no_now, (by show (3 : Nat) < 1000; decide), ?_⟩
  have k10 := Kx.put (fs' := putF "now" u4 (putF "begin" (.int b) (putF "own_rule" vr [("own_world", vw)]))) k9 List.mem_cons_self ((k5.trans (k6.trans (k7.trans k8))) _ _ upd_same)
  have hu4 := hu4.put (fs' := putF "now" u4 (putF "begin" (.int b) (putF "own_rule" vr [("own_world", vw)]))) ((k5.trans (k6.trans (k7.trans k8))) _ _ upd_same)
  refine ⟨[], .nil, sm 0, fun u5 H11 k11 hu5 => ?_⟩
  refine ⟨_, rfl, a, _, dx, _, rfl, k11 _ _ upd_same, Z.clsP, Z.no_past, (by show (4 : Nat) < 1000; decide), ?_⟩
  have k12 := Kx.put (fs' := putF "past" u5 (putF "now" u4 (putF "begin" (.int b) (putF "own_rule" vr [("own_world", vw)])))) (k10.trans (.ext k11)) List.mem_cons_self (k11 _ _ upd_same)
  have hu4 := (k11.dt hu4).put (fs' := putF "past" u5 (putF "now" u4 (putF "begin" (.int b) (putF "own_rule" vr [("own_world", vw)])))) (k11 _ _ upd_same)
  have hu5 := hu5.put (fs' := putF "past" u5 (putF "now" u4 (putF "begin" (.int b) (putF "own_rule" vr [("own_world", vw)])))) (k11 _ _ upd_same)
  refine ⟨[], .nil, sm 0, fun u6 H13 k13 hu6 => ?_⟩
  refine ⟨_, rfl, a, _, dx, _, rfl, k13 _ _ upd_same, Z.clsP, Z.no_coming, (by show (5 : Nat) < 1000; decide), ?_⟩
  have k14 := Kx.put (fs' := pfs vw vr b u4 u5 u6) (k12.trans (.ext k13)) List.mem_cons_self (k13 _ _ upd_same)
  have hu4 := (k13.dt hu4).put (fs' := pfs vw vr b u4 u5 u6) (k13 _ _ upd_same)
  have hu5 := (k13.dt hu5).put (fs' := pfs vw vr b u4 u5 u6) (k13 _ _ upd_same)
  have hu6 := hu6.put (fs' := pfs vw vr b u4 u5 u6) (k13 _ _ upd_same)
  exact q _ k14 ⟨dx, vw, vr, u4, u5, u6, upd_same, k14.dt hw, k14.dt hr0, hu4, hu5, hu6⟩
end
end K21
/-! K21K: Pair.do and the properties. -/
namespace K21
open PySem PySem.Spec PyProof.Rows L2 LamX He
def Ps.gone (p : Ps) (rs : List Rd) : Option Nat × List Int × Sd := goneP p.w p.r 0 p.now.sd [p.now.sd.df] rs
def Ps.did (p : Ps) (rs : List Rd) : Ps := { p with past := p.past ++ [p.now], now := ⟨p.now.rs ++ rs, (p.gone rs).2.2, p.now.df ++ (p.gone rs).2.1.drop 1⟩, coming := [] }
theorem Ps.ok.did {p : Ps} (h : p.ok) {rs : List Rd} (hp : p.past.length < 1000) (hl : p.now.rs.length + rs.length ≤ 1000) : (p.did rs).ok := by
  refine ⟨h.w, h.r, h.b, ⟨goneP_ok h.r _ _ _ _ h.now.sd, ?_, ?_, ?_⟩, ?_, ?_, ?_⟩
  · have := h.now.df
    simp [Ps.did, this]
  · simp only [Ps.did, List.length_append]
    exact hl
  · have h1 := goneP_len (x := p.w) (r := p.r) rs 0 p.now.sd [p.now.sd.df]
    have h2 := h.now.dl
    simp only [Ps.did, Ps.gone, List.length_append, List.length_drop, List.length_cons, List.length_nil] at h1 ⊢
    omega
  · intro s hs
    simp only [Ps.did, List.mem_append, List.mem_singleton] at hs
    rcases hs with hs | rfl
    · exact h.past s hs
    · exact h.now
  · intro s hs
    simp [Ps.did] at hs
  · simp only [Ps.did, List.length_append, List.length_cons, List.length_nil]
    omega
section
variable {P : Program} {w : World} {K : PySem.W.Frag} {mg : Str → Option Value} {base : Heap}
def spDo (K : PySem.W.Frag) : Sp := fun vs H Q E => ∃ (a : Addr) (p : Ps) (v : V) (rs : List Rd), vs = [.ref a, v] ∧ PairAt K H a p ∧ p.ok ∧ Dt K H v (.tuple (rs.map Rd.d)) ∧ rs.length ≤ 1000 ∧
  (∀ n : Nat, (p.gone rs).1 = some n → Err K E "BadRun" "number" (.int n) H) ∧ ((p.gone rs).1 = none → p.now.rs.length + rs.length > 1000 → Err K E "TooGreat" "most" (.int 1000) H) ∧
  ((p.gone rs).1 = none → p.now.rs.length + rs.length ≤ 1000 → ∀ H', Kx K [a] H H' → PairAt K H' a (p.did rs) → Q .non H')
theorem ok_Pair_do (Z : Tx K mg) : Mcal P w K mg base (L2.CX P w) 5 (ga K "Pair") "do" p_Pair_do [] (spDo K) := by
  obtain ⟨fd, F⟩ := Z.fn_Pair_do
  obtain ⟨t1, c_MOST_DONE⟩ := Z.c_MOST_DONE
  refine ⟨_, fd, [], Z.m_do, F.ok sc_Pair_do (by intro vs H Q E h; repeat (first | (obtain ⟨rfl, _⟩ := h; rfl) | (obtain ⟨_, h⟩ := h))) (fun cdv A outer s H vs Q E hr h => ?_), F.bindsN (fun _ _ _ _ _ _ us hl => match us, hl with | [_, _], _ => rfl), .nil⟩
  have c_gone_through := ok_gone_through (P := P) (w := w) (base := base) Z
  refine ⟨_, (pss_cons (ps_asg (pe_cal c_gone_through hr pass0 (pa_cons (pe_fld (pv 0) rfl) (pa_cons (pe_fld (pv 0) rfl) (pa_cons (pe_ix ix_D (pe_fld (pv 0) rfl) pe_int (fun _ _ => rfl)) (pa_cons (pv 1) pa_nil))))) (pg_tup rfl (pgs_cons (pg_name (i := 2) sc_Pair_do.nd rfl (Or.inl rfl)) (pgs_cons (pg_name (i := 3) sc_Pair_do.nd rfl (Or.inl rfl)) (pgs_cons (pg_name (i := 4) sc_Pair_do.nd rfl (Or.inl rfl)) pgs_nil)))))
    (pss_cons (ps_if (pt_cmpR op_notN (pv 2) pe_non (nomark _))
      (pss_one (ps_raise rfl (takes_of rfl rfl rfl rfl) (pmk_BadRun (k := 0) Z (hr.mono (by decide)) (pa_cons (pv 2) pa_nil))))
      pss_nil)
    (pss_cons (ps_if (pt_cmpR op_gt (pe_op op_add (pe_callB call_lenT (by rfl) Z.f_len bt_len (pa_cons (pe_ix ix_D (pe_fld (pv 0) rfl) pe_int (fun _ _ => rfl)) pa_nil)) (pe_callB call_lenT (by rfl) Z.f_len bt_len (pa_cons (pv 1) pa_nil))) (pe_glob (v := .int 1000) (by rfl) c_MOST_DONE ⟨_, rfl⟩) (nomark _))
      (pss_one (ps_raise rfl (takes_of rfl rfl rfl rfl) (pmk_TooGreat (k := 0) Z (hr.mono (by decide)) (pa_cons (pe_glob (v := .int 1000) (by rfl) c_MOST_DONE ⟨_, rfl⟩) pa_nil))))
      pss_nil)
    (pss_cons (ps_fld (pv 0) (pe_op op_catD (pe_fld (pv 0) rfl) (pe_tupD (pa_cons (pe_fld (pv 0) rfl) pa_nil))) rfl)
    (pss_cons (ps_fld (pv 0) (pe_tupD (pa_cons (pe_op op_catD (pe_ix ix_D (pe_fld (pv 0) rfl) pe_int (fun _ _ => rfl)) (pv 1)) (pa_cons (pv 4) (pa_cons (pe_op op_catD (pe_ix ix_D (pe_fld (pv 0) rfl) pe_int (fun _ _ => rfl)) (pe_callTy call_tupleL (by rfl) Z.f_tuple bt_tuple (pa_cons (pe_slice sl_list (pv 3) (po_some pe_int) po_none) pa_nil))) pa_nil)))) rfl)
    (pss_one (ps_fld (pv 0) (pe_tupD pa_nil) rfl))))))), ?_⟩
  obtain ⟨a, p, v, rs, rfl, ⟨dx, vw, vr, vn, vp, vc, ha, hw, hr0, hn, hp, hc⟩, ok, hv, few, q1, q2, q3⟩ := h
  refine ⟨_, rfl, a, _, dx, _, _, rfl, ha, Z.clsP, Z.no_own_world, rfl, ?_⟩
  refine ⟨_, rfl, a, _, dx, _, _, rfl, ha, Z.clsP, Z.no_own_rule, rfl, ?_⟩
  refine ⟨_, rfl, a, _, dx, _, _, rfl, ha, Z.clsP, Z.no_now, rfl, ?_⟩
  refine ⟨_, _, _, hn, rfl, rfl, fun u hu => ?_⟩
  refine ⟨_, rfl, vw, vr, u, v, p.w, p.r, p.now.sd, rs, rfl, hw, hr0, ok.r, hu, ok.now.sd, hv, few, fun g l v2 H1 k1 e1 e2 e3 => ?_⟩
  clear hu
  refine ⟨g, _, rfl, SqT.of e1, rfl, _, _, rfl, _, _, rfl, _, _, rfl, rfl, ?_⟩
  refine ⟨_, rfl, rfl, _, rfl, ?_⟩
  have eg : goneP p.w p.r 0 p.now.sd [p.now.sd.df] rs = p.gone rs := rfl
  rw [eg] at e1 e2 e3 ⊢
  cases hg : (p.gone rs).1 with
  | some n =>
    refine ifT (by simp [natO, optV]) ?_
    exact ⟨_, rfl, _, rfl, fun d hd => (q1 n hg).at_ k1 hd (.int n)⟩
  | none =>
    refine ifN (by simp [natO, optV]) ?_
    have hn1 := k1.dt hn
    have ha1 := k1 _ _ ha
    refine ⟨_, rfl, a, _, dx, _, _, rfl, ha1, Z.clsP, Z.no_now, rfl, ?_⟩
    refine ⟨_, _, _, hn1, rfl, rfl, fun u hu => ?_⟩
    refine ⟨u, _, rfl, hu, ?_⟩
    clear hu
    refine ⟨_, rfl, v, _, rfl, k1.dt hv, _, _, rfl, rfl, _, _, rfl, rfl, _, rfl, ifC (fun c => ?_) fun c => ?_⟩
    · have c' : p.now.rs.length + rs.length > 1000 := by
        have := of_decide_eq_true c
        simp only [List.length_map] at this
        omega
      exact ⟨_, rfl, fun d hd => (q2 hg c').at_ k1 hd (.int 1000)⟩
    · have c' : p.now.rs.length + rs.length ≤ 1000 := by
        have h1 : ¬ _ := fun h => c (decide_eq_true h)
        simp only [List.length_map] at h1
        omega
      have sz : p.past.length ≤ 1000 := by have := ok.few; omega
      refine ⟨_, rfl, a, _, dx, _, _, rfl, ha1, Z.clsP, Z.no_past, rfl, ?_⟩
      refine ⟨_, rfl, a, _, dx, _, _, rfl, ha1, Z.clsP, Z.no_now, rfl, ?_⟩
      refine ⟨[p.now.d], .cons hn1 .nil, sm 1, fun u2 H2 k2 hu2 => ?_⟩
      have k12 := k1.trans k2
      refine ⟨_, _, k12.dt hp, hu2, ?_, fun u3 H3 k3 hu3 => ?_⟩
      · rw [List.length_map]
        exact Nat.le_trans (by simp only [List.length_cons, List.length_nil]; omega : _ ≤ 1001) (sm 1001)
      have k13 := k12.trans k3
      have ha3 := k13 _ _ ha
      refine ⟨_, rfl, a, _, dx, _, rfl, ha3, Z.clsP, Z.no_past, (by show (6 : Nat) < 1000; decide), ?_⟩
      have K4 : Kx K [a] H (upd H3 a (.ins (ga K "Pair") dx (pfs vw vr p.b vn u3 vc))) := Kx.put (.ext k13) List.mem_cons_self ha3
      have P3 : Kx K [a] H1 (upd H3 a (.ins (ga K "Pair") dx (pfs vw vr p.b vn u3 vc))) := Kx.put (.ext (k2.trans k3)) List.mem_cons_self ha3
      have hu3 : Dt K (upd H3 a (.ins (ga K "Pair") dx (pfs vw vr p.b vn u3 vc))) u3 _ := hu3.put ha3
      have ha4 : (upd H3 a (.ins (ga K "Pair") dx (pfs vw vr p.b vn u3 vc))) a = some (.ins (ga K "Pair") dx (pfs vw vr p.b vn u3 vc)) := upd_same
      have hl4 : (upd H3 a (.ins (ga K "Pair") dx (pfs vw vr p.b vn u3 vc))) l = some (.lst ((p.gone rs).2.1.map V.int)) := by
        rw [upd_ne (ne_of e2 (k1 _ _ ha) (by intro z; cases z))]
        exact (k2.trans k3) _ _ e2
      generalize hH4 : upd H3 a (.ins (ga K "Pair") dx (pfs vw vr p.b vn u3 vc)) = H4 at K4 P3 hu3 ha4 hl4
      have hH4' : upd H3 a (.ins (ga K "Pair") dx (putF "past" u3 (pfs vw vr p.b vn vp vc))) = H4 := hH4
      rw [hH4']
      refine ⟨_, rfl, a, _, dx, _, _, rfl, ha4, Z.clsP, Z.no_now, rfl, ?_⟩
      refine ⟨_, _, _, K4.dt hn, rfl, rfl, fun u hu => ?_⟩
      refine ⟨_, rfl, _, _, hu, K4.dt hv, ?_, fun u5 H5 k5 hu5 => ?_⟩
      · rw [List.length_map, List.length_map]
        exact Nat.le_trans c' (sm 1000)
      clear hu
      refine ⟨_, rfl, ?_⟩
      have ha5 := k5 _ _ ha4
      refine ⟨_, rfl, a, _, dx, _, _, rfl, ha5, Z.clsP, Z.no_now, rfl, ?_⟩
      refine ⟨_, _, _, k5.dt (K4.dt hn), rfl, rfl, fun u hu => ?_⟩
      refine ⟨_, rfl, 1, rfl, l, _, rfl, SqL.of (k5 _ _ hl4), fun p6 hp6 => ?_⟩
      have k6 : Ext H5 (upd H5 p6 (.lst (cutV ((p.gone rs).2.1.map V.int) (some 1) none))) := Ext.new hp6
      have ec : cutV ((p.gone rs).2.1.map V.int) (some 1) none = ((p.gone rs).2.1.drop 1).map V.int := by
        rw [List.map_drop]
        exact cutD_from1 _
      refine ⟨p6, _, ((p.gone rs).2.1.drop 1).map PyData.int, rfl, SqL.of upd_same, by rw [ec]; exact DtAll.ofInts _, fun u7 H7 k7 hu7 => ?_⟩
      have k67 := k6.trans k7
      refine ⟨_, _, k67.dt hu, hu7, ?_, fun u8 H8 k8 hu8 => ?_⟩
      · have h1 := ok.now.dl
        have h2 := goneP_len (x := p.w) (r := p.r) rs 0 p.now.sd [p.now.sd.df]
        have h3 := ok.now.few
        rw [eg] at h2
        simp only [List.length_cons, List.length_nil] at h2
        rw [List.length_map, List.length_map, List.length_drop]
        exact Nat.le_trans (by omega : _ ≤ 5000) (sm 5000)
      clear hu
      have k68 := k67.trans k8
      have hst : Dt K H8 v2 (p.gone rs).2.2.d := k68.dt (k5.dt (P3.dt e3))
      refine ⟨[.tuple ((p.now.rs.map Rd.d) ++ rs.map Rd.d), (p.gone rs).2.2.d, .tuple (p.now.df.map .int ++ ((p.gone rs).2.1.drop 1).map PyData.int)], .cons (k68.dt hu5) (.cons hst (.cons hu8 .nil)), sm 3, fun u9 H9 k9 hu9 => ?_⟩
      have k59 := k5.trans (k68.trans k9)
      have ha9 := k59 _ _ ha4
      refine ⟨_, rfl, a, _, dx, _, rfl, ha9, Z.clsP, Z.no_now, (by show (6 : Nat) < 1000; decide), ?_⟩
      refine ⟨[], .nil, sm 0, fun u10 H10 k10 hu10 => ?_⟩
      have ha10 := k10 a _ upd_same
      refine ⟨_, rfl, a, _, dx, _, rfl, ha10, Z.clsP, Z.no_coming, (by show (6 : Nat) < 1000; decide), ?_⟩
      have KF : Kx K [a] H4 (upd H10 a (.ins (ga K "Pair") dx (pfs vw vr p.b u9 u3 u10))) := Kx.put ((Kx.put (.ext k59) List.mem_cons_self ha9).trans (.ext k10)) List.mem_cons_self ha10
      refine q3 hg c' _ (K4.trans KF) ⟨dx, vw, vr, u9, u3, u10, upd_same, KF.dt (K4.dt hw), KF.dt (K4.dt hr0), ?_, ?_, hu10.put ha10⟩
      · have := (k10.dt (hu9.put (fs' := putF "now" u9 (pfs vw vr p.b vn u3 vc)) ha9)).put (fs' := pfs vw vr p.b u9 u3 u10) ha10
        simp only [Sn.d, Ps.did, List.map_append]
        exact this
      · have := KF.dt hu3
        simp only [Ps.did, List.map_append]
        exact this
end
end K21
/-! K21N: the properties, undo, redo, copy, trial, blocks. -/
namespace K21
open PySem PySem.Spec PyProof.Rows L2 LamX He
/-- a property as its readers know it -/
structure Pcal (P : Program) (w : World) (K : PySem.W.Frag) (mg : Str → Option Value) (base : Heap) (k : Nat) (C : Addr) (f : Str) (sp : Sp) : Prop where
  ex : ∃ q g fd, PropOf K C f q g ∧ FnOk P w K mg base CX0 k g fd ["self"] sp ∧ Binds K fd ["self"] []
section
variable {X : Cx} {j k : Nat} {C : Addr} {f : Str} {sp : Sp} {E : XK} {e : Expr} {ta : TE} {pos : Pos}
theorem pe_pcal (c : Pcal X.prog X.w X.K X.mg X.base j C f sp) (cl : Cls X.K C) (he : PE X e ta) (hr : Room k X.A) (hj : j + 1 ≤ k := by decide)
    (hab : attributeBase e f X.env (eval e X.env) = eval e X.env := by rfl) : PE X (.Attribute e f pos) (tProp C sp [] E ta) := by
  obtain ⟨q, g, fd, hp, F, hb⟩ := c.ex
  exact pe_prop he cl hp F (hr.mono hj) hb .nil pass0 hab
end
def spProp (K : PySem.W.Frag) (g : Ps → PyData) : Sp := fun vs H Q _ => ∃ (a : Addr) (p : Ps), vs = [.ref a] ∧ PairAt K H a p ∧ p.ok ∧ ∀ v H', Ext H H' → Dt K H' v (g p) → Q v H'
section
variable {P : Program} {w : World} {K : PySem.W.Frag} {mg : Str → Option Value} {base : Heap}
theorem ok_world (Z : Tx K mg) : Pcal P w K mg base 1 (ga K "Pair") "world" (spProp K fun p => p.w.d) := by
  obtain ⟨fd, F⟩ := Z.fn_Pair_world
  refine ⟨_, _, fd, Z.prop (by simp), F.ok sc_Pair_world (by intro vs H Q E h; repeat (first | (obtain ⟨rfl, _⟩ := h; rfl) | (obtain ⟨_, h⟩ := h))) (fun cdv A outer s H vs Q E hr h => ?_), F.bindsN (fun _ _ _ _ _ _ us hl => match us, hl with | [_], _ => rfl)⟩
  refine ⟨_, PSs.nox (pss_one (ps_ret (pe_fld (pv 0) rfl))), ?_⟩
  obtain ⟨a, p, rfl, ⟨dx, vw, vr, vn, vp, vc, ha, hw, hr0, hn, hp, hc⟩, ok, q⟩ := h
  refine ⟨_, rfl, a, _, dx, _, _, rfl, ha, Z.clsP, Z.no_own_world, rfl, ?_⟩
  exact q _ _ Ext.refl' hw
theorem ok_rule (Z : Tx K mg) : Pcal P w K mg base 1 (ga K "Pair") "rule" (spProp K fun p => rD p.r) := by
  obtain ⟨fd, F⟩ := Z.fn_Pair_rule
  refine ⟨_, _, fd, Z.prop (by simp), F.ok sc_Pair_rule (by intro vs H Q E h; repeat (first | (obtain ⟨rfl, _⟩ := h; rfl) | (obtain ⟨_, h⟩ := h))) (fun cdv A outer s H vs Q E hr h => ?_), F.bindsN (fun _ _ _ _ _ _ us hl => match us, hl with | [_], _ => rfl)⟩
  refine ⟨_, PSs.nox (pss_one (ps_ret (pe_fld (pv 0) rfl))), ?_⟩
  obtain ⟨a, p, rfl, ⟨dx, vw, vr, vn, vp, vc, ha, hw, hr0, hn, hp, hc⟩, ok, q⟩ := h
  refine ⟨_, rfl, a, _, dx, _, _, rfl, ha, Z.clsP, Z.no_own_rule, rfl, ?_⟩
  exact q _ _ Ext.refl' hr0
theorem ok_stand (Z : Tx K mg) : Pcal P w K mg base 1 (ga K "Pair") "stand" (spProp K fun p => p.now.sd.d) := by
  obtain ⟨fd, F⟩ := Z.fn_Pair_stand
  refine ⟨_, _, fd, Z.prop (by simp), F.ok sc_Pair_stand (by intro vs H Q E h; repeat (first | (obtain ⟨rfl, _⟩ := h; rfl) | (obtain ⟨_, h⟩ := h))) (fun cdv A outer s H vs Q E hr h => ?_), F.bindsN (fun _ _ _ _ _ _ us hl => match us, hl with | [_], _ => rfl)⟩
  refine ⟨_, PSs.nox (pss_one (ps_ret (pe_ix ix_D (pe_fld (pv 0) rfl) pe_int (fun _ _ => rfl)))), ?_⟩
  obtain ⟨a, p, rfl, ⟨dx, vw, vr, vn, vp, vc, ha, hw, hr0, hn, hp, hc⟩, ok, q⟩ := h
  refine ⟨_, rfl, a, _, dx, _, _, rfl, ha, Z.clsP, Z.no_now, rfl, ?_⟩
  exact ⟨_, _, _, hn, rfl, rfl, fun u hu => q _ _ Ext.refl' hu⟩
theorem ok_rounds (Z : Tx K mg) : Pcal P w K mg base 1 (ga K "Pair") "rounds" (spProp K fun p => .tuple (p.now.rs.map Rd.d)) := by
  obtain ⟨fd, F⟩ := Z.fn_Pair_rounds
  refine ⟨_, _, fd, Z.prop (by simp), F.ok sc_Pair_rounds (by intro vs H Q E h; repeat (first | (obtain ⟨rfl, _⟩ := h; rfl) | (obtain ⟨_, h⟩ := h))) (fun cdv A outer s H vs Q E hr h => ?_), F.bindsN (fun _ _ _ _ _ _ us hl => match us, hl with | [_], _ => rfl)⟩
  refine ⟨_, PSs.nox (pss_one (ps_ret (pe_ix ix_D (pe_fld (pv 0) rfl) pe_int (fun _ _ => rfl)))), ?_⟩
  obtain ⟨a, p, rfl, ⟨dx, vw, vr, vn, vp, vc, ha, hw, hr0, hn, hp, hc⟩, ok, q⟩ := h
  refine ⟨_, rfl, a, _, dx, _, _, rfl, ha, Z.clsP, Z.no_now, rfl, ?_⟩
  exact ⟨_, _, _, hn, rfl, rfl, fun u hu => q _ _ Ext.refl' hu⟩
def Sn.far (s : Sn) : PyData := .tuple [.int (minL s.df), .int (maxL s.df)]
theorem ok_farthest (Z : Tx K mg) : Pcal P w K mg base 1 (ga K "Pair") "farthest" (spProp K fun p => p.now.far) := by
  obtain ⟨fd, F⟩ := Z.fn_Pair_farthest
  refine ⟨_, _, fd, Z.prop (by simp), F.ok sc_Pair_farthest (by intro vs H Q E h; repeat (first | (obtain ⟨rfl, _⟩ := h; rfl) | (obtain ⟨_, h⟩ := h))) (fun cdv A outer s H vs Q E hr h => ?_), F.bindsN (fun _ _ _ _ _ _ us hl => match us, hl with | [_], _ => rfl)⟩
  refine ⟨_, PSs.nox (pss_one (ps_ret (pe_tupD (pa_cons (pe_callB (cr_minT rfl) (by rfl) Z.f_min bt_min (pa_cons (pe_ix ix_D (pe_fld (pv 0) rfl) pe_int (fun _ _ => rfl)) pa_nil)) (pa_cons (pe_callB (cr_maxT rfl) (by rfl) Z.f_max bt_max (pa_cons (pe_ix ix_D (pe_fld (pv 0) rfl) pe_int (fun _ _ => rfl)) pa_nil)) pa_nil))))), ?_⟩
  obtain ⟨a, p, rfl, ⟨dx, vw, vr, vn, vp, vc, ha, hw, hr0, hn, hp, hc⟩, ok, q⟩ := h
  refine ⟨_, rfl, a, _, dx, _, _, rfl, ha, Z.clsP, Z.no_now, rfl, ?_⟩
  refine ⟨_, _, _, hn, rfl, rfl, fun u hu => ⟨u, p.now.df, rfl, hu, ok.now.df, ?_⟩⟩
  refine ⟨_, rfl, a, _, dx, _, _, rfl, ha, Z.clsP, Z.no_now, rfl, ?_⟩
  refine ⟨_, _, _, hn, rfl, rfl, fun u hu => ⟨u, p.now.df, rfl, hu, ok.now.df, ?_⟩⟩
  exact ⟨[.int (minL p.now.df), .int (maxL p.now.df)], .cons (.int _) (.cons (.int _) .nil), sm 2, fun u2 H2 k2 hu2 => q _ _ k2 hu2⟩
/-! ### undo, redo -/
theorem cutD_to {α : Type} (xs : List α) (k : Nat) : cutD xs none (some (k : Int)) = xs.take k := by
  unfold cutD
  rw [HT.sIx_none, HT.sIx_nat, List.drop_zero, Nat.sub_zero]
  rcases Nat.le_total k xs.length with h | h
  · rw [Nat.min_eq_left h]
  · rw [Nat.min_eq_right h, List.take_length, List.take_of_length_le h]
def Ps.undone (p : Ps) (init : List Sn) (l : Sn) : Ps := { p with past := init, now := l, coming := p.coming ++ [p.now] }
def Ps.redone (p : Ps) (init : List Sn) (l : Sn) : Ps := { p with past := p.past ++ [p.now], now := l, coming := init }
theorem Ps.ok.undone {p : Ps} (h : p.ok) {init : List Sn} {l : Sn} (e : p.past = init ++ [l]) : (p.undone init l).ok := by
  have hp := h.past
  have hf := h.few
  rw [e] at hp hf
  refine ⟨h.w, h.r, h.b, hp l (by simp), fun s hs => hp s (by simp [show s ∈ init from hs]), fun s hs => ?_, ?_⟩
  · simp only [Ps.undone, List.mem_append, List.mem_singleton] at hs
    rcases hs with hs | rfl
    · exact h.coming s hs
    · exact h.now
  · simp only [Ps.undone, List.length_append, List.length_cons, List.length_nil] at hf ⊢
    omega
theorem Ps.ok.redone {p : Ps} (h : p.ok) {init : List Sn} {l : Sn} (e : p.coming = init ++ [l]) : (p.redone init l).ok := by
  have hp := h.coming
  have hf := h.few
  rw [e] at hp hf
  refine ⟨h.w, h.r, h.b, hp l (by simp), fun s hs => ?_, fun s hs => hp s (by simp [show s ∈ init from hs]), ?_⟩
  · simp only [Ps.redone, List.mem_append, List.mem_singleton] at hs
    rcases hs with hs | rfl
    · exact h.past s hs
    · exact h.now
  · simp only [Ps.redone, List.length_append, List.length_cons, List.length_nil] at hf ⊢
    omega
def spUndo (K : PySem.W.Frag) : Sp := fun vs H Q E => ∃ (a : Addr) (p : Ps) (m : Int), vs = [.ref a, .int m] ∧ PairAt K H a p ∧ p.ok ∧ 1 ≤ m ∧ (m > p.past.length → Err K E "NothingLeft" "many" (.int m) H) ∧
  (m ≤ p.past.length → m = 1 ∧ ∀ init l H', p.past = init ++ [l] → Kx K [a] H H' → PairAt K H' a (p.undone init l) → Q .non H')
theorem fnu (Z : Tx K mg) : FnOk P w K mg base (L2.CX P w) 5 (ma K (ga K "Pair") "undo") (Classical.choose Z.fn_Pair_undo) p_Pair_undo (spUndo K) := by
  have F := Classical.choose_spec Z.fn_Pair_undo
  refine F.ok sc_Pair_undo (by intro vs H Q E h; repeat (first | (obtain ⟨rfl, _⟩ := h; rfl) | (obtain ⟨_, h⟩ := h))) (fun cdv A outer s H vs Q E hr h => ?_)
  have c_need_many := ok_need_many (P := P) (w := w) (base := base) Z
  refine ⟨_, (pss_cons (ps_expr (pe_cal c_need_many hr (passes_call (takes_of rfl rfl rfl rfl) (fun _ _ _ _ h => h)) (pa_cons (pv 1) (pa_cons (pe_fld (pv 0) rfl) pa_nil))))
    (pss_cons (ps_set (i := 2) sc_Pair_undo.nd rfl (Or.inl rfl) (pe_op op_sub (pe_callB call_lenT (by rfl) Z.f_len bt_len (pa_cons (pe_fld (pv 0) rfl) pa_nil)) (pv 1)))
    (pss_cons (ps_fld (pv 0) (pe_op op_catD (pe_op op_catD (pe_fld (pv 0) rfl) (pe_tupD (pa_cons (pe_fld (pv 0) rfl) pa_nil))) (pe_back (pe_fld (pv 0) rfl) (pv 2))) rfl)
    (pss_cons (ps_fld (pv 0) (pe_ix ix_D (pe_fld (pv 0) rfl) (pv 2) (fun _ _ => rfl)) rfl)
    (pss_one (ps_fld (pv 0) (pe_slice sl_D (pe_fld (pv 0) rfl) po_none (po_some (pv 2))) rfl)))))), ?_⟩
  obtain ⟨a, p, m, rfl, ⟨dx, vw, vr, vn, vp, vc, ha, hw, hr0, hn, hp, hc⟩, ok, hm, q1, q2⟩ := h
  refine ⟨_, rfl, ?_⟩
  refine ⟨_, rfl, a, _, dx, _, _, rfl, ha, Z.clsP, Z.no_past, rfl, ?_⟩
  refine ⟨m, vp, _, rfl, hm, hp, fun c => q1 (by rw [List.length_map] at c; exact c), fun c => ?_⟩
  rw [List.length_map] at c
  obtain ⟨rfl, q3⟩ := q2 c
  obtain ⟨init, l, ei⟩ : ∃ init l, p.past = init ++ [l] := ⟨p.past.dropLast, p.past.getLast (by intro z; rw [z] at c; simp at c), (List.dropLast_concat_getLast _).symm⟩
  have el : ((p.past.map Sn.d).length : Int) - 1 = (init.length : Int) := by
    rw [ei]
    simp
  have e0 : p.past.map Sn.d = init.map Sn.d ++ [l.d] := by
    rw [ei, List.map_append]
    rfl
  refine ⟨_, rfl, a, _, dx, _, _, rfl, ha, Z.clsP, Z.no_past, rfl, ?_⟩
  refine ⟨vp, _, rfl, hp, _, rfl, _, _, rfl, rfl, ?_⟩
  refine ⟨_, rfl, a, _, dx, _, _, rfl, ha, Z.clsP, Z.no_coming, rfl, ?_⟩
  refine ⟨_, rfl, a, _, dx, _, _, rfl, ha, Z.clsP, Z.no_now, rfl, ?_⟩
  refine ⟨[p.now.d], .cons hn .nil, sm 1, fun u1 H1 k1 hu1 => ?_⟩
  have hf := ok.few
  refine ⟨_, _, k1.dt hc, hu1, ?_, fun u2 H2 k2 hu2 => ?_⟩
  · rw [List.length_map]
    exact Nat.le_trans (by simp only [List.length_cons, List.length_nil]; omega : _ ≤ 1001) (sm 1001)
  have k12 := k1.trans k2
  have ha2 := k12 _ _ ha
  refine ⟨_, rfl, a, _, dx, _, _, rfl, ha2, Z.clsP, Z.no_past, rfl, ?_⟩
  refine ⟨_, rfl, _, k12.dt hp, by rw [List.length_map]; omega, rfl, fun u3 H3 k3 hu3 => ?_⟩
  refine ⟨_, _, k3.dt hu2, hu3, ?_, fun u4 H4 k4 hu4 => ?_⟩
  · rw [List.length_append, List.length_map]
    exact Nat.le_trans (by simp only [List.length_cons, List.length_nil]; omega : _ ≤ 1001) (sm 1001)
  have k14 := k12.trans (k3.trans k4)
  have ha4 := k14 _ _ ha
  refine ⟨_, rfl, a, _, dx, _, rfl, ha4, Z.clsP, Z.no_coming, (by show (6 : Nat) < 1000; decide), ?_⟩
  have K5 : Kx K [a] H (upd H4 a (.ins (ga K "Pair") dx (pfs vw vr p.b vn vp u4))) := Kx.put (.ext k14) List.mem_cons_self ha4
  have hu5 : Dt K (upd H4 a (.ins (ga K "Pair") dx (pfs vw vr p.b vn vp u4))) u4 _ := hu4.put ha4
  have ha5 : (upd H4 a (.ins (ga K "Pair") dx (pfs vw vr p.b vn vp u4))) a = some (.ins (ga K "Pair") dx (pfs vw vr p.b vn vp u4)) := upd_same
  have hH : upd H4 a (.ins (ga K "Pair") dx (putF "coming" u4 (pfs vw vr p.b vn vp vc))) = upd H4 a (.ins (ga K "Pair") dx (pfs vw vr p.b vn vp u4)) := rfl
  rw [hH]
  generalize upd H4 a (.ins (ga K "Pair") dx (pfs vw vr p.b vn vp u4)) = H5 at K5 hu5 ha5
  refine ⟨_, rfl, a, _, dx, _, _, rfl, ha5, Z.clsP, Z.no_past, rfl, ?_⟩
  have hp5 := K5.dt hp
  refine ⟨_, rfl, _, ((p.past.map Sn.d).length : Int) - 1, l.d, hp5, rfl, ?_, fun u6 hu6 => ?_⟩
  · rw [el, e0]
    have g : (init.map Sn.d ++ [l.d])[init.length]? = some l.d := by
      have e1 : init.length = (init.map Sn.d).length := by rw [List.length_map]
      rw [e1, List.getElem?_concat_length]
    exact atI_nat g
  refine ⟨_, rfl, a, _, dx, _, rfl, ha5, Z.clsP, Z.no_now, (by show (6 : Nat) < 1000; decide), ?_⟩
  have K6 : Kx K [a] H5 (upd H5 a (.ins (ga K "Pair") dx (pfs vw vr p.b u6 vp u4))) := Kx.put .refl List.mem_cons_self ha5
  have hu6 : Dt K (upd H5 a (.ins (ga K "Pair") dx (pfs vw vr p.b u6 vp u4))) u6 _ := hu6.put ha5
  have ha6 : (upd H5 a (.ins (ga K "Pair") dx (pfs vw vr p.b u6 vp u4))) a = some (.ins (ga K "Pair") dx (pfs vw vr p.b u6 vp u4)) := upd_same
  have hH : upd H5 a (.ins (ga K "Pair") dx (putF "now" u6 (pfs vw vr p.b vn vp u4))) = upd H5 a (.ins (ga K "Pair") dx (pfs vw vr p.b u6 vp u4)) := rfl
  rw [hH]
  generalize upd H5 a (.ins (ga K "Pair") dx (pfs vw vr p.b u6 vp u4)) = H6 at K6 hu6 ha6
  refine ⟨_, rfl, a, _, dx, _, _, rfl, ha6, Z.clsP, Z.no_past, rfl, ?_⟩
  refine ⟨_, rfl, ((p.past.map Sn.d).length : Int) - 1, rfl, _, K6.dt hp5, fun u7 H7 k7 hu7 => ?_⟩
  rw [el, cutD_to, e0, List.take_left' (by rw [List.length_map])] at hu7
  have ha7 := k7 _ _ ha6
  refine ⟨_, rfl, a, _, dx, _, rfl, ha7, Z.clsP, Z.no_past, (by show (6 : Nat) < 1000; decide), ?_⟩
  have K8 : Kx K [a] H5 (upd H7 a (.ins (ga K "Pair") dx (pfs vw vr p.b u6 u7 u4))) := Kx.put (K6.trans (.ext k7)) List.mem_cons_self ha7
  refine q3 init l _ ei (K5.trans K8) ⟨dx, vw, vr, u6, u7, u4, upd_same, K8.dt (K5.dt hw), K8.dt (K5.dt hr0), (k7.dt hu6).put ha7, hu7.put ha7, ?_⟩
  have := K8.dt hu5
  simp only [Ps.undone, List.map_append]
  rw [List.append_nil] at this
  exact this
def spRedo (K : PySem.W.Frag) : Sp := fun vs H Q E => ∃ (a : Addr) (p : Ps) (m : Int), vs = [.ref a, .int m] ∧ PairAt K H a p ∧ p.ok ∧ 1 ≤ m ∧ (m > p.coming.length → Err K E "NothingLeft" "many" (.int m) H) ∧
  (m ≤ p.coming.length → m = 1 ∧ ∀ init l H', p.coming = init ++ [l] → Kx K [a] H H' → PairAt K H' a (p.redone init l) → Q .non H')
theorem fnr (Z : Tx K mg) : FnOk P w K mg base (L2.CX P w) 5 (ma K (ga K "Pair") "redo") (Classical.choose Z.fn_Pair_redo) p_Pair_redo (spRedo K) := by
  have F := Classical.choose_spec Z.fn_Pair_redo
  refine F.ok sc_Pair_redo (by intro vs H Q E h; repeat (first | (obtain ⟨rfl, _⟩ := h; rfl) | (obtain ⟨_, h⟩ := h))) (fun cdv A outer s H vs Q E hr h => ?_)
  have c_need_many := ok_need_many (P := P) (w := w) (base := base) Z
  refine ⟨_, (pss_cons (ps_expr (pe_cal c_need_many hr (passes_call (takes_of rfl rfl rfl rfl) (fun _ _ _ _ h => h)) (pa_cons (pv 1) (pa_cons (pe_fld (pv 0) rfl) pa_nil))))
    (pss_cons (ps_set (i := 2) sc_Pair_redo.nd rfl (Or.inl rfl) (pe_op op_sub (pe_callB call_lenT (by rfl) Z.f_len bt_len (pa_cons (pe_fld (pv 0) rfl) pa_nil)) (pv 1)))
    (pss_cons (ps_fld (pv 0) (pe_op op_catD (pe_op op_catD (pe_fld (pv 0) rfl) (pe_tupD (pa_cons (pe_fld (pv 0) rfl) pa_nil))) (pe_back (pe_fld (pv 0) rfl) (pv 2))) rfl)
    (pss_cons (ps_fld (pv 0) (pe_ix ix_D (pe_fld (pv 0) rfl) (pv 2) (fun _ _ => rfl)) rfl)
    (pss_one (ps_fld (pv 0) (pe_slice sl_D (pe_fld (pv 0) rfl) po_none (po_some (pv 2))) rfl)))))), ?_⟩
  obtain ⟨a, p, m, rfl, ⟨dx, vw, vr, vn, vp, vc, ha, hw, hr0, hn, hp, hc⟩, ok, hm, q1, q2⟩ := h
  refine ⟨_, rfl, ?_⟩
  refine ⟨_, rfl, a, _, dx, _, _, rfl, ha, Z.clsP, Z.no_coming, rfl, ?_⟩
  refine ⟨m, vc, _, rfl, hm, hc, fun c => q1 (by rw [List.length_map] at c; exact c), fun c => ?_⟩
  rw [List.length_map] at c
  obtain ⟨rfl, q3⟩ := q2 c
  obtain ⟨init, l, ei⟩ : ∃ init l, p.coming = init ++ [l] := ⟨p.coming.dropLast, p.coming.getLast (by intro z; rw [z] at c; simp at c), (List.dropLast_concat_getLast _).symm⟩
  have el : ((p.coming.map Sn.d).length : Int) - 1 = (init.length : Int) := by
    rw [ei]
    simp
  have e0 : p.coming.map Sn.d = init.map Sn.d ++ [l.d] := by
    rw [ei, List.map_append]
    rfl
  refine ⟨_, rfl, a, _, dx, _, _, rfl, ha, Z.clsP, Z.no_coming, rfl, ?_⟩
  refine ⟨vc, _, rfl, hc, _, rfl, _, _, rfl, rfl, ?_⟩
  refine ⟨_, rfl, a, _, dx, _, _, rfl, ha, Z.clsP, Z.no_past, rfl, ?_⟩
  refine ⟨_, rfl, a, _, dx, _, _, rfl, ha, Z.clsP, Z.no_now, rfl, ?_⟩
  refine ⟨[p.now.d], .cons hn .nil, sm 1, fun u1 H1 k1 hu1 => ?_⟩
  have hf := ok.few
  refine ⟨_, _, k1.dt hp, hu1, ?_, fun u2 H2 k2 hu2 => ?_⟩
  · rw [List.length_map]
    exact Nat.le_trans (by simp only [List.length_cons, List.length_nil]; omega : _ ≤ 1001) (sm 1001)
  have k12 := k1.trans k2
  have ha2 := k12 _ _ ha
  refine ⟨_, rfl, a, _, dx, _, _, rfl, ha2, Z.clsP, Z.no_coming, rfl, ?_⟩
  refine ⟨_, rfl, _, k12.dt hc, by rw [List.length_map]; omega, rfl, fun u3 H3 k3 hu3 => ?_⟩
  refine ⟨_, _, k3.dt hu2, hu3, ?_, fun u4 H4 k4 hu4 => ?_⟩
  · rw [List.length_append, List.length_map]
    exact Nat.le_trans (by simp only [List.length_cons, List.length_nil]; omega : _ ≤ 1001) (sm 1001)
  have k14 := k12.trans (k3.trans k4)
  have ha4 := k14 _ _ ha
  refine ⟨_, rfl, a, _, dx, _, rfl, ha4, Z.clsP, Z.no_past, (by show (6 : Nat) < 1000; decide), ?_⟩
  have K5 : Kx K [a] H (upd H4 a (.ins (ga K "Pair") dx (pfs vw vr p.b vn u4 vc))) := Kx.put (.ext k14) List.mem_cons_self ha4
  have hu5 : Dt K (upd H4 a (.ins (ga K "Pair") dx (pfs vw vr p.b vn u4 vc))) u4 _ := hu4.put ha4
  have ha5 : (upd H4 a (.ins (ga K "Pair") dx (pfs vw vr p.b vn u4 vc))) a = some (.ins (ga K "Pair") dx (pfs vw vr p.b vn u4 vc)) := upd_same
  have hH : upd H4 a (.ins (ga K "Pair") dx (putF "past" u4 (pfs vw vr p.b vn vp vc))) = upd H4 a (.ins (ga K "Pair") dx (pfs vw vr p.b vn u4 vc)) := rfl
  rw [hH]
  generalize upd H4 a (.ins (ga K "Pair") dx (pfs vw vr p.b vn u4 vc)) = H5 at K5 hu5 ha5
  refine ⟨_, rfl, a, _, dx, _, _, rfl, ha5, Z.clsP, Z.no_coming, rfl, ?_⟩
  have hc5 := K5.dt hc
  refine ⟨_, rfl, _, ((p.coming.map Sn.d).length : Int) - 1, l.d, hc5, rfl, ?_, fun u6 hu6 => ?_⟩
  · rw [el, e0]
    have g : (init.map Sn.d ++ [l.d])[init.length]? = some l.d := by
      have e1 : init.length = (init.map Sn.d).length := by rw [List.length_map]
      rw [e1, List.getElem?_concat_length]
    exact atI_nat g
  refine ⟨_, rfl, a, _, dx, _, rfl, ha5, Z.clsP, Z.no_now, (by show (6 : Nat) < 1000; decide), ?_⟩
  have K6 : Kx K [a] H5 (upd H5 a (.ins (ga K "Pair") dx (pfs vw vr p.b u6 u4 vc))) := Kx.put .refl List.mem_cons_self ha5
  have hu6 : Dt K (upd H5 a (.ins (ga K "Pair") dx (pfs vw vr p.b u6 u4 vc))) u6 _ := hu6.put ha5
  have ha6 : (upd H5 a (.ins (ga K "Pair") dx (pfs vw vr p.b u6 u4 vc))) a = some (.ins (ga K "Pair") dx (pfs vw vr p.b u6 u4 vc)) := upd_same
  have hH : upd H5 a (.ins (ga K "Pair") dx (putF "now" u6 (pfs vw vr p.b vn u4 vc))) = upd H5 a (.ins (ga K "Pair") dx (pfs vw vr p.b u6 u4 vc)) := rfl
  rw [hH]
  generalize upd H5 a (.ins (ga K "Pair") dx (pfs vw vr p.b u6 u4 vc)) = H6 at K6 hu6 ha6
  refine ⟨_, rfl, a, _, dx, _, _, rfl, ha6, Z.clsP, Z.no_coming, rfl, ?_⟩
  refine ⟨_, rfl, ((p.coming.map Sn.d).length : Int) - 1, rfl, _, K6.dt hc5, fun u7 H7 k7 hu7 => ?_⟩
  rw [el, cutD_to, e0, List.take_left' (by rw [List.length_map])] at hu7
  have ha7 := k7 _ _ ha6
  refine ⟨_, rfl, a, _, dx, _, rfl, ha7, Z.clsP, Z.no_coming, (by show (6 : Nat) < 1000; decide), ?_⟩
  have K8 : Kx K [a] H5 (upd H7 a (.ins (ga K "Pair") dx (pfs vw vr p.b u6 u4 u7))) := Kx.put (K6.trans (.ext k7)) List.mem_cons_self ha7
  refine q3 init l _ ei (K5.trans K8) ⟨dx, vw, vr, u6, u4, u7, upd_same, K8.dt (K5.dt hw), K8.dt (K5.dt hr0), (k7.dt hu6).put ha7, ?_, hu7.put ha7⟩
  have := K8.dt hu5
  simp only [Ps.redone, List.map_append]
  rw [List.append_nil] at this
  exact this
theorem m_undo1 (Z : Tx K mg) : Mcal P w K mg base (L2.CX P w) 5 (ga K "Pair") "undo" p_Pair_undo [.int 1] (spUndo K) := by
  obtain ⟨ds, r, b⟩ := (Classical.choose_spec Z.fn_Pair_undo).binds1 (ps := p_Pair_undo) 1 0 (by simp [d_Pair_undo]) rfl fun T kV doc pm an cdv ct us its hu hi => match us, its, hu, hi with | [_], [_], _, _ => ⟨_, rfl, rfl⟩
  exact ⟨_, _, ds, Z.m_undo, fnu Z, b, r⟩
theorem m_undo (Z : Tx K mg) : Mcal P w K mg base (L2.CX P w) 5 (ga K "Pair") "undo" p_Pair_undo [] (spUndo K) := by
  obtain ⟨ds, r, b⟩ := (Classical.choose_spec Z.fn_Pair_undo).binds1 (ps := p_Pair_undo) 2 1 (by simp [d_Pair_undo]) rfl fun T kV doc pm an cdv ct us its hu hi => match us, its, hu, hi with | [_, _], [_], _, _ => ⟨_, rfl, rfl⟩
  exact ⟨_, _, ds, Z.m_undo, fnu Z, b, r⟩
theorem m_redo1 (Z : Tx K mg) : Mcal P w K mg base (L2.CX P w) 5 (ga K "Pair") "redo" p_Pair_redo [.int 1] (spRedo K) := by
  obtain ⟨ds, r, b⟩ := (Classical.choose_spec Z.fn_Pair_redo).binds1 (ps := p_Pair_redo) 1 0 (by simp [d_Pair_redo]) rfl fun T kV doc pm an cdv ct us its hu hi => match us, its, hu, hi with | [_], [_], _, _ => ⟨_, rfl, rfl⟩
  exact ⟨_, _, ds, Z.m_redo, fnr Z, b, r⟩
/-! ### copy -/
def spCopy (K : PySem.W.Frag) : Sp := fun vs H Q _ => ∃ (a : Addr) (p : Ps), vs = [.ref a] ∧ PairAt K H a p ∧ p.ok ∧ ∀ b H', Ext H H' → H b = none → PairAt K H' b p → Q (.ref b) H'
theorem ok_copy (Z : Tx K mg) : Mcal P w K mg base CX0 9 (ga K "Pair") "copy" p_Pair_copy [] (spCopy K) := by
  obtain ⟨fd, F⟩ := Z.fn_Pair_copy
  obtain ⟨fdI, FI⟩ := Z.fn_Pair_init
  refine ⟨_, fd, [], Z.m_copy, F.ok sc_Pair_copy (by intro vs H Q E h; repeat (first | (obtain ⟨rfl, _⟩ := h; rfl) | (obtain ⟨_, h⟩ := h))) (fun cdv A outer s H vs Q E hr h => ?_), F.bindsN (fun _ _ _ _ _ _ us hl => match us, hl with | [_], _ => rfl), .nil⟩
  have GI := ok_Pair_init (P := P) (w := w) (base := base) Z FI
  have bI : Binds K fdI p_Pair_init [] := FI.bindsN (fun _ _ _ _ _ _ us hl => match us, hl with | [_, _, _, _], _ => rfl)
  refine ⟨_, PSs.nox (pss_cons (ps_set (i := 1) sc_Pair_copy.nd rfl (Or.inl rfl) (pe_make Z.mkP GI hr (by rfl) Z.g_Pair bI .nil pass0 (pa_cons (pe_fld (pv 0) rfl) (pa_cons (pe_fld (pv 0) rfl) (pa_cons (pe_fld (pv 0) rfl) pa_nil)))))
    (pss_cons (ps_asg (pe_tup (pa_cons (pe_fld (pv 0) rfl) (pa_cons (pe_fld (pv 0) rfl) (pa_cons (pe_fld (pv 0) rfl) pa_nil)))) (pg_tup rfl (pgs_cons (pg_fld (pv 1)) (pgs_cons (pg_fld (pv 1)) (pgs_cons (pg_fld (pv 1)) pgs_nil)))))
    (pss_one (ps_ret (pv 1))))), ?_⟩
  obtain ⟨a, p, rfl, ⟨dx, vw, vr, vn, vp, vc, ha, hw, hr0, hn, hp, hc⟩, ok, q⟩ := h
  refine ⟨_, rfl, a, _, dx, _, _, rfl, ha, Z.clsP, Z.no_own_world, rfl, ?_⟩
  refine ⟨_, rfl, a, _, dx, _, _, rfl, ha, Z.clsP, Z.no_own_rule, rfl, ?_⟩
  refine ⟨_, rfl, a, _, dx, _, _, rfl, ha, Z.clsP, Z.no_begin, rfl, ?_⟩
  intro b dxb hb hdb hne
  have e1 : Ext H (upd (upd H dxb (.own b)) b (.ins (ga K "Pair") dxb [])) := (Ext.new hdb).trans (Ext.new (by rw [upd_ne hne.symm]; exact hb))
  refine ⟨b, dxb, vw, vr, p.b, p.w, p.r, rfl, upd_same, e1.dt hw, ok.w, e1.dt hr0, ok.r, ok.b.1, ok.b.2, fun H3 k3 hP => ⟨rfl, ?_⟩⟩
  have e3 : Ext H H3 := k3.since e1 (by intro c hc; rw [List.mem_singleton.mp hc]; exact hb)
  obtain ⟨dy, vw2, vr2, vn2, vp2, vc2, hb3, hw2, hr2, _, _, _⟩ := hP
  have ha3 := e3 _ _ ha
  refine ⟨_, rfl, a, _, dx, _, _, rfl, ha3, Z.clsP, Z.no_now, rfl, ?_⟩
  refine ⟨_, rfl, a, _, dx, _, _, rfl, ha3, Z.clsP, Z.no_past, rfl, ?_⟩
  refine ⟨_, rfl, a, _, dx, _, _, rfl, ha3, Z.clsP, Z.no_coming, rfl, ?_⟩
  refine ⟨sm 3, fun g hg => ?_⟩
  have hb4 : (upd H3 g (.tup [vn, vp, vc])) b = _ := (upd_ne (ne_of_none hb3 hg)).trans hb3
  refine ⟨g, _, rfl, SqT.of upd_same, rfl, _, _, rfl, ?_⟩
  have K4 : Kx K [b] H3 (upd H3 g (.tup [vn, vp, vc])) := .ext (Ext.new hg)
  refine ⟨_, rfl, b, _, dy, _, rfl, hb4, Z.clsP, Z.no_now, (by show (6 : Nat) < 1000; decide), _, _, rfl, ?_⟩
  refine ⟨_, rfl, b, _, dy, _, rfl, upd_same, Z.clsP, Z.no_past, (by show (6 : Nat) < 1000; decide), _, _, rfl, ?_⟩
  refine ⟨_, rfl, b, _, dy, _, rfl, upd_same, Z.clsP, Z.no_coming, (by show (6 : Nat) < 1000; decide), rfl, ?_⟩
  have K5 := Kx.put (fs' := putF "now" vn (pfs vw2 vr2 p.b vn2 vp2 vc2)) K4 List.mem_cons_self hb4
  have K6 := Kx.put (fs' := putF "past" vp (putF "now" vn (pfs vw2 vr2 p.b vn2 vp2 vc2))) K5 List.mem_cons_self upd_same
  have K7 := Kx.put (fs' := putF "coming" vc (putF "past" vp (putF "now" vn (pfs vw2 vr2 p.b vn2 vp2 vc2)))) K6 List.mem_cons_self upd_same
  have e7 := K7.since e3 (by intro c hc; rw [List.mem_singleton.mp hc]; exact hb)
  exact ⟨_, rfl, q b _ e7 hb ⟨dy, vw2, vr2, vn, vp, vc, upd_same, K7.dt hw2, K7.dt hr2, e7.dt hn, e7.dt hp, e7.dt hc⟩⟩
/-! ### blocks -/
def tfl (a : Addr) (vn vp vc : V) : List (Str × V) := [("pair_so", .ref a), ("now_ahead", vn), ("past_ahead", vp), ("coming_ahead", vc)]
theorem ins_ne {H : Hp} {a t C C' dx dy : Addr} {fs gs : List (Str × V)} (ha : H a = some (.ins C dx fs)) (ht : H t = some (.ins C' dy gs)) (d : fs.length ≠ gs.length) : a ≠ t := fun z => by
  subst z
  obtain ⟨_, _, e⟩ := HO.ins.inj (Option.some.inj (ha.symm.trans ht))
  exact d (by rw [e])
/-- the instance at t is a block's object of the pair at a: what it will give back -/
def TrialAt (K : PySem.W.Frag) (H : Hp) (t a : Addr) (n : Sn) (pa co : List Sn) : Prop := ∃ dx vn vp vc, H t = some (.ins (ga K "Trial") dx (tfl a vn vp vc)) ∧ Dt K H vn n.d ∧ Dt K H vp (.tuple (pa.map Sn.d)) ∧ Dt K H vc (.tuple (co.map Sn.d))
theorem TrialAt.ke {M : List Addr} {H H' : Hp} {t a : Addr} {n : Sn} {pa co : List Sn} (k : Ke K M H H') (ht : t ∉ M) (h : TrialAt K H t a n pa co) : TrialAt K H' t a n pa co := by
  obtain ⟨dx, vn, vp, vc, h0, h1, h2, h3⟩ := h
  exact ⟨dx, vn, vp, vc, k.kp _ _ h0 (.inr ⟨ht, rfl⟩), k.dt h1, k.dt h2, k.dt h3⟩
def spTInit (K : PySem.W.Frag) : Sp := fun vs H Q _ => ∃ (t dx a : Addr) (p : Ps), vs = [.ref t, .ref a] ∧ H t = some (.ins (ga K "Trial") dx []) ∧ PairAt K H a p ∧ ∀ H', Kx K [t] H H' → TrialAt K H' t a p.now p.past p.coming → Q .non H'
theorem ok_Trial_init (Z : Tx K mg) {fd : FuncData} (F : FunD K d_Trial_init.name d_Trial_init.qual (defArgs s_Trial_init) (defBody s_Trial_init) (defScope s_Trial_init) (d_Trial_init.dfl.map (Dv.v K)) [] (d_Trial_init.at_ K) fd) :
    FnOk P w K mg base CX0 1 (ma K (ga K "Trial") "__init__") fd p_Trial_init (spTInit K) := by
  refine F.ok sc_Trial_init (by intro vs H Q E h; repeat (first | (obtain ⟨rfl, _⟩ := h; rfl) | (obtain ⟨_, h⟩ := h))) (fun cdv A outer s H vs Q E hr h => ?_)
  refine ⟨_, PSs.nox (pss_cons (ps_fld (pv 0) (pv 1) rfl)
    (pss_cons (ps_fld (pv 0) (pe_fld (pv 1) rfl) rfl)
    (pss_cons (ps_fld (pv 0) (pe_fld (pv 1) rfl) rfl)
    (pss_one (ps_fld (pv 0) (pe_fld (pv 1) rfl) rfl))))), ?_⟩
  obtain ⟨t, dt, a, p, rfl, ht, ⟨dx, vw, vr, vn, vp, vc, ha, hw, hr0, hn, hp, hc⟩, q⟩ := h
  refine ⟨_, rfl, _, rfl, t, _, dt, _, rfl, ht, Z.clsT, Z.no_pair_so, (by show (0 : Nat) < 1000; decide), ?_⟩
  have hne : a ≠ t := ins_ne ha ht (by show (6 : Nat) ≠ 0; decide)
  have K1 := Kx.put (K := K) (M := [t]) (fs' := putF "pair_so" (.ref a) []) .refl List.mem_cons_self ht
  have ha1 := (upd_ne (o := .ins (ga K "Trial") dt (putF "pair_so" (.ref a) [])) hne).trans ha
  refine ⟨_, rfl, a, _, dx, _, _, rfl, ha1, Z.clsP, Z.no_now, rfl, _, rfl, t, _, dt, _, rfl, upd_same, Z.clsT, Z.no_now_ahead, (by show (1 : Nat) < 1000; decide), ?_⟩
  have K2 := Kx.put (fs' := putF "now_ahead" vn (putF "pair_so" (.ref a) [])) K1 List.mem_cons_self upd_same
  have ha2 := (upd_ne (o := .ins (ga K "Trial") dt (putF "now_ahead" vn (putF "pair_so" (.ref a) []))) hne).trans ha1
  refine ⟨_, rfl, a, _, dx, _, _, rfl, ha2, Z.clsP, Z.no_past, rfl, _, rfl, t, _, dt, _, rfl, upd_same, Z.clsT, Z.no_past_ahead, (by show (2 : Nat) < 1000; decide), ?_⟩
  have K3 := Kx.put (fs' := putF "past_ahead" vp (putF "now_ahead" vn (putF "pair_so" (.ref a) []))) K2 List.mem_cons_self upd_same
  have ha3 := (upd_ne (o := .ins (ga K "Trial") dt (putF "past_ahead" vp (putF "now_ahead" vn (putF "pair_so" (.ref a) [])))) hne).trans ha2
  refine ⟨_, rfl, a, _, dx, _, _, rfl, ha3, Z.clsP, Z.no_coming, rfl, _, rfl, t, _, dt, _, rfl, upd_same, Z.clsT, Z.no_coming_ahead, (by show (3 : Nat) < 1000; decide), ?_⟩
  have K4 := Kx.put (fs' := putF "coming_ahead" vc (putF "past_ahead" vp (putF "now_ahead" vn (putF "pair_so" (.ref a) [])))) K3 List.mem_cons_self upd_same
  exact q _ K4 ⟨dt, vn, vp, vc, upd_same, K4.dt hn, K4.dt hp, K4.dt hc⟩
def spTrial (K : PySem.W.Frag) : Sp := fun vs H Q _ => ∃ (a : Addr) (p : Ps), vs = [.ref a] ∧ PairAt K H a p ∧ ∀ t H', Ext H H' → H t = none → TrialAt K H' t a p.now p.past p.coming → Q (.ref t) H'
theorem ok_trial (Z : Tx K mg) : Mcal P w K mg base CX0 3 (ga K "Pair") "trial" p_Pair_trial [] (spTrial K) := by
  obtain ⟨fd, F⟩ := Z.fn_Pair_trial
  obtain ⟨fdI, FI⟩ := Z.fn_Trial_init
  refine ⟨_, fd, [], Z.m_trial, F.ok sc_Pair_trial (by intro vs H Q E h; repeat (first | (obtain ⟨rfl, _⟩ := h; rfl) | (obtain ⟨_, h⟩ := h))) (fun cdv A outer s H vs Q E hr h => ?_), F.bindsN (fun _ _ _ _ _ _ us hl => match us, hl with | [_], _ => rfl), .nil⟩
  have GI := ok_Trial_init (P := P) (w := w) (base := base) Z FI
  have bI : Binds K fdI p_Trial_init [] := FI.bindsN (fun _ _ _ _ _ _ us hl => match us, hl with | [_, _], _ => rfl)
  refine ⟨_, PSs.nox (pss_one (ps_ret (pe_make Z.mkT GI hr (by rfl) Z.g_Trial bI .nil pass0 (pa_cons (pv 0) pa_nil)))), ?_⟩
  obtain ⟨a, p, rfl, hP, q⟩ := h
  refine ⟨_, rfl, fun t dt ht hdt hne => ?_⟩
  have e1 : Ext H (upd (upd H dt (.own t)) t (.ins (ga K "Trial") dt [])) := (Ext.new hdt).trans (Ext.new (by rw [upd_ne hne.symm]; exact ht))
  refine ⟨t, dt, a, p, rfl, upd_same, hP.ext e1, fun H3 k3 hT => ⟨rfl, q t H3 (k3.since e1 (by intro c hc; rw [List.mem_singleton.mp hc]; exact ht)) ht hT⟩⟩
def spEnter (K : PySem.W.Frag) : Sp := fun vs H Q _ => ∃ (t a : Addr) (n : Sn) (pa co : List Sn) (p : Ps), vs = [.ref t] ∧ TrialAt K H t a n pa co ∧ PairAt K H a p ∧ ∀ H', Kx K [t] H H' → TrialAt K H' t a p.now p.past p.coming → Q (.ref a) H'
theorem ok_enter (Z : Tx K mg) {fd : FuncData} (F : FunD K d_Trial_enter.name d_Trial_enter.qual (defArgs s_Trial_enter) (defBody s_Trial_enter) (defScope s_Trial_enter) (d_Trial_enter.dfl.map (Dv.v K)) [] (d_Trial_enter.at_ K) fd) :
    FnOk P w K mg base CX0 1 (ma K (ga K "Trial") "__enter__") fd p_Trial_enter (spEnter K) := by
  refine F.ok sc_Trial_enter (by intro vs H Q E h; repeat (first | (obtain ⟨rfl, _⟩ := h; rfl) | (obtain ⟨_, h⟩ := h))) (fun cdv A outer s H vs Q E hr h => ?_)
  refine ⟨_, PSs.nox (pss_cons (ps_fld (pv 0) (pe_fld (pe_fld (pv 0) rfl) rfl) rfl)
    (pss_cons (ps_fld (pv 0) (pe_fld (pe_fld (pv 0) rfl) rfl) rfl)
    (pss_cons (ps_fld (pv 0) (pe_fld (pe_fld (pv 0) rfl) rfl) rfl)
    (pss_one (ps_ret (pe_fld (pv 0) rfl)))))), ?_⟩
  obtain ⟨t, a, n, pa, co, p, rfl, ⟨dt, vn0, vp0, vc0, ht, _, _, _⟩, ⟨dx, vw, vr, vn, vp, vc, ha, hw, hr0, hn, hp, hc⟩, q⟩ := h
  have hne : a ≠ t := ins_ne ha ht (by show (6 : Nat) ≠ 4; decide)
  refine ⟨_, rfl, t, _, dt, _, _, rfl, ht, Z.clsT, Z.no_pair_so, rfl, ?_⟩
  refine ⟨a, _, dx, _, _, rfl, ha, Z.clsP, Z.no_now, rfl, _, rfl, t, _, dt, _, rfl, ht, Z.clsT, Z.no_now_ahead, (by show (4 : Nat) < 1000; decide), ?_⟩
  have K2 := Kx.put (K := K) (M := [t]) (fs' := tfl a vn vp0 vc0) .refl List.mem_cons_self ht
  have ha2 := (upd_ne (o := .ins (ga K "Trial") dt (tfl a vn vp0 vc0)) hne).trans ha
  have ht2 : (upd H t (.ins (ga K "Trial") dt (tfl a vn vp0 vc0))) t = _ := upd_same
  have hH : upd H t (.ins (ga K "Trial") dt (putF "now_ahead" vn (tfl a vn0 vp0 vc0))) = upd H t (.ins (ga K "Trial") dt (tfl a vn vp0 vc0)) := rfl
  rw [hH]
  generalize upd H t (.ins (ga K "Trial") dt (tfl a vn vp0 vc0)) = H2 at K2 ha2 ht2
  refine ⟨_, rfl, t, _, dt, _, _, rfl, ht2, Z.clsT, Z.no_pair_so, rfl, ?_⟩
  refine ⟨a, _, dx, _, _, rfl, ha2, Z.clsP, Z.no_past, rfl, _, rfl, t, _, dt, _, rfl, ht2, Z.clsT, Z.no_past_ahead, (by show (4 : Nat) < 1000; decide), ?_⟩
  have K3 := Kx.put (fs' := tfl a vn vp vc0) K2 List.mem_cons_self ht2
  have ha3 := (upd_ne (o := .ins (ga K "Trial") dt (tfl a vn vp vc0)) hne).trans ha2
  have ht3 : (upd H2 t (.ins (ga K "Trial") dt (tfl a vn vp vc0))) t = _ := upd_same
  have hH : upd H2 t (.ins (ga K "Trial") dt (putF "past_ahead" vp (tfl a vn vp0 vc0))) = upd H2 t (.ins (ga K "Trial") dt (tfl a vn vp vc0)) := rfl
  rw [hH]
  generalize upd H2 t (.ins (ga K "Trial") dt (tfl a vn vp vc0)) = H3 at K3 ha3 ht3
  refine ⟨_, rfl, t, _, dt, _, _, rfl, ht3, Z.clsT, Z.no_pair_so, rfl, ?_⟩
  refine ⟨a, _, dx, _, _, rfl, ha3, Z.clsP, Z.no_coming, rfl, _, rfl, t, _, dt, _, rfl, ht3, Z.clsT, Z.no_coming_ahead, (by show (4 : Nat) < 1000; decide), ?_⟩
  have K4 := Kx.put (fs' := tfl a vn vp vc) K3 List.mem_cons_self ht3
  have ht4 : (upd H3 t (.ins (ga K "Trial") dt (tfl a vn vp vc))) t = _ := upd_same
  have hH : upd H3 t (.ins (ga K "Trial") dt (putF "coming_ahead" vc (tfl a vn vp vc0))) = upd H3 t (.ins (ga K "Trial") dt (tfl a vn vp vc)) := rfl
  rw [hH]
  refine ⟨_, rfl, t, _, dt, _, _, rfl, ht4, Z.clsT, Z.no_pair_so, rfl, ?_⟩
  exact q _ K4 ⟨dt, vn, vp, vc, ht4, K4.dt hn, K4.dt hp, K4.dt hc⟩
def spExit (K : PySem.W.Frag) : Sp := fun vs H Q _ => ∃ (t a : Addr) (n : Sn) (pa co : List Sn) (p : Ps) (v1 v2 v3 : V), vs = [.ref t, v1, v2, v3] ∧ TrialAt K H t a n pa co ∧ PairAt K H a p ∧ ∀ H', Kx K [a] H H' → PairAt K H' a { p with now := n, past := pa, coming := co } → Q (.bl false) H'
theorem ok_exit (Z : Tx K mg) {fd : FuncData} (F : FunD K d_Trial_exit.name d_Trial_exit.qual (defArgs s_Trial_exit) (defBody s_Trial_exit) (defScope s_Trial_exit) (d_Trial_exit.dfl.map (Dv.v K)) [] (d_Trial_exit.at_ K) fd) :
    FnW P w K mg base 1 (ma K (ga K "Trial") "__exit__") fd p_Trial_exit (spExit K) := by
  refine fnW_of F sc_Trial_exit (by intro vs H Q E h; repeat (first | (obtain ⟨rfl, _⟩ := h; rfl) | (obtain ⟨_, h⟩ := h))) (fun cdv A outer s H vs Q E hr h => ?_)
  refine ⟨_, PSs.nox (pss_cons (ps_fld (pe_fld (pv 0) rfl) (pe_fld (pv 0) rfl) rfl)
    (pss_cons (ps_fld (pe_fld (pv 0) rfl) (pe_fld (pv 0) rfl) rfl)
    (pss_cons (ps_fld (pe_fld (pv 0) rfl) (pe_fld (pv 0) rfl) rfl)
    (pss_one (ps_ret pe_bl))))), ?_⟩
  obtain ⟨t, a, n, pa, co, p, v1, v2, v3, rfl, ⟨dt, wn, wp, wc, ht, h1, h2, h3⟩, ⟨dx, vw, vr, vn, vp, vc, ha, hw, hr0, hn, hp, hc⟩, q⟩ := h
  have hne : t ≠ a := (ins_ne ha ht (by show (6 : Nat) ≠ 4; decide)).symm
  refine ⟨_, rfl, t, _, dt, _, _, rfl, ht, Z.clsT, Z.no_now_ahead, rfl, ?_⟩
  refine ⟨_, rfl, t, _, dt, _, _, rfl, ht, Z.clsT, Z.no_pair_so, rfl, ?_⟩
  refine ⟨a, _, dx, _, rfl, ha, Z.clsP, Z.no_now, (by show (6 : Nat) < 1000; decide), ?_⟩
  have K2 := Kx.put (K := K) (M := [a]) (fs' := pfs vw vr p.b wn vp vc) .refl List.mem_cons_self ha
  have ht2 := (upd_ne (o := .ins (ga K "Pair") dx (pfs vw vr p.b wn vp vc)) hne).trans ht
  have ha2 : (upd H a (.ins (ga K "Pair") dx (pfs vw vr p.b wn vp vc))) a = _ := upd_same
  have hH : upd H a (.ins (ga K "Pair") dx (putF "now" wn (pfs vw vr p.b vn vp vc))) = upd H a (.ins (ga K "Pair") dx (pfs vw vr p.b wn vp vc)) := rfl
  rw [hH]
  generalize upd H a (.ins (ga K "Pair") dx (pfs vw vr p.b wn vp vc)) = H2 at K2 ha2 ht2
  refine ⟨_, rfl, t, _, dt, _, _, rfl, ht2, Z.clsT, Z.no_past_ahead, rfl, ?_⟩
  refine ⟨_, rfl, t, _, dt, _, _, rfl, ht2, Z.clsT, Z.no_pair_so, rfl, ?_⟩
  refine ⟨a, _, dx, _, rfl, ha2, Z.clsP, Z.no_past, (by show (6 : Nat) < 1000; decide), ?_⟩
  have K3 := Kx.put (fs' := pfs vw vr p.b wn wp vc) K2 List.mem_cons_self ha2
  have ht3 := (upd_ne (o := .ins (ga K "Pair") dx (pfs vw vr p.b wn wp vc)) hne).trans ht2
  have ha3 : (upd H2 a (.ins (ga K "Pair") dx (pfs vw vr p.b wn wp vc))) a = _ := upd_same
  have hH : upd H2 a (.ins (ga K "Pair") dx (putF "past" wp (pfs vw vr p.b wn vp vc))) = upd H2 a (.ins (ga K "Pair") dx (pfs vw vr p.b wn wp vc)) := rfl
  rw [hH]
  generalize upd H2 a (.ins (ga K "Pair") dx (pfs vw vr p.b wn wp vc)) = H3 at K3 ha3 ht3
  refine ⟨_, rfl, t, _, dt, _, _, rfl, ht3, Z.clsT, Z.no_coming_ahead, rfl, ?_⟩
  refine ⟨_, rfl, t, _, dt, _, _, rfl, ht3, Z.clsT, Z.no_pair_so, rfl, ?_⟩
  refine ⟨a, _, dx, _, rfl, ha3, Z.clsP, Z.no_coming, (by show (6 : Nat) < 1000; decide), ?_⟩
  have K4 := Kx.put (fs' := pfs vw vr p.b wn wp wc) K3 List.mem_cons_self ha3
  exact q _ K4 ⟨dx, vw, vr, wn, wp, wc, upd_same, K4.dt hw, K4.dt hr0, K4.dt h1, K4.dt h2, K4.dt h3⟩
end
end K21
/-! K21O: Pair.__call__, __iadd__, __len__, __eq__. -/
namespace K21
open PySem PySem.Spec PyProof.Rows L2 LamX He
theorem sh_wd (x : Wd) : Sh 1 x.d := Sh.tup fun d hd => by
  simp only [List.mem_cons, List.not_mem_nil, or_false] at hd
  rcases hd with rfl | rfl | rfl | rfl | rfl <;> exact Sh.int _
theorem sh_ints (ns : List Int) : Sh 1 (.tuple (ns.map .int)) := Sh.tup fun d hd => by
  obtain ⟨i, _, rfl⟩ := List.mem_map.mp hd
  exact Sh.int _
theorem sh_en (e : En) : Sh 2 e.d := Sh.tup fun d hd => by
  simp only [List.mem_cons, List.not_mem_nil, or_false] at hd
  rcases hd with rfl | rfl
  · exact sh_deed _
  · exact Sh.int _
theorem sh_md (m : Md) : Sh 4 m.d := Sh.tup fun d hd => by
  simp only [List.mem_cons, List.not_mem_nil, or_false] at hd
  rcases hd with rfl | rfl | rfl
  · exact (sh_ints _).mono (by decide)
  · refine Sh.tup fun d hd => ?_
    obtain ⟨e, _, rfl⟩ := List.mem_map.mp hd
    exact sh_en e
  · exact (sh_en _).mono (by decide)
theorem sh_rD (r : List Md) : Sh 5 (rD r) := Sh.tup fun d hd => by
  obtain ⟨m, _, rfl⟩ := List.mem_map.mp hd
  exact sh_md m
theorem sh_rd (r : Rd) : Sh 1 (Rd.d r) := Sh.tup fun d hd => by
  simp only [List.mem_cons, List.not_mem_nil, or_false] at hd
  rcases hd with rfl | rfl
  · exact Sh.int _
  · cases r.2 with
    | none => exact Sh.non
    | some i => exact Sh.int _
theorem sh_rds (rs : List Rd) : Sh 2 (.tuple (rs.map Rd.d)) := Sh.tup fun d hd => by
  obtain ⟨m, _, rfl⟩ := List.mem_map.mp hd
  exact sh_rd m
theorem sh_sd (x : Sd) : Sh 1 x.d := Sh.tup fun d hd => by
  simp only [List.mem_cons, List.not_mem_nil, or_false] at hd
  rcases hd with rfl | rfl | rfl <;> exact Sh.int _
theorem sh_far (s : Sn) : Sh 1 s.far := Sh.tup fun d hd => by
  simp only [List.mem_cons, List.not_mem_nil, or_false] at hd
  rcases hd with rfl | rfl <;> exact Sh.int _
theorem gone_one {p : Ps} {r : Rd} (h : goodR p.w p.now.sd.ls r = true) : (p.gone [r]).1 = none := by
  unfold Ps.gone
  rw [goneP_cons, if_pos h]
  rfl
theorem kit_self (K : PySem.W.Frag) (C : Addr) : PySem.W.kitOne K (.ref C) (.ref C) = some true := by
  unfold PySem.W.kitOne
  simp
section
variable {P : Program} {w : World} {K : PySem.W.Frag} {mg : Str → Option Value} {base : Heap}
def spPCall (K : PySem.W.Frag) : Sp := fun vs H Q E => ∃ (a : Addr) (p : Ps) (dr : Int) (er : Option Int), vs = [.ref a, .int dr, optV er] ∧ PairAt K H a p ∧ p.ok ∧ (goodR p.w p.now.sd.ls (dr, er) = false → Err K E "BadRound" "given" (Rd.d (dr, er)) H) ∧
  (goodR p.w p.now.sd.ls (dr, er) = true → p.now.rs.length ≥ 1000 → Err K E "TooGreat" "most" (.int 1000) H) ∧ (goodR p.w p.now.sd.ls (dr, er) = true → p.now.rs.length < 1000 → ∀ i H', Kx K [a] H H' → PairAt K H' a (p.did [(dr, er)]) → Q (.int i) H')
theorem fn_call (Z : Tx K mg) : FnOk P w K mg base (L2.CX P w) 6 (ma K (ga K "Pair") "__call__") (Classical.choose Z.fn_Pair_call) p_Pair_call (spPCall K) := by
  have F := Classical.choose_spec Z.fn_Pair_call
  refine F.ok sc_Pair_call (by intro vs H Q E h; repeat (first | (obtain ⟨rfl, _⟩ := h; rfl) | (obtain ⟨_, h⟩ := h))) (fun cdv A outer s H vs Q E hr h => ?_)
  have c_is_round := ok_is_round (P := P) (w := w) (base := base) Z
  have c_stepped := ok_stepped (P := P) (w := w) (base := base) Z
  have m_do := ok_Pair_do (P := P) (w := w) (base := base) Z
  refine ⟨_, (pss_cons (ps_set (i := 3) sc_Pair_call.nd rfl (Or.inl rfl) (pe_ix ix_D (pe_fld (pv 0) rfl) pe_int (fun _ _ => rfl)))
    (pss_cons (ps_if (pt_not (pt_val (pe_cal c_is_round hr pass0 (pa_cons (pe_fld (pv 0) rfl) (pa_cons (pe_ix ix_D (pv 3) pe_int (fun _ _ => rfl)) (pa_cons (pe_tupD (pa_cons (pv 1) (pa_cons (pv 2) pa_nil))) pa_nil))))))
      (pss_one (ps_raise rfl (takes_of rfl rfl rfl rfl) (pmk_BadRound (k := 0) Z (hr.mono (by decide)) (pa_cons (pe_tupD (pa_cons (pv 1) (pa_cons (pv 2) pa_nil))) pa_nil))))
      pss_nil)
    (pss_cons (ps_expr (pe_mcal m_do Z.clsP (pv 0) hr (passes_call (takes_of rfl rfl rfl rfl) (fun _ _ _ _ h => h)) (pa_cons (pe_tupD (pa_cons (pe_tupD (pa_cons (pv 1) (pa_cons (pv 2) pa_nil))) pa_nil)) pa_nil)))
    (pss_one (ps_ret (pe_ix ix_D (pe_cal c_stepped hr pass0 (pa_cons (pe_fld (pv 0) rfl) (pa_cons (pv 3) (pa_cons (pv 1) (pa_cons (pv 2) pa_nil))))) pe_int (fun _ _ => rfl))))))), ?_⟩
  obtain ⟨a, p, dr, er, rfl, hP, ok, q1, q2, q3⟩ := h
  obtain ⟨dx, vw, vr, vn, vp, vc, ha, hw, hr0, hn, hp, hc⟩ := id hP
  refine ⟨_, rfl, a, _, dx, _, _, rfl, ha, Z.clsP, Z.no_now, rfl, ?_⟩
  refine ⟨_, _, _, hn, rfl, rfl, fun vs hs => ?_⟩
  refine ⟨_, rfl, a, _, dx, _, _, rfl, ha, Z.clsP, Z.no_own_world, rfl, ?_⟩
  refine ⟨_, rfl, _, _, _, hs, rfl, rfl, fun u hu => ?_⟩; obtain rfl := hu.int_; clear hu
  refine ⟨_, rfl, _, rfl, [.int dr, optD er], .cons (.int _) (.cons (.opt _) .nil), sm 2, fun u1 H1 k1 hu1 => ?_⟩
  refine ⟨vw, u1, p.w, p.now.sd.ls, (dr, er), rfl, k1.dt hw, hu1, _, rfl, ?_⟩
  cases hg : goodR p.w p.now.sd.ls (dr, er) with
  | false =>
    refine ⟨_, rfl, _, rfl, [.int dr, optD er], .cons (.int _) (.cons (.opt _) .nil), sm 2, fun u2 H2 k2 hu2 => ⟨_, rfl, fun d hd => ?_⟩⟩
    exact (q1 hg).at_ (k1.trans k2) hd hu2
  | true =>
    refine ⟨_, rfl, a, dx, _, rfl, k1 _ _ ha, rfl, ?_⟩
    refine ⟨_, rfl, _, rfl, [.int dr, optD er], .cons (.int _) (.cons (.opt _) .nil), sm 2, fun u2 H2 k2 hu2 => ?_⟩
    refine ⟨[Rd.d (dr, er)], .cons hu2 .nil, sm 1, fun u3 H3 k3 hu3 => ?_⟩
    have k13 := k1.trans (k2.trans k3)
    have g1 := gone_one hg
    refine ⟨a, p, u3, [(dr, er)], rfl, hP.ext k13, ok, hu3, by simp, ?_, ?_, ?_⟩
    · intro n hn
      rw [g1] at hn
      cases hn
    · intro _ hl
      refine (q2 hg ?_).ext k13
      simp only [List.length_cons, List.length_nil] at hl
      omega
    · intro _ hl H4 k4 hP4
      have K4 : Kx K [a] H H4 := (Kx.ext k13).trans k4
      obtain ⟨dx4, vw4, vr4, vn4, vp4, vc4, ha4, hw4, hr4, hn4, hp4, hc4⟩ := id hP4
      refine ⟨_, rfl, a, _, dx4, _, _, rfl, ha4, Z.clsP, Z.no_own_rule, rfl, ?_⟩
      refine ⟨_, rfl, _, rfl, _, rfl, vr4, vs, p.r, p.now.sd, dr, er, rfl, hr4, ok.r, K4.dt hs, ok.now.sd, fun u5 H5 k5 hu5 => ?_⟩
      refine ⟨_, _, _, hu5, rfl, rfl, fun u hu => ?_⟩
      obtain rfl := hu.int_
      refine q3 hg ?_ _ _ (K4.trans (.ext k5)) (hP4.ext k5)
      simp only [List.length_cons, List.length_nil] at hl
      omega
theorem fr_call (Z : Tx K mg) : FnR P w K mg base (L2.CX P w) 6 (ma K (ga K "Pair") "__call__") (spPCall K) := by
  obtain ⟨ds, r, b⟩ := (Classical.choose_spec Z.fn_Pair_call).binds1 (ps := p_Pair_call) 3 1 (by simp [d_Pair_call]) rfl fun T kV doc pm an cdv ct us its hu hi => match us, its, hu, hi with | [_, _, _], [_], _, _ => ⟨_, rfl, rfl⟩
  exact ((fn_call (P := P) (w := w) (base := base) Z).raw b r).imp fun vs H Q E h => by
    show spPCall K (vs ++ []) H Q E
    rw [List.append_nil]
    exact h
def spIadd (K : PySem.W.Frag) : Sp := fun vs H Q E => ∃ (a : Addr) (p : Ps) (v : V) (rs : List Rd), vs = [.ref a, v] ∧ PairAt K H a p ∧ p.ok ∧ Dt K H v (.tuple (rs.map Rd.d)) ∧ rs.length ≤ 1000 ∧
  (∀ n : Nat, (p.gone rs).1 = some n → Err K E "BadRun" "number" (.int n) H) ∧ ((p.gone rs).1 = none → p.now.rs.length + rs.length > 1000 → Err K E "TooGreat" "most" (.int 1000) H) ∧
  ((p.gone rs).1 = none → p.now.rs.length + rs.length ≤ 1000 → ∀ H', Kx K [a] H H' → PairAt K H' a (p.did rs) → Q (.ref a) H')
theorem ok_iadd (Z : Tx K mg) {fd : FuncData} (F : FunD K d_Pair_iadd.name d_Pair_iadd.qual (defArgs s_Pair_iadd) (defBody s_Pair_iadd) (defScope s_Pair_iadd) (d_Pair_iadd.dfl.map (Dv.v K)) [] (d_Pair_iadd.at_ K) fd) :
    FnOk P w K mg base (L2.CX P w) 6 (ma K (ga K "Pair") "__iadd__") fd p_Pair_iadd (spIadd K) := by
  refine F.ok sc_Pair_iadd (by intro vs H Q E h; repeat (first | (obtain ⟨rfl, _⟩ := h; rfl) | (obtain ⟨_, h⟩ := h))) (fun cdv A outer s H vs Q E hr h => ?_)
  have m_do := ok_Pair_do (P := P) (w := w) (base := base) Z
  refine ⟨_, (pss_cons (ps_if (pt_not (pt_val (pe_callB call_isD (by rfl) Z.f_isinstance bt_isinstance (pa_cons (pv 1) (pa_cons (pe_bltn (v := .ty "tuple") (by rfl) Z.f_tuple bt_tuple rfl) pa_nil)))))
      (pss_one ps_never)
      pss_nil)
    (pss_cons (ps_expr (pe_mcal m_do Z.clsP (pv 0) hr (passes_call (takes_of rfl rfl rfl rfl) (fun _ _ _ _ h => h)) (pa_cons (pv 1) pa_nil)))
    (pss_one (ps_ret (pv 0))))), ?_⟩
  obtain ⟨a, p, v, rs, rfl, hP, ok, hv, few, q1, q2, q3⟩ := h
  obtain ⟨dx, vw, vr, vn, vp, vc, ha, hw, hr0, hn, hp, hc⟩ := id hP
  refine ⟨_, rfl, _, _, _, true, rfl, hv, kb_tup, _, rfl, ?_⟩
  refine ⟨_, rfl, a, dx, _, rfl, ha, rfl, _, rfl, ?_⟩
  exact ⟨a, p, v, rs, rfl, hP, ok, hv, few, q1, q2, fun h1 h2 H' k h => ⟨_, rfl, q3 h1 h2 H' k h⟩⟩
def spLenP (K : PySem.W.Frag) : Sp := fun vs H Q _ => ∃ (a : Addr) (p : Ps), vs = [.ref a] ∧ PairAt K H a p ∧ Q (.int p.now.rs.length) H
theorem ok_len (Z : Tx K mg) {fd : FuncData} (F : FunD K d_Pair_len.name d_Pair_len.qual (defArgs s_Pair_len) (defBody s_Pair_len) (defScope s_Pair_len) (d_Pair_len.dfl.map (Dv.v K)) [] (d_Pair_len.at_ K) fd) :
    FnOk P w K mg base CX0 1 (ma K (ga K "Pair") "__len__") fd p_Pair_len (spLenP K) := by
  refine F.ok sc_Pair_len (by intro vs H Q E h; repeat (first | (obtain ⟨rfl, _⟩ := h; rfl) | (obtain ⟨_, h⟩ := h))) (fun cdv A outer s H vs Q E hr h => ?_)
  refine ⟨_, PSs.nox (pss_one (ps_ret (pe_callB call_lenT (by rfl) Z.f_len bt_len (pa_cons (pe_ix ix_D (pe_fld (pv 0) rfl) pe_int (fun _ _ => rfl)) pa_nil)))), ?_⟩
  obtain ⟨a, p, rfl, ⟨dx, vw, vr, vn, vp, vc, ha, hw, hr0, hn, hp, hc⟩, q⟩ := h
  refine ⟨_, rfl, a, _, dx, _, _, rfl, ha, Z.clsP, Z.no_now, rfl, ?_⟩
  refine ⟨_, _, _, hn, rfl, rfl, fun u hu => ⟨u, _, rfl, hu, ?_⟩⟩
  rw [List.length_map]
  exact q
/-- both are the same pair, as data -/
def spEqP (K : PySem.W.Frag) : Sp := fun vs H Q _ => ∃ (a b : Addr) (p : Ps), vs = [.ref a, .ref b] ∧ PairAt K H a p ∧ PairAt K H b p ∧ Q (.bl true) H
theorem ok_eq (Z : Tx K mg) {fd : FuncData} (F : FunD K d_Pair_eq.name d_Pair_eq.qual (defArgs s_Pair_eq) (defBody s_Pair_eq) (defScope s_Pair_eq) (d_Pair_eq.dfl.map (Dv.v K)) [] (d_Pair_eq.at_ K) fd) :
    FnOk P w K mg base CX0 1 (ma K (ga K "Pair") "__eq__") fd p_Pair_eq (spEqP K) := by
  refine F.ok sc_Pair_eq (by intro vs H Q E h; repeat (first | (obtain ⟨rfl, _⟩ := h; rfl) | (obtain ⟨_, h⟩ := h))) (fun cdv A outer s H vs Q E hr h => ?_)
  refine ⟨_, PSs.nox (pss_cons (ps_if (PW.pt (pw_or (pt_not (pt_val (pe_callB call_isi (by rfl) Z.f_isinstance bt_isinstance (pa_cons (pv 1) (pa_cons (pe_glob (v := .ref (ga _ "Pair")) (by rfl) Z.g_Pair rfl) pa_nil))))) (pw_or (pt_cmpR (op_neT hr.units) (pe_fld (pv 0) rfl) (pe_fld (pv 1) rfl) (nomark _)) (pw_or1 (pt_cmpR (op_neT hr.units) (pe_fld (pv 0) rfl) (pe_fld (pv 1) rfl) (nomark _))))))
      (pss_one (ps_ret pe_bl))
      pss_nil)
    (pss_one (ps_ret (pe_and (pe_cmpR op_eq (pe_fld (pv 0) rfl) (pe_fld (pv 1) rfl) (nomark _)) (pe_one (pe_cmpR (op_eqT hr.units) (pe_ix ix_D (pe_fld (pv 0) rfl) pe_int (fun _ _ => rfl)) (pe_ix ix_D (pe_fld (pv 1) rfl) pe_int (fun _ _ => rfl)) (nomark _))))))), ?_⟩
  obtain ⟨a, b, p, rfl, ⟨dx, vw, vr, vn, vp, vc, ha, hw, hr0, hn, hp, hc⟩, ⟨dy, vw2, vr2, vn2, vp2, vc2, hb, hw2, hr2, hn2, hp2, hc2⟩, q⟩ := h
  refine ⟨_, rfl, .ref b, _, _, _, true, rfl, .own _, .base (tyOf_ins Z.moreF.tyP Z.clsP hb), kit_self _ _, _, rfl, ?_⟩
  refine ⟨_, rfl, a, _, dx, _, _, rfl, ha, Z.clsP, Z.no_own_world, rfl, ?_⟩
  refine ⟨_, rfl, b, _, dy, _, _, rfl, hb, Z.clsP, Z.no_own_world, rfl, ?_⟩
  refine ⟨_, _, hw, hw2, (sh_wd _).shaped, (sh_wd _).shaped, _, rfl, ?_⟩
  rw [(sh_wd p.w).eqv]
  refine ⟨_, rfl, a, _, dx, _, _, rfl, ha, Z.clsP, Z.no_own_rule, rfl, ?_⟩
  refine ⟨_, rfl, b, _, dy, _, _, rfl, hb, Z.clsP, Z.no_own_rule, rfl, ?_⟩
  refine ⟨_, _, hr0, hr2, (sh_rD _).shaped, (sh_rD _).shaped, _, rfl, ?_⟩
  rw [(sh_rD p.r).eqv]
  refine ⟨_, rfl, a, _, dx, _, _, rfl, ha, Z.clsP, Z.no_begin, rfl, ?_⟩
  refine ⟨_, rfl, b, _, dy, _, _, rfl, hb, Z.clsP, Z.no_begin, rfl, rfl, _, rfl, ifT (by simp) ?_⟩
  refine ⟨_, rfl, a, _, dx, _, _, rfl, ha, Z.clsP, Z.no_now, rfl, ?_⟩
  refine ⟨_, _, _, hn, rfl, rfl, fun u hu => ?_⟩
  refine ⟨_, rfl, b, _, dy, _, _, rfl, hb, Z.clsP, Z.no_now, rfl, ?_⟩
  refine ⟨_, _, _, hn2, rfl, rfl, fun u2 hu2 => ?_⟩
  refine ⟨_, _, hu, hu2, (sh_rds _).shaped, (sh_rds _).shaped, ?_⟩
  rw [(sh_rds p.now.rs).eqv]
  exact q
end
end K21
/-! K21E: the draws: _law_next, _law_pick. -/
namespace K21
open PySem PySem.Spec PyProof.Rows L2 LamX He
theorem hu1 {k : Nat} {A : Around} (hr : Room k A) : A.units + 1 < cLine := by
  have := hr.units
  omega
def rSetK : V → V → V → Hp → (Hp → Prop) → Prop := fun o i v H Q => ∃ a H', o = .ref a ∧ DPut H a i v H' ∧ Q H'
theorem set_dk {X : Cx} (hu : X.A.units + 1 < cLine) : PSet X rSetK := by
  intro pins s σ H o i v ov iv u Q I ro ri rv h
  obtain ⟨a, H', rfl, g, q⟩ := h
  obtain rfl : ov = Value.ref a := ro
  exact d_setItem hu I g ri rv fun s' I' => ⟨H', I', q⟩
def dkv (cl : Addr) (at_ left used : Int) : List (Key × V) := [(.inr "cells", .ref cl), (.inr "at", .int at_), (.inr "left", .int left), (.inr "used", .int used)]
/-- where the draws' dict and its cells stand -/
structure Dr where
  d : Addr
  cl : Addr
/-- the state of all draws stands at d, n draws may follow -/
def DrawAt (H : Hp) (d : Dr) (n : Nat) : Prop := ∃ (at_ left used : Int) (cs : List Int), H d.d = some (.dK (dkv d.cl at_ left used)) ∧ H d.cl = some (.lst (cs.map V.int)) ∧ cs ≠ [] ∧ cs.length ≤ 1000 ∧
  0 ≤ at_ ∧ 0 ≤ left ∧ 0 ≤ used ∧ at_ + n ≤ 1000000000 ∧ used + n ≤ 1000000000
section
variable {K : PySem.W.Frag} {M : List Addr} {H H' H1 : Hp} {d a : Addr} {n m : Nat} {kvs kvs' : List (Key × V)}
theorem DrawAt.ke {d : Dr} (k : Ke K M H H') (hd : d.d ∉ M) (h : DrawAt H d n) : DrawAt H' d n := by
  obtain ⟨a1, l1, u1, cs, h0, h1, h2⟩ := h
  exact ⟨a1, l1, u1, cs, k.kp _ _ h0 (.inr ⟨hd, rfl⟩), k.lst h1, h2⟩
theorem DrawAt.kx {d : Dr} (k : Kx K M H H') (hd : d.d ∉ M) (h : DrawAt H d n) : DrawAt H' d n := h.ke k.ke hd
theorem DrawAt.ext {d : Dr} (k : Ext H H') (h : DrawAt H d n) : DrawAt H' d n := by
  obtain ⟨a1, l1, u1, cs, h0, h1, h2⟩ := h
  exact ⟨a1, l1, u1, cs, k _ _ h0, k _ _ h1, h2⟩
theorem DrawAt.less {d : Dr} (h : DrawAt H d n) (hm : m ≤ n) : DrawAt H d m := by
  obtain ⟨a1, l1, u1, cs, h0, h1, h2, h3, h4, h5, h6, h7, h8⟩ := h
  exact ⟨a1, l1, u1, cs, h0, h1, h2, h3, h4, h5, h6, by omega, by omega⟩
theorem DrawAt.ne_pair {d : Dr} {p : Ps} (h : DrawAt H d n) (hp : PairAt K H a p) : d.d ≠ a := by
  obtain ⟨a1, l1, u1, cs, h0, _⟩ := h
  obtain ⟨dx, vw, vr, vn, vp, vc, ha, _⟩ := hp
  exact ne_of h0 ha (by intro z; cases z)
theorem DrawAt.ne_trial {d : Dr} {t : Addr} {s : Sn} {pa co : List Sn} (h : DrawAt H d n) (hp : TrialAt K H t a s pa co) : d.d ≠ t := by
  obtain ⟨a1, l1, u1, cs, h0, _⟩ := h
  obtain ⟨dx, vn, vp, vc, ha, _⟩ := hp
  exact ne_of h0 ha (by intro z; cases z)
theorem DrawAt.there {d : Dr} (h : DrawAt H d n) : ∃ xs, H d.cl = some (.lst xs) := by
  obtain ⟨a1, l1, u1, cs, h0, h1, _⟩ := h
  exact ⟨_, h1⟩
/-- a dict in M is written -/
theorem Kx.putK (k : Kx K M H H1) (ha : a ∈ M) (h : H1 a = some (.dK kvs)) : Kx K M H (upd H1 a (.dK kvs')) := by
  refine ⟨fun b o e c => ?_, fun t => ?_⟩
  · have e1 := k.kp b o e c
    have hne : b ≠ a := fun z => by
      subst z
      rcases c with c | c
      · rw [h] at e1
        cases e1
        cases c
      · exact c ha
    rw [upd_ne hne]
    exact e1
  · have t1 := k.tab t
    intro q hq
    obtain ⟨ps, a1, a2, a3⟩ := t1 q hq
    refine ⟨ps, (upd_ne (ne_of a1 h (by intro z; cases z))).trans a1, a2, fun pos cv hc => ?_⟩
    obtain ⟨c, e1, e2⟩ := a3 pos cv hc
    exact ⟨c, e1, (upd_ne (ne_of e2 h (by intro z; unfold CodeO at z; cases z))).trans e2⟩
variable {cl : Addr} {at_ left used y : Int}
theorem dk_cells : valV (dkv cl at_ left used) (.inr "cells") = some (.ref cl) := rfl
theorem dk_at : valV (dkv cl at_ left used) (.inr "at") = some (.int at_) := rfl
theorem dk_left : valV (dkv cl at_ left used) (.inr "left") = some (.int left) := rfl
theorem dk_used : valV (dkv cl at_ left used) (.inr "used") = some (.int used) := rfl
theorem pk_at : putK (dkv cl at_ left used) (.inr "at") (.int y) = dkv cl y left used := rfl
theorem pk_left : putK (dkv cl at_ left used) (.inr "left") (.int y) = dkv cl at_ y used := rfl
theorem pk_used : putK (dkv cl at_ left used) (.inr "used") (.int y) = dkv cl at_ left y := rfl
theorem dg_cells (h : H d = some (.dK (dkv cl at_ left used))) : DGet H d (.str "cells") (some (.ref cl)) := .k (k := Sum.inr "cells") h
theorem dg_at (h : H d = some (.dK (dkv cl at_ left used))) : DGet H d (.str "at") (some (.int at_)) := .k (k := Sum.inr "at") h
theorem dg_left (h : H d = some (.dK (dkv cl at_ left used))) : DGet H d (.str "left") (some (.int left)) := .k (k := Sum.inr "left") h
theorem dg_used (h : H d = some (.dK (dkv cl at_ left used))) : DGet H d (.str "used") (some (.int used)) := .k (k := Sum.inr "used") h
theorem dp_at (h : H d = some (.dK (dkv cl at_ left used))) : DPut H d (.str "at") (.int y) (upd H d (.dK (dkv cl y left used))) := .k (k := Sum.inr "at") h (by show (4 : Nat) < sizeLine; decide)
theorem dp_left (h : H d = some (.dK (dkv cl at_ left used))) : DPut H d (.str "left") (.int y) (upd H d (.dK (dkv cl at_ y used))) := .k (k := Sum.inr "left") h (by show (4 : Nat) < sizeLine; decide)
theorem dp_used (h : H d = some (.dK (dkv cl at_ left used))) : DPut H d (.str "used") (.int y) (upd H d (.dK (dkv cl at_ left y))) := .k (k := Sum.inr "used") h (by show (4 : Nat) < sizeLine; decide)
end
theorem ediv_nn {a b : Int} (ha : 0 ≤ a) (hb : 0 < b) : 0 ≤ a / b := Int.ediv_nonneg ha (Int.le_of_lt hb)
section
variable {P : Program} {w : World} {K : PySem.W.Frag} {mg : Str → Option Value} {base : Heap}
def spNext (K : PySem.W.Frag) : Sp := fun vs H Q _ => ∃ (d : Dr) (n : Nat) (many : Int), vs = [.ref d.d, .int many] ∧ 0 < many ∧ many < 1073741824 ∧ DrawAt H d (n + 1) ∧ ∀ i H', 0 ≤ i → i < many → Kx K [d.d] H H' → DrawAt H' d n → Q (.int i) H'
theorem ok_next (Z : Tx K mg) : Cal P w K mg base CX0 1 "_law_next" p_law_next (spNext K) := by
  obtain ⟨fd, F⟩ := Z.fn_law_next
  refine cal_of Z.g_law_next F sc_law_next (fun _ _ _ _ _ _ us hl => match us, hl with | [_, _], _ => rfl) (by intro vs H Q E h; repeat (first | (obtain ⟨rfl, _⟩ := h; rfl) | (obtain ⟨_, h⟩ := h))) fun cdv A outer s H vs Q E hr h => ?_
  have hu := hu1 hr
  refine ⟨_, PSs.nox (pss_cons (ps_if (pt_cmpR op_gt (pe_dget hu (pv 0) pe_str (fun _ _ => rfl)) pe_int (nomark _))
      (pss_cons (ps_asg (pe_tup (pa_cons (pe_dget hu (pv 0) pe_str (fun _ _ => rfl)) (pa_cons (pe_op op_fdiv (pe_dget hu (pv 0) pe_str (fun _ _ => rfl)) (pv 1)) pa_nil))) (pg_tup rfl (pgs_cons (pg_name (i := 2) sc_law_next.nd rfl (Or.inl rfl)) (pgs_cons (pg_sub (pv 0) pe_str (set_dk hu)) pgs_nil))))
        (pss_one (ps_ret (pe_op op_mod (pv 2) (pv 1)))))
      pss_nil)
    (pss_cons (ps_set (i := 3) sc_law_next.nd rfl (Or.inl rfl) (pe_dget hu (pv 0) pe_str (fun _ _ => rfl)))
    (pss_cons (ps_set (i := 2) sc_law_next.nd rfl (Or.inl rfl) (pe_ix ix_list (pv 3) (pe_op op_mod (pe_dget hu (pv 0) pe_str (fun _ _ => rfl)) (pe_callB call_len (by rfl) Z.f_len bt_len (pa_cons (pv 3) pa_nil))) (fun _ _ => rfl)))
    (pss_cons (ps_dput hu (pv 0) pe_str (pe_op op_add (pe_dget hu (pv 0) pe_str (fun _ _ => rfl)) pe_int) rfl)
    (pss_cons (ps_if (PW.pt (pw_and (pt_cmpR op_ge (pv 2) (pe_op op_pow pe_int pe_int) (nomark _)) (pw_and1 (pt_cmpR op_le (pe_dget hu (pv 0) pe_str (fun _ _ => rfl)) (pe_callB call_len (by rfl) Z.f_len bt_len (pa_cons (pv 3) pa_nil)) (nomark _)))))
      (pss_cons (ps_dput hu (pv 0) pe_str (pe_op op_fdiv (pv 2) (pv 1)) rfl)
        (pss_one (ps_ret (pe_op op_mod (pv 2) (pv 1)))))
      pss_nil)
    (pss_cons (ps_dput hu (pv 0) pe_str (pe_op op_add (pe_dget hu (pv 0) pe_str (fun _ _ => rfl)) pe_int) rfl)
    (pss_cons (ps_set (i := 4) sc_law_next.nd rfl (Or.inl rfl) (pe_op op_add (pe_op op_mod (pv 2) pe_int) (pe_op op_mul (pe_op op_mul pe_int (pe_dget hu (pv 0) pe_str (fun _ _ => rfl))) (pe_dget hu (pv 0) pe_str (fun _ _ => rfl)))))
    (pss_cons (ps_for PassesOwn.never rfl (pi_tup (pe_tup (pa_cons (pe_dget hu (pv 0) pe_str (fun _ _ => rfl)) (pa_cons (pe_dget hu (pv 0) pe_str (fun _ _ => rfl)) pa_nil)))) (pg_name (i := 5) sc_law_next.nd rfl (Or.inl rfl))
      (pss_cons (ps_set (i := 4) sc_law_next.nd rfl (Or.inl rfl) (pe_op op_mod (pe_op op_mul (pe_op op_add (pe_op op_add (pv 4) (pe_op op_mul pe_int (pv 5))) pe_int) pe_int) pe_int))
        (pss_one (ps_set (i := 4) sc_law_next.nd rfl (Or.inl rfl) (pe_op op_mod (pe_op op_mul (pv 4) (pe_op op_add pe_int (pe_op op_mul pe_int (pe_op op_mod (pv 5) pe_int)))) pe_int)))))
    (pss_one (ps_ret (pe_op op_mod (pe_op op_fdiv (pv 4) pe_int) (pv 1)))))))))))), ?_⟩
  obtain ⟨⟨d, cl⟩, n, many, rfl, hm, hm2, ⟨at_, left, used, cs, hd, hcl, hne, hcs, h1, h2, h3, h4, h5⟩, q⟩ := h
  have hd : H d = some (.dK (dkv cl at_ left used)) := hd
  have hcl : H cl = some (.lst (cs.map V.int)) := hcl
  refine ⟨_, rfl, d, _, rfl, dg_left hd, _, _, rfl, rfl, _, rfl, ifC (fun c => ?_) fun c => ?_⟩
  · have c' : 0 < left := of_decide_eq_true c
    refine ⟨_, rfl, d, _, rfl, dg_left hd, _, rfl, d, _, rfl, dg_left hd, _, rfl, _, _, rfl, rfl, ⟨hm, hm2⟩, sm 2, fun g hg => ?_⟩
    have hdg := (upd_ne (o := .tup [.int left, .int (left / many)]) (ne_of_none hd hg)).trans hd
    have k1 : Kx K [d] H (upd H g (.tup [.int left, .int (left / many)])) := .ext (Ext.new hg)
    refine ⟨g, _, rfl, SqT.of upd_same, rfl, _, _, rfl, _, _, rfl, _, rfl, d, _, rfl, dp_left hdg, rfl, ?_⟩
    refine ⟨_, rfl, _, rfl, _, _, rfl, rfl, hm, ?_⟩
    have k2 := Kx.putK (kvs' := dkv cl at_ (left / many) used) k1 List.mem_cons_self hdg
    refine q _ _ (Int.emod_nonneg _ (by omega)) (Int.emod_lt_of_pos _ hm) k2 ⟨at_, left / many, used, cs, upd_same, k2.lst hcl, hne, hcs, h1, ediv_nn h2 hm, h3, by omega, by omega⟩
  · refine ⟨_, rfl, d, _, rfl, dg_cells hd, ?_⟩
    have lc : 0 < ((cs.map V.int).length : Int) := by
      have := List.length_pos_iff.mpr hne
      rw [List.length_map]
      omega
    refine ⟨_, rfl, _, rfl, d, _, rfl, dg_at hd, _, rfl, _, _, rfl, .inl ⟨_, SqL.of hcl, rfl⟩, _, _, rfl, rfl, lc, ?_⟩
    obtain ⟨cell, hcell⟩ : ∃ cell, atI (cs.map V.int) (at_ % ((cs.map V.int).length : Int)) = some (.int cell) := by
      have e1 := Int.emod_nonneg at_ (by omega : ((cs.map V.int).length : Int) ≠ 0)
      have e2 := Int.emod_lt_of_pos at_ lc
      have e3 : (at_ % ((cs.map V.int).length : Int)).toNat < cs.length := by
        rw [List.length_map] at e1 e2 ⊢
        omega
      refine ⟨cs[(at_ % ((cs.map V.int).length : Int)).toNat], ?_⟩
      have e4 := atI_nat (xs := cs.map V.int) (j := (at_ % ((cs.map V.int).length : Int)).toNat) (v := .int cs[(at_ % ((cs.map V.int).length : Int)).toNat]) (by rw [List.getElem?_map, List.getElem?_eq_getElem e3]; rfl)
      rw [Int.toNat_of_nonneg e1] at e4
      exact e4
    refine ⟨cl, _, _, _, rfl, rfl, SqL.of hcl, hcell, ?_⟩
    refine ⟨_, rfl, d, _, rfl, dg_at hd, _, _, rfl, rfl, _, rfl, d, _, rfl, dp_at hd, ?_⟩
    have k1 := Kx.putK (K := K) (M := [d]) (kvs' := dkv cl (at_ + 1) left used) .refl List.mem_cons_self hd
    have hd1 : (upd H d (.dK (dkv cl (at_ + 1) left used))) d = _ := upd_same
    generalize upd H d (.dK (dkv cl (at_ + 1) left used)) = H1 at k1 hd1
    have hcl1 := k1.lst hcl
    have fin1 : ∀ c : Int, 0 ≤ c → DrawAt (upd H1 d (.dK (dkv cl (at_ + 1) c used))) ⟨d, cl⟩ n := fun c hc =>
      ⟨at_ + 1, c, used, cs, upd_same, (Kx.putK (kvs' := dkv cl (at_ + 1) c used) k1 List.mem_cons_self hd1).lst hcl, hne, hcs, by omega, hc, h3, by omega, by omega⟩
    refine ⟨_, rfl, _, _, rfl, rfl, ⟨by decide, by decide, by decide⟩, _, _, rfl, rfl, _, rfl, ?_⟩
    refine (fun fall => ifC (fun c => ⟨_, rfl, d, _, rfl, dg_at hd1, _, rfl, _, _, rfl, .inl ⟨_, SqL.of hcl1, rfl⟩, _, _, rfl, rfl, _, rfl, ifC (fun c2 => ?_) fun c2 => fall⟩) fun c => fall) ?_
    · refine ⟨_, rfl, d, _, rfl, dg_used hd1, _, _, rfl, rfl, _, rfl, d, _, rfl, dp_used hd1, ?_⟩
      have k2 := Kx.putK (kvs' := dkv cl (at_ + 1) left (used + 1)) k1 List.mem_cons_self hd1
      have hd2 : (upd H1 d (.dK (dkv cl (at_ + 1) left (used + 1)))) d = _ := upd_same
      have hcl2 := k2.lst hcl
      generalize upd H1 d (.dK (dkv cl (at_ + 1) left (used + 1))) = H2 at k2 hd2 hcl2
      refine ⟨_, rfl, _, _, rfl, rfl, (by decide : (0 : Int) < 1000000007), _, rfl, d, _, rfl, dg_used hd2, _, _, rfl, rfl, .inl ⟨by decide, by decide⟩, _, rfl, d, _, rfl, dg_used hd2, _, _, rfl, rfl, .inr ⟨by omega, by omega⟩, _, _, rfl, rfl, ?_⟩
      refine ⟨_, rfl, d, _, rfl, dg_at hd2, _, rfl, d, _, rfl, dg_used hd2, sm 2, fun g hg => ⟨g, rfl, ⟨_, SqT.of upd_same⟩, for_tup (xs := [.int (at_ + 1), .int (used + 1)]) (fun i σ H' => (∃ nb o5, σ = [some (.ref d), some (.int many), some (.int cell), some (.ref cl), some (.int nb), o5]) ∧ H' = upd H2 g (.tup [.int (at_ + 1), .int (used + 1)]))
        ⟨⟨_, _, rfl⟩, rfl⟩ (fun i σ H' _ p => by rw [p.2]; exact SqT.of upd_same) ?_ ?_⟩⟩
      · intro i x σ H' hx p
        obtain ⟨⟨nb, o5, rfl⟩, rfl⟩ := p
        obtain ⟨kk, rfl⟩ : ∃ kk : Int, x = .int kk := by
          match i, hx with
          | 0, hx => exact ⟨_, (Option.some.inj hx).symm⟩
          | 1, hx => exact ⟨_, (Option.some.inj hx).symm⟩
        have b1 : 0 ≤ kk % 1000 := Int.emod_nonneg _ (by decide)
        have b2 : kk % 1000 < 1000 := Int.emod_lt_of_pos _ (by decide)
        refine ⟨_, rfl, _, rfl, _, _, rfl, rfl, .inl ⟨by decide, by decide⟩, _, _, rfl, rfl, _, _, rfl, rfl, _, _, rfl, rfl, .inr ⟨by decide, by decide⟩, _, _, rfl, rfl, (by decide : (0 : Int) < 2147483647), ?_⟩
        refine ⟨_, rfl, _, rfl, _, _, rfl, rfl, (by decide : (0 : Int) < 1000), _, _, rfl, rfl, .inl ⟨by decide, by decide⟩, _, _, rfl, rfl, _, _, rfl, rfl, .inr ⟨by omega, by omega⟩, _, _, rfl, rfl, (by decide : (0 : Int) < 2147483629), ?_⟩
        exact ⟨⟨_, _, rfl⟩, rfl⟩
      · intro σ H' p
        obtain ⟨⟨nb, o5, rfl⟩, rfl⟩ := p
        refine ⟨_, rfl, _, _, rfl, rfl, ⟨by decide, by decide⟩, _, rfl, _, _, rfl, rfl, hm, ?_⟩
        have k3 : Kx K [d] H (upd H2 g (.tup [.int (at_ + 1), .int (used + 1)])) := k2.trans (.ext (Ext.new hg))
        exact q _ _ (Int.emod_nonneg _ (by omega)) (Int.emod_lt_of_pos _ hm) k3 ⟨at_ + 1, left, used + 1, cs, (Ext.new hg) _ _ hd2, k3.lst hcl, hne, hcs, by omega, h2, by omega, by omega, by omega⟩
    · have c3 : (0 : Int) ≤ cell := Int.le_trans (by decide) (of_decide_eq_true (by assumption) : (10 : Int) ^ ((18 : Int).toNat) ≤ cell)
      refine ⟨_, rfl, _, rfl, _, _, rfl, rfl, ⟨hm, hm2⟩, _, rfl, d, _, rfl, dp_left hd1, ?_⟩
      refine ⟨_, rfl, _, rfl, _, _, rfl, rfl, hm, ?_⟩
      exact q _ _ (Int.emod_nonneg _ (by omega)) (Int.emod_lt_of_pos _ hm) (Kx.putK k1 List.mem_cons_self hd1) (fin1 _ (ediv_nn c3 hm))
end
end K21
/-! K21F: what is drawn: deeds, modes, rules, worlds. -/
namespace K21
open PySem PySem.Spec PyProof.Rows L2 LamX He
section
variable {K : PySem.W.Frag} {M : List Addr} {H H1 H2 : Hp} {D : Addr} {xs ys : List V}
theorem tk_lst (h : H D = some (.lst xs)) : TupK H (upd H D (.lst ys)) := fun a zs => by
  have f : ∀ o, (o = HO.tup zs ∨ ∃ q, o = HO.frz q (.tup zs)) → H a = some o → upd H D (.lst ys) a = some o := fun o ho e => by
    have hne : a ≠ D := fun z => by
      rw [z, h] at e
      rcases ho with rfl | ⟨q, rfl⟩ <;> cases e
    rw [upd_ne hne]
    exact e
  exact ⟨fun e => f _ (.inl rfl) e, fun o e => f _ (.inr ⟨o, rfl⟩) e⟩
/-- a list that came since is written -/
theorem Kx.lstw (k : Kx K M H H1) (h : H D = none) (h1 : H1 D = some (.lst xs)) : Kx K M H (upd H1 D (.lst ys)) := by
  refine ⟨fun b o e c => (upd_ne (ne_of_none e h)).trans (k.kp b o e c), fun t => ?_⟩
  have t1 := k.tab t
  intro q hq
  obtain ⟨ps, a1, a2, a3⟩ := t1 q hq
  refine ⟨ps, (upd_ne (ne_of a1 h1 (by intro z; cases z))).trans a1, a2, fun pos cv hc => ?_⟩
  obtain ⟨c, e1, e2⟩ := a3 pos cv hc
  exact ⟨c, e1, (upd_ne (ne_of e2 h1 (by intro z; unfold CodeO at z; cases z))).trans e2⟩
theorem DrawAt.lstw {d : Dr} {n : Nat} (h : DrawAt H1 d n) (h0 : H D = none) (hc : ∃ zs, H d.cl = some (.lst zs)) (h1 : H1 D = some (.lst xs)) : DrawAt (upd H1 D (.lst ys)) d n := by
  obtain ⟨a1, l1, u1, cs, h2, h3, h4⟩ := h
  obtain ⟨zs, hz⟩ := hc
  exact ⟨a1, l1, u1, cs, (upd_ne (ne_of h2 h1 (by intro z; cases z))).trans h2, (upd_ne (ne_of_none hz h0)).trans h3, h4⟩
end
section
variable {P : Program} {w : World} {K : PySem.W.Frag} {mg : Str → Option Value} {base : Heap}
def spPick (K : PySem.W.Frag) : Sp := fun vs H Q _ => ∃ (d : Dr) (a : Addr) (n : Nat) (xs : List V), vs = [.ref d.d, .ref a] ∧ DrawAt H d (n + 1) ∧ SqL K H a xs ∧ xs ≠ [] ∧ xs.length < 1073741824 ∧ ∀ (j : Nat) v H', xs[j]? = some v → Kx K [d.d] H H' → DrawAt H' d n → Q v H'
theorem ok_pick (Z : Tx K mg) : Cal P w K mg base CX0 2 "_law_pick" p_law_pick (spPick K) := by
  obtain ⟨fd, F⟩ := Z.fn_law_pick
  refine cal_of Z.g_law_pick F sc_law_pick (fun _ _ _ _ _ _ us hl => match us, hl with | [_, _], _ => rfl) (by intro vs H Q E h; repeat (first | (obtain ⟨rfl, _⟩ := h; rfl) | (obtain ⟨_, h⟩ := h))) fun cdv A outer s H vs Q E hr h => ?_
  have c_law_next := ok_next (P := P) (w := w) (base := base) Z
  refine ⟨_, PSs.nox (pss_one (ps_ret (pe_ix ix_list (pv 1) (pe_cal c_law_next hr pass0 (pa_cons (pv 0) (pa_cons (pe_callB call_len (by rfl) Z.f_len bt_len (pa_cons (pv 1) pa_nil)) pa_nil))) (fun _ _ => rfl)))), ?_⟩
  obtain ⟨d, a, n, xs, rfl, hd, ha, hne, hl, q⟩ := h
  have hp := List.length_pos_iff.mpr hne
  refine ⟨_, rfl, _, rfl, _, rfl, _, _, rfl, .inl ⟨xs, ha, rfl⟩, d, n, xs.length, rfl, by omega, by omega, hd, fun i H1 h0 h1 k1 hd1 => ?_⟩
  have e1 : i.toNat < xs.length := by omega
  refine ⟨a, xs, i, xs[i.toNat], rfl, rfl, k1.sql ha, ?_, q i.toNat _ H1 (List.getElem?_eq_getElem e1) k1 hd1⟩
  have e2 := atI_nat (xs := xs) (j := i.toNat) (List.getElem?_eq_getElem e1)
  rw [Int.toNat_of_nonneg h0] at e2
  exact e2
def spDeedL (K : PySem.W.Frag) : Sp := fun vs H Q _ => ∃ (d : Dr) (n : Nat), vs = [.ref d.d, .int 3] ∧ DrawAt H d (n + 4) ∧ ∀ v (x : Deed) H', x.ok → Kx K [d.d] H H' → DrawAt H' d n → Dt K H' v x.d → Q v H'
theorem ok_deed (Z : Tx K mg) : Cal P w K mg base CX0 3 "_law_deed" p_law_deed (spDeedL K) := by
  obtain ⟨fd, F⟩ := Z.fn_law_deed
  refine cal_of Z.g_law_deed F sc_law_deed (fun _ _ _ _ _ _ us hl => match us, hl with | [_, _], _ => rfl) (by intro vs H Q E h; repeat (first | (obtain ⟨rfl, _⟩ := h; rfl) | (obtain ⟨_, h⟩ := h))) fun cdv A outer s H vs Q E hr h => ?_
  have c_law_next := ok_next (P := P) (w := w) (base := base) Z
  have c_law_pick := ok_pick (P := P) (w := w) (base := base) Z
  refine ⟨_, PSs.nox (pss_cons (ps_set (i := 2) sc_law_deed.nd rfl (Or.inl rfl) (pe_cal c_law_next hr pass0 (pa_cons (pv 0) (pa_cons pe_int pa_nil))))
    (pss_cons (ps_if (pt_cmpR op_eq (pv 2) pe_int (nomark _))
      (pss_one (ps_ret (pe_tupD (pa_cons pe_str pa_nil))))
      pss_nil)
    (pss_cons (ps_if (pt_cmpR op_eq (pv 2) pe_int (nomark _))
      (pss_one (ps_ret (pe_tupD (pa_cons pe_str (pa_cons (pe_op op_sub (pe_cal c_law_next hr pass0 (pa_cons (pv 0) (pa_cons (pe_op op_add (pe_op op_mul pe_int (pv 1)) pe_int) pa_nil))) (pv 1)) pa_nil)))))
      pss_nil)
    (pss_cons (ps_if (pt_cmpR op_lt (pv 2) pe_int (nomark _))
      (pss_one (ps_ret (pe_tupD (pa_cons pe_str (pa_cons (pe_cal c_law_next hr pass0 (pa_cons (pv 0) (pa_cons (pe_op op_add (pv 1) pe_int) pa_nil))) pa_nil)))))
      pss_nil)
    (pss_cons (ps_set (i := 3) sc_law_deed.nd rfl (Or.inl rfl) (pe_op op_add pe_int (pe_cal c_law_next hr pass0 (pa_cons (pv 0) (pa_cons pe_int pa_nil)))))
    (pss_one (ps_ret (pe_tupD (pa_cons pe_str (pa_cons (pe_cal c_law_pick hr pass0 (pa_cons (pv 0) (pa_cons (pe_lst (pa_cons (pv 3) (pa_cons (pe_cal c_law_next hr pass0 (pa_cons (pv 0) (pa_cons (pe_op op_add (pv 3) pe_int) pa_nil))) pa_nil))) pa_nil))) (pa_cons (pv 3) pa_nil))))))))))), ?_⟩
  obtain ⟨d, n, rfl, hd, q⟩ := h
  refine ⟨_, rfl, d, n + 3, 6, rfl, by decide, by decide, hd, fun i H1 i0 i1 k1 hd1 => ?_⟩
  refine ⟨_, rfl, rfl, _, rfl, ifC (fun c => ?_) fun c => ?_⟩
  · exact ⟨[.str "hold"], .cons (.str _) .nil, sm 1, fun u H2 k2 hu => q u .hold H2 trivial (k1.trans (.ext k2)) ((hd1.less (by omega)).ext k2) hu⟩
  refine ⟨_, rfl, rfl, _, rfl, ifC (fun c => ?_) fun c => ?_⟩
  · refine ⟨_, rfl, _, rfl, _, _, rfl, rfl, .inl ⟨by decide, by decide⟩, _, _, rfl, rfl, d, n + 2, _, rfl, by decide, by decide, hd1, fun j H2 j0 j1 k2 hd2 => ?_⟩
    have j1' : j < 7 := j1
    refine ⟨_, rfl, _, _, rfl, rfl, [.str "shift", .int (j - 3)], .cons (.str _) (.cons (.int _) .nil), sm 2, fun u H3 k3 hu => ?_⟩
    exact q u (.shift (j - 3)) H3 ⟨by omega, by omega⟩ (k1.trans (k2.trans (.ext k3))) ((hd2.less (by omega)).ext k3) hu
  refine ⟨_, rfl, _, _, rfl, rfl, _, rfl, ifC (fun c => ?_) fun c => ?_⟩
  · refine ⟨_, rfl, _, rfl, _, _, rfl, rfl, d, n + 2, _, rfl, by decide, by decide, hd1, fun j H2 j0 j1 k2 hd2 => ?_⟩
    have j1' : j < 6 := j1
    refine ⟨[.str "run", .int j], .cons (.str _) (.cons (.int _) .nil), sm 2, fun u H3 k3 hu => ?_⟩
    exact q u (.run j) H3 ⟨by omega, by omega⟩ (k1.trans (k2.trans (.ext k3))) ((hd2.less (by omega)).ext k3) hu
  refine ⟨_, rfl, d, n + 2, 3, rfl, by decide, by decide, hd1, fun j H2 j0 j1 k2 hd2 => ?_⟩
  refine ⟨_, _, rfl, rfl, _, rfl, _, rfl, _, rfl, _, rfl, _, _, rfl, rfl, d, n + 1, _, rfl, by show 0 < 1 + j + 1; omega, by show 1 + j + 1 < 1073741824; omega, hd2, fun i2 H3 g0 g1 k3 hd3 => ?_⟩
  have g1' : i2 < 1 + j + 1 := g1
  refine ⟨sm 2, fun l hl => ?_⟩
  have k4 : Ext H3 (upd H3 l (.lst [.int (1 + j), .int i2])) := Ext.new hl
  refine ⟨d, l, n, _, rfl, hd3.ext k4, SqL.of upd_same, by simp, (by show (2 : Nat) < 1073741824; decide), fun m v H5 hv k5 hd5 => ?_⟩
  obtain ⟨b, rfl, b0, b1⟩ : ∃ b : Int, v = .int b ∧ 0 ≤ b ∧ b ≤ 1 + j := by
    match m, hv with
    | 0, hv => exact ⟨_, (Option.some.inj hv).symm, by omega, by omega⟩
    | 1, hv => exact ⟨_, (Option.some.inj hv).symm, by omega, by omega⟩
  refine ⟨_, rfl, [.str "jump", .int b, .int (1 + j)], .cons (.str _) (.cons (.int _) (.cons (.int _) .nil)), sm 3, fun u H6 k6 hu => ?_⟩
  exact q u (.jump b (1 + j)) H6 ⟨by omega, by omega, by omega, by omega⟩ (k1.trans (k2.trans (k3.trans ((Kx.ext k4).trans (k5.trans (.ext k6)))))) (hd5.ext k6) hu
/-! ### _law_mode -/
def spModeL (K : PySem.W.Frag) : Sp := fun vs H Q _ => ∃ (d : Dr) (n m : Nat), vs = [.ref d.d, .int m, .int 3] ∧ 1 ≤ m ∧ m ≤ 2 ∧ DrawAt H d (n + 40) ∧ ∀ v (x : Md) H', x.ok m → Kx K [d.d] H H' → DrawAt H' d n → Dt K H' v x.d → Q v H'
theorem ok_mode (Z : Tx K mg) : Cal P w K mg base CX0 4 "_law_mode" p_law_mode (spModeL K) := by
  obtain ⟨fd, F⟩ := Z.fn_law_mode
  refine cal_of Z.g_law_mode F sc_law_mode (fun _ _ _ _ _ _ us hl => match us, hl with | [_, _, _], _ => rfl) (by intro vs H Q E h; repeat (first | (obtain ⟨rfl, _⟩ := h; rfl) | (obtain ⟨_, h⟩ := h))) fun cdv A outer s H vs Q E hr h => ?_
  have c_law_next := ok_next (P := P) (w := w) (base := base) Z
  have c_law_pick := ok_pick (P := P) (w := w) (base := base) Z
  have c_law_deed := ok_deed (P := P) (w := w) (base := base) Z
  refine ⟨_, PSs.nox (pss_cons (ps_par (i := 3) (j := 4) rfl sc_law_mode.nd rfl rfl (by decide) rfl rfl (pa_cons (pe_lst pa_nil) (pa_cons (pe_op op_sub pe_int (pe_cal c_law_next hr pass0 (pa_cons (pv 0) (pa_cons (pe_op op_mul pe_int (pv 2)) pa_nil)))) pa_nil)) (by rfl))
    (pss_cons (ps_for PassesOwn.never rfl (pi_range1 (by rfl) Z.f_range (pa_cons (pe_cal c_law_next hr pass0 (pa_cons (pv 0) (pa_cons pe_int pa_nil))) pa_nil)) (pg_name (i := 5) sc_law_mode.nd rfl (Or.inl rfl))
      (pss_cons (ps_expr (pe_bm PySem.F.plainAttrs_list PySem.F.slot_list_append PySem.F.type_list_append mt_append (pv 3) (pa_cons (pv 4) pa_nil)))
        (pss_one (ps_set (i := 4) sc_law_mode.nd rfl (Or.inl rfl) (pe_op op_add (pe_op op_add (pv 4) pe_int) (pe_cal c_law_next hr pass0 (pa_cons (pv 0) (pa_cons (pe_op op_mul pe_int (pv 2)) pa_nil))))))))
    (pss_cons (ps_set (i := 6) sc_law_mode.nd rfl (Or.inl rfl) (pe_callTy call_tupleL (by rfl) Z.f_tuple bt_tuple (pa_cons (pe_lc (own := [("_law_k", 5)]) (g := gName 5) rfl sc_law_mode.nd (pi_range1 (by rfl) Z.f_range (pa_cons (pe_op op_add (pe_callB call_len (by rfl) Z.f_len bt_len (pa_cons (pv 3) pa_nil)) pe_int) pa_nil)) (blkOk_by (own := [("_law_k", 5)]) (N := n_law_mode) (sc := defScope s_law_mode) (by decide +kernel)) (fun _ _ _ _ _ => (pg_name (i := 5) sc_law_mode.nd rfl (Or.inl rfl))) (fun _ _ _ _ _ => pts_nil) (fun _ _ _ _ _ => (pe_tupK K (pa_cons (pe_cal c_law_deed hr pass0 (pa_cons (pv 0) (pa_cons (pv 2) pa_nil))) (pa_cons (pe_cal c_law_next hr pass0 (pa_cons (pv 0) (pa_cons (pv 1) pa_nil))) pa_nil))))) pa_nil)))
    (pss_cons (ps_set (i := 7) sc_law_mode.nd rfl (Or.inl rfl) (pe_cal c_law_pick hr pass0 (pa_cons (pv 0) (pa_cons (pe_lst (pa_cons (pe_tupD (pa_cons pe_str pa_nil)) (pa_cons (pe_tupD (pa_cons pe_str pa_nil)) (pa_cons (pe_tupD (pa_cons pe_str (pa_cons (pe_op op_sub (pe_cal c_law_next hr pass0 (pa_cons (pv 0) (pa_cons pe_int pa_nil))) pe_int) pa_nil))) pa_nil)))) pa_nil))))
    (pss_one (ps_ret (pe_tupD (pa_cons (pe_callTy call_tupleL (by rfl) Z.f_tuple bt_tuple (pa_cons (pv 3) pa_nil)) (pa_cons (pv 6) (pa_cons (pe_tupD (pa_cons (pv 7) (pa_cons (pe_cal c_law_next hr pass0 (pa_cons (pv 0) (pa_cons (pv 1) pa_nil))) pa_nil))) pa_nil)))))))))), ?_⟩
  obtain ⟨d, n, m, rfl, m1, m2, hd, q⟩ := h
  refine ⟨Nat.zero_le _, fun L hL => ?_⟩
  have kL : Ext H (upd H L (.lst [])) := Ext.new hL
  refine ⟨_, rfl, _, rfl, _, _, rfl, rfl, .inl ⟨by decide, by decide⟩, d, n + 39, _, rfl, by decide, by decide, hd.ext kL, fun i0 H1 a0 a1 k1 hd1 => ?_⟩
  have a1' : i0 < 12 := a1
  refine ⟨_, _, rfl, rfl, _, _, rfl, ?_⟩
  refine ⟨_, rfl, d, n + 38, 4, rfl, by decide, by decide, hd1, fun j H2 b0 b1 k2 hd2 => ?_⟩
  have K2 : Kx K [d.d] H H2 := (Kx.ext kL).trans (k1.trans k2)
  have hl2 : H2 L = some (.lst []) := (k1.trans k2).lst upd_same
  refine ⟨j, rfl, by omega, by omega, for_range (n := j.toNat) (fun i σ H' => ∃ (cs : List Int) (here : Int) (o5 o6 o7 : Option V), σ = [some (.ref d.d), some (.int m), some (.int 3), some (.ref L), some (.int here), o5, o6, o7] ∧ Kx K [d.d] H H' ∧ H' L = some (.lst (cs.map V.int)) ∧ DrawAt H' d (n + 37 - i) ∧ cs.length = i ∧ (∀ c ∈ cs, -12 ≤ c ∧ c < here) ∧ cs.Pairwise (· < ·) ∧ -12 ≤ here ∧ here ≤ 10 * i)
    ⟨[], _, _, _, _, rfl, K2, hl2, hd2.less (by omega), rfl, by simp, .nil, by omega, by omega⟩ ?_ ?_⟩
  · intro i σ H' hi p
    obtain ⟨cs, here, o5, o6, o7, rfl, k', hl', hd', hlen, hrng, hasc, hlo, hhi⟩ := p
    have hj : j < 4 := b1
    refine ⟨_, rfl, .inl ⟨rfl, _, SqL.of hl'⟩, _, rfl, L, _, _, rfl, rfl, hl', ?_, ?_⟩
    · rw [List.length_map, hlen]
      exact Nat.lt_of_lt_of_le (by omega : i < 4) (sm 4)
    have k3 : Kx K [d.d] H (upd H' L (.lst (cs.map V.int ++ [.int here]))) := k'.lstw hL hl'
    have hd3 : DrawAt (upd H' L (.lst (cs.map V.int ++ [.int here]))) d (n + 37 - i) := hd'.lstw hL hd.there hl'
    refine ⟨_, rfl, _, _, rfl, rfl, _, rfl, _, rfl, _, _, rfl, rfl, .inl ⟨by decide, by decide⟩, d, n + 37 - (i + 1), _, rfl, by decide, by decide, hd3.less (by omega), fun g H4 g0 g1 k4 hd4 => ?_⟩
    have g1' : g < 9 := g1
    refine ⟨_, _, rfl, rfl, cs ++ [here], here + 1 + g, _, _, _, rfl, k3.trans k4, ?_, hd4, ?_, ?_, ?_, ?_, ?_⟩
    · rw [List.map_append]
      exact k4.lst upd_same
    · simp [hlen]
    · intro c hc
      rcases List.mem_append.mp hc with hc | hc
      · have := hrng c hc
        omega
      · rw [List.mem_singleton.mp hc]
        omega
    · rw [List.pairwise_append]
      refine ⟨hasc, List.pairwise_singleton _ _, fun a ha b hb => ?_⟩
      rw [List.mem_singleton.mp hb]
      exact (hrng a ha).2
    · omega
    · omega
  · intro σ H' p
    obtain ⟨cs, here, o5, o6, o7, rfl, k', hl', hd', hlen, hrng, hasc, hlo, hhi⟩ := p
    have hj : j < 4 := b1
    have hj2 : cs.length ≤ 3 := by omega
    refine ⟨_, rfl, _, _, rfl, .inl ⟨_, SqL.of hl', rfl⟩, _, _, rfl, rfl, _, rfl, ?_, ?_, fun D hD => lc_range (n := (((cs.map V.int).length : Int) + 1).toNat) (fun i H5 => ∃ (vs : List V) (es : List En), H5 D = some (.lst vs) ∧ DtAll K H5 vs (es.map En.d) ∧ es.length = i ∧ (∀ e ∈ es, e.ok m) ∧ Kx K [d.d] H' H5 ∧ DrawAt H5 d (n + 33 - 5 * i))
      ⟨[], [], upd_same, .nil, rfl, by simp, .ext (Ext.new hD), (hd'.ext (Ext.new hD)).less (by omega)⟩ ?_ ?_⟩
    · rw [List.length_map]; omega
    · rw [List.length_map]; omega
    · intro i H5 hi p
      have hi' : i < cs.length + 1 := by
        rw [List.length_map] at hi
        omega
      obtain ⟨vs, es, e1, e2, e3, e4, e5, e6⟩ := p
      refine ⟨rfl, _, rfl, _, rfl, d, n + 33 - 5 * i - 4, rfl, e6.less (by omega), fun v x H6 xo k6 hd6 hx6 => ?_⟩
      refine ⟨_, rfl, _, rfl, d, n + 33 - 5 * (i + 1), m, rfl, by omega, by omega, hd6.less (by omega), fun g H7 g0 g1 k7 hd7 => ?_⟩
      refine ⟨[x.d, .int g], .cons (k7.dt hx6) (.cons (.int _) .nil), sm 2, fun u H8 k8 hu => ?_⟩
      have k58 : Kx K [d.d] H5 H8 := k6.trans (k7.trans (.ext k8))
      have e18 := k58.lst e1
      refine ⟨vs, e18, ?_, vs ++ [u], es ++ [⟨x, g⟩], upd_same, ?_, by simp [e3], ?_, (e5.trans k58).lstw hD e18, ?_⟩
      · have hl : vs.length = es.length := by rw [e2.length, List.length_map]
        rw [hl, e3]
        exact Nat.lt_of_lt_of_le (by omega : i < 4) (sm 4)
      · rw [List.map_append]
        exact DtAll.tk (tk_lst e18) _ _ ((DtAll.tk k58.tk _ _ e2).append (.cons hu .nil))
      · intro e he
        rcases List.mem_append.mp he with he | he
        · exact e4 e he
        · rw [List.mem_singleton.mp he]
          exact ⟨xo, g0, g1⟩
      · exact (hd7.ext k8).lstw hD hd'.there e18
    · intro H5 p
      obtain ⟨vs, es, e1, e2, e3, e4, e5, e6⟩ := p
      have e3' : es.length = cs.length + 1 := by
        rw [e3, List.length_map]
        omega
      refine ⟨D, vs, _, rfl, SqL.of e1, e2, fun ve H6 k6 hve => ?_⟩
      have hd6 := (e6.less (by rw [← e3, e3']; omega : n + 13 ≤ _)).ext k6
      refine ⟨_, rfl, [.str "hold"], .cons (.str _) .nil, sm 1, fun w0 H7 k7 hw0 => ?_⟩
      refine ⟨[.str "hold"], .cons (.str _) .nil, sm 1, fun w1 H8 k8 hw1 => ?_⟩
      refine ⟨_, rfl, d, n + 12, 3, rfl, by decide, by decide, (hd6.ext k7).ext k8, fun g H9 g0 g1 k9 hd9 => ?_⟩
      refine ⟨_, _, rfl, rfl, [.str "shift", .int (g - 1)], .cons (.str _) (.cons (.int _) .nil), sm 2, fun w2 H10 k10 hw2 => ?_⟩
      refine ⟨sm 3, fun l hl => ?_⟩
      have k11 : Ext H10 (upd H10 l (.lst [w0, w1, w2])) := Ext.new hl
      refine ⟨d, l, n + 11, _, rfl, ((hd9.ext k10).ext k11).less (by omega), SqL.of upd_same, by simp, (by show (3 : Nat) < 1073741824; decide), fun j2 v H12 hv k12 hd12 => ?_⟩
      have kA : Kx K [d.d] H7 H12 := (Kx.ext k8).trans (k9.trans ((Kx.ext k10).trans ((Kx.ext k11).trans k12)))
      have kB : Kx K [d.d] H8 H12 := k9.trans ((Kx.ext k10).trans ((Kx.ext k11).trans k12))
      have kC : Kx K [d.d] H10 H12 := (Kx.ext k11).trans k12
      obtain ⟨dd, hdd, ddo, dds⟩ : ∃ dd : Deed, Dt K H12 v dd.d ∧ dd.ok ∧ dd.still = true := by
        match j2, hv with
        | 0, hv => exact ⟨.hold, by rw [← Option.some.inj hv]; exact kA.dt hw0, trivial, rfl⟩
        | 1, hv => exact ⟨.hold, by rw [← Option.some.inj hv]; exact kB.dt hw1, trivial, rfl⟩
        | 2, hv => exact ⟨.shift (g - 1), by rw [← Option.some.inj hv]; exact kC.dt hw2, ⟨by omega, by omega⟩, rfl⟩
      have KC : Kx K [d.d] H5 H12 := (Kx.ext k6).trans ((Kx.ext k7).trans kA)
      have hl12 : H12 L = some (.lst (cs.map V.int)) := (e5.trans KC).lst hl'
      refine ⟨_, rfl, L, _, cs.map PyData.int, rfl, SqL.of hl12, DtAll.ofInts _, fun vc H13 k13 hvc => ?_⟩
      refine ⟨_, rfl, _, rfl, _, rfl, _, rfl, d, n, m, rfl, by omega, by omega, (hd12.ext k13).less (by omega), fun g2 H14 f0 f1 k14 hd14 => ?_⟩
      refine ⟨[dd.d, .int g2], .cons (k14.dt (k13.dt hdd)) (.cons (.int _) .nil), sm 2, fun vm H15 k15 hvm => ?_⟩
      have kE : Kx K [d.d] H12 H15 := (Kx.ext k13).trans (k14.trans (.ext k15))
      have kF : Kx K [d.d] H13 H15 := k14.trans (.ext k15)
      refine ⟨[.tuple (cs.map .int), .tuple (es.map En.d), .tuple [dd.d, .int g2]], .cons (kF.dt hvc) (.cons (kE.dt (kA.dt (k7.dt hve))) (.cons hvm .nil)), sm 3, fun u H16 k16 hu => ?_⟩
      refine q u ⟨cs, es, ⟨dd, g2⟩⟩ H16 ⟨by show cs.length ≤ 4; omega, fun c hc => ?_, hasc, e3', e4, ⟨ddo, f0, f1⟩, dds⟩ (k'.trans (e5.trans (KC.trans (kE.trans (.ext k16))))) ((hd14.ext k15).ext k16) hu
      have := hrng c hc
      omega
end
end K21
/-! K21B: drawn rules, worlds; the rounds that can be done. -/
namespace K21
open PySem PySem.Spec PyProof.Rows L2 LamX He
section
variable {P : Program} {w : World} {K : PySem.W.Frag} {mg : Str → Option Value} {base : Heap}
def spRuleL (K : PySem.W.Frag) : Sp := fun vs H Q _ => ∃ (d : Dr) (n : Nat), vs = [.ref d.d, .int 2, .int 3] ∧ DrawAt H d (n + 90) ∧ ∀ v (r : List Md) H', rOk r → Kx K [d.d] H H' → DrawAt H' d n → Dt K H' v (rD r) → Q v H'
theorem ok_rule_ (Z : Tx K mg) : Cal P w K mg base CX0 5 "_law_rule" p_law_rule (spRuleL K) := by
  obtain ⟨fd, F⟩ := Z.fn_law_rule
  refine cal_of Z.g_law_rule F sc_law_rule (fun _ _ _ _ _ _ us hl => match us, hl with | [_, _, _], _ => rfl) (by intro vs H Q E h; repeat (first | (obtain ⟨rfl, _⟩ := h; rfl) | (obtain ⟨_, h⟩ := h))) fun cdv A outer s H vs Q E hr h => ?_
  have c_law_next := ok_next (P := P) (w := w) (base := base) Z
  have c_law_mode := ok_mode (P := P) (w := w) (base := base) Z
  refine ⟨_, PSs.nox (pss_cons (ps_set (i := 3) sc_law_rule.nd rfl (Or.inr rfl) (pe_op op_add pe_int (pe_cal c_law_next hr pass0 (pa_cons (pv 0) (pa_cons (pv 1) pa_nil)))))
    (pss_one (ps_ret (pe_callTy call_tupleL (by rfl) Z.f_tuple bt_tuple (pa_cons (pe_lc (own := [("_law_k", 4)]) (g := gName 4) rfl sc_law_rule.nd (pi_range1 (by rfl) Z.f_range (pa_cons (pv 3) pa_nil)) (blkOk_by (own := [("_law_k", 4)]) (N := n_law_rule) (sc := defScope s_law_rule) (by decide +kernel)) (fun _ _ _ _ _ => (pg_name (i := 4) sc_law_rule.nd rfl (Or.inl rfl))) (fun _ _ _ _ _ => pts_nil) (fun _ _ _ _ _ => (pe_cal c_law_mode hr pass0 (pa_cons (pv 0) (pa_cons (pv 3) (pa_cons (pv 2) pa_nil)))))) pa_nil))))), ?_⟩
  obtain ⟨d, n, rfl, hd, q⟩ := h
  refine ⟨_, rfl, _, rfl, d, n + 89, 2, rfl, by decide, by decide, hd, fun g H1 g0 g1 k1 hd1 => ?_⟩
  refine ⟨_, _, rfl, rfl, ?_⟩
  obtain ⟨m, hm, m1, m2⟩ : ∃ m : Nat, (1 + g : Int) = m ∧ 1 ≤ m ∧ m ≤ 2 := ⟨(1 + g).toNat, by omega, by omega, by omega⟩
  refine ⟨_, rfl, 1 + g, rfl, by omega, by omega, fun D hD => lc_range (n := (1 + g).toNat) (fun i H5 => ∃ (vs : List V) (es : List Md), H5 D = some (.lst vs) ∧ DtAll K H5 vs (es.map Md.d) ∧ es.length = i ∧ (∀ e ∈ es, e.ok m) ∧ Kx K [d.d] H1 H5 ∧ DrawAt H5 d (n + 89 - 40 * i))
    ⟨[], [], upd_same, .nil, rfl, by simp, .ext (Ext.new hD), (hd1.ext (Ext.new hD)).less (by omega)⟩ ?_ ?_⟩
  · intro i H5 hi p
    obtain ⟨vs, es, e1, e2, e3, e4, e5, e6⟩ := p
    have hi2 : i < 2 := by omega
    refine ⟨rfl, _, rfl, _, rfl, _, rfl, d, n + 89 - 40 * (i + 1), m, by rw [← hm], m1, m2, e6.less (by omega), fun v x H6 xo k6 hd6 hx6 => ?_⟩
    have e18 := k6.lst e1
    refine ⟨vs, e18, ?_, vs ++ [v], es ++ [x], upd_same, ?_, by simp [e3], ?_, (e5.trans k6).lstw hD e18, hd6.lstw hD hd1.there e18⟩
    · have hl : vs.length = es.length := by rw [e2.length, List.length_map]
      rw [hl, e3]
      exact Nat.lt_of_lt_of_le hi2 (sm 2)
    · rw [List.map_append]
      exact DtAll.tk (tk_lst e18) _ _ ((DtAll.tk k6.tk _ _ e2).append (.cons hx6 .nil))
    · intro e he
      rcases List.mem_append.mp he with he | he
      · exact e4 e he
      · rw [List.mem_singleton.mp he]
        exact xo
  · intro H5 p
    obtain ⟨vs, es, e1, e2, e3, e4, e5, e6⟩ := p
    have e3' : es.length = m := by omega
    refine ⟨D, vs, _, rfl, SqL.of e1, e2, fun ve H6 k6 hve => ?_⟩
    refine q ve es H6 ⟨by omega, by omega, by rw [e3']; exact e4⟩ (k1.trans (e5.trans (.ext k6))) ((e6.less (by omega)).ext k6) hve
def spWorldL (K : PySem.W.Frag) : Sp := fun vs H Q _ => ∃ (d : Dr) (n : Nat), vs = [.ref d.d, .int 3] ∧ DrawAt H d (n + 6) ∧ ∀ v (x : Wd) H', x.ok → Kx K [d.d] H H' → DrawAt H' d n → Dt K H' v x.d → Q v H'
theorem ok_world_ (Z : Tx K mg) : Cal P w K mg base CX0 2 "_law_world" p_law_world (spWorldL K) := by
  obtain ⟨fd, F⟩ := Z.fn_law_world
  refine cal_of Z.g_law_world F sc_law_world (fun _ _ _ _ _ _ us hl => match us, hl with | [_, _], _ => rfl) (by intro vs H Q E h; repeat (first | (obtain ⟨rfl, _⟩ := h; rfl) | (obtain ⟨_, h⟩ := h))) fun cdv A outer s H vs Q E hr h => ?_
  have c_law_next := ok_next (P := P) (w := w) (base := base) Z
  refine ⟨_, PSs.nox (pss_cons (ps_set (i := 2) sc_law_world.nd rfl (Or.inl rfl) (pe_op op_sub (pe_op op_sub (pe_cal c_law_next hr pass0 (pa_cons (pv 0) (pa_cons (pe_op op_add (pv 1) pe_int) pa_nil))) pe_int) (pe_cal c_law_next hr pass0 (pa_cons (pv 0) (pa_cons pe_int pa_nil)))))
    (pss_cons (ps_set (i := 3) sc_law_world.nd rfl (Or.inl rfl) (pe_tupD (pa_cons (pe_cal c_law_next hr pass0 (pa_cons (pv 0) (pa_cons (pv 1) pa_nil))) (pa_cons (pe_cal c_law_next hr pass0 (pa_cons (pv 0) (pa_cons (pv 1) pa_nil))) pa_nil))))
    (pss_one (ps_ret (pe_op op_catD (pe_op op_catD (pe_tupD (pa_cons (pv 2) (pa_cons (pe_op op_add (pv 2) (pe_cal c_law_next hr pass0 (pa_cons (pv 0) (pa_cons (pe_op op_add (pv 1) pe_int) pa_nil)))) pa_nil))) (pv 3)) (pe_tupD (pa_cons (pe_cal c_law_next hr pass0 (pa_cons (pv 0) (pa_cons pe_int pa_nil))) pa_nil))))))), ?_⟩
  obtain ⟨d, n, rfl, hd, q⟩ := h
  refine ⟨_, rfl, _, rfl, _, _, rfl, rfl, d, n + 5, _, rfl, by decide, by decide, hd, fun a H1 a0 a1 k1 hd1 => ?_⟩
  have a1' : a < 4 := a1
  refine ⟨_, _, rfl, rfl, _, rfl, d, n + 4, 2, rfl, by decide, by decide, hd1, fun b H2 b0 b1 k2 hd2 => ?_⟩
  refine ⟨_, _, rfl, rfl, ?_⟩
  refine ⟨_, rfl, _, rfl, d, n + 3, 3, rfl, by decide, by decide, hd2, fun c H3 c0 c1 k3 hd3 => ?_⟩
  refine ⟨_, rfl, _, rfl, d, n + 2, 3, rfl, by decide, by decide, hd3, fun e H4 e0 e1 k4 hd4 => ?_⟩
  refine ⟨[.int c, .int e], .cons (.int _) (.cons (.int _) .nil), sm 2, fun ve H5 k5 hve => ?_⟩
  refine ⟨_, rfl, _, rfl, _, rfl, _, rfl, _, _, rfl, rfl, d, n + 1, _, rfl, by decide, by decide, hd4.ext k5, fun f H6 f0 f1 k6 hd6 => ?_⟩
  have f1' : f < 4 := f1
  refine ⟨_, _, rfl, rfl, [.int (a - 1 - b), .int (a - 1 - b + f)], .cons (.int _) (.cons (.int _) .nil), sm 2, fun v1 H7 k7 hv1 => ?_⟩
  refine ⟨_, rfl, _, _, hv1, k7.dt (k6.dt hve), sm 4, fun v2 H8 k8 hv2 => ?_⟩
  refine ⟨_, rfl, d, n, 3, rfl, by decide, by decide, (hd6.ext k7).ext k8, fun g H9 g0 g1 k9 hd9 => ?_⟩
  refine ⟨[.int g], .cons (.int _) .nil, sm 1, fun v3 H10 k10 hv3 => ?_⟩
  refine ⟨_, _, k10.dt (k9.dt hv2), hv3, sm 5, fun v4 H11 k11 hv4 => ?_⟩
  exact q v4 ⟨a - 1 - b, a - 1 - b + f, c, e, g⟩ H11 ⟨by show -60 ≤ a - 1 - b; omega, by show a - 1 - b ≤ a - 1 - b + f; omega, by show a - 1 - b + f ≤ 60; omega, c0, by show c ≤ 60; omega, e0, by show e ≤ 60; omega, g0, by show g ≤ 3; omega⟩
    (k1.trans (k2.trans (k3.trans (k4.trans ((Kx.ext k5).trans (k6.trans ((Kx.ext k7).trans ((Kx.ext k8).trans (k9.trans ((Kx.ext k10).trans (.ext k11))))))))))) ((hd9.ext k10).ext k11) hv4
/-! ### _law_rounds -/
def goodE (x : Wd) (ms : Int) : Option Int → Prop
  | none => ms < x.ls
  | some k => 0 - x.el ≤ k ∧ k ≤ x.eh
theorem good_of {x : Wd} {ms : Int} {dr : Int} {er : Option Int} (h1 : x.lo ≤ dr) (h2 : dr ≤ x.hi) (h : goodE x ms er) : goodR x ms (dr, er) = true := by
  unfold goodR
  cases er with
  | none =>
    have h : ms < x.ls := h
    simp [h1, h2, h]
  | some k =>
    obtain ⟨a, b⟩ : 0 - x.el ≤ k ∧ k ≤ x.eh := h
    simp only [Bool.and_eq_true, decide_eq_true_eq]
    exact ⟨⟨h1, h2⟩, a, b⟩
def spRounds (K : PySem.W.Frag) : Sp := fun vs H Q _ => ∃ (v : V) (x : Wd) (ms : Int), vs = [v, .int ms] ∧ Dt K H v x.d ∧ x.ok ∧ ∀ p ys H', Ext H H' → H' p = some (.lst ys) → ys ≠ [] → ys.length ≤ 20000 → (∀ y ∈ ys, ∃ r, goodR x ms r = true ∧ Dt K H' y (Rd.d r)) → Q (.ref p) H'
theorem ok_rounds_ (Z : Tx K mg) : Cal P w K mg base CX0 1 "_law_rounds" p_law_rounds (spRounds K) := by
  obtain ⟨fd, F⟩ := Z.fn_law_rounds
  refine cal_of Z.g_law_rounds F sc_law_rounds (fun _ _ _ _ _ _ us hl => match us, hl with | [_, _], _ => rfl) (by intro vs H Q E h; repeat (first | (obtain ⟨rfl, _⟩ := h; rfl) | (obtain ⟨_, h⟩ := h))) fun cdv A outer s H vs Q E hr h => ?_
  refine ⟨_, PSs.nox (pss_cons (ps_set (i := 2) sc_law_rounds.nd rfl (Or.inl rfl) (pe_listRg rfl (by rfl) Z.f_list (prg_2 (by rfl) Z.f_range (pe_op op_sub pe_int (pe_ix ix_D (pv 0) pe_int (fun _ _ => rfl))) (pe_op op_add (pe_ix ix_D (pv 0) pe_int (fun _ _ => rfl)) pe_int))))
    (pss_cons (ps_mid (ps_if (pt_cmpR op_lt (pv 1) (pe_ix ix_D (pv 0) pe_int (fun _ _ => rfl)) (nomark _))
      (pss_one (ps_set (i := 2) sc_law_rounds.nd rfl (Or.inl rfl) (pe_op op_cat (pe_lst (pa_cons pe_non pa_nil)) (pv 2))))
      pss_nil))
    (pss_cons (ps_set (i := 3) sc_law_rounds.nd rfl (Or.inl rfl) (pe_lst pa_nil))
    (pss_cons (ps_for PassesOwn.never rfl (pi_range2 (by rfl) Z.f_range (pa_cons (pe_ix ix_D (pv 0) pe_int (fun _ _ => rfl)) (pa_cons (pe_op op_add (pe_ix ix_D (pv 0) pe_int (fun _ _ => rfl)) pe_int) pa_nil))) (pg_name (i := 4) sc_law_rounds.nd rfl (Or.inr rfl))
      (pss_one (ps_set (i := 3) sc_law_rounds.nd rfl (Or.inl rfl) (pe_op op_cat (pv 3) (pe_lc (own := [("_law_error", 5)]) (g := gName 5) rfl sc_law_rounds.nd (pi_list (pv 2)) (blkOk_by (own := [("_law_error", 5)]) (N := n_law_rounds) (sc := defScope s_law_rounds) (by decide +kernel)) (fun _ _ _ _ _ => (pg_name (i := 5) sc_law_rounds.nd rfl (Or.inl rfl))) (fun _ _ _ _ _ => pts_nil) (fun _ _ _ _ _ => (pe_tupK K (pa_cons (pv 4) (pa_cons (pv 5) pa_nil)))))))))
    (pss_one (ps_ret (pv 3))))))), ?_⟩
  obtain ⟨v, x, ms, rfl, hv, xo, q⟩ := h
  obtain ⟨o1, o2, o3, o4, o5, o6, o7, o8, o9⟩ := xo
  refine ⟨_, rfl, _, _, _, hv, rfl, rfl, fun u hu => ?_⟩; obtain rfl := hu.int_; clear hu
  refine ⟨_, _, rfl, rfl, ?_⟩
  refine ⟨_, rfl, _, _, _, hv, rfl, rfl, fun u hu => ?_⟩; obtain rfl := hu.int_; clear hu
  refine ⟨_, _, rfl, rfl, _, _, rfl, rfl, ⟨by omega, by omega, by omega, by omega, by omega⟩, fun e0 he0 => ?_⟩
  have k0 : Ext H (upd H e0 (.lst (rgV (0 - x.el) (x.eh + 1)))) := Ext.new he0
  obtain ⟨ers0, er1, er2, er3⟩ : ∃ ers : List (Option Int), rgV (0 - x.el) (x.eh + 1) = ers.map optV ∧ (∀ e ∈ ers, goodE x ms e) ∧ 1 ≤ ers.length ∧ ers.length ≤ 121 := by
    refine ⟨(List.range (x.eh + 1 - (0 - x.el)).toNat).map fun i => some (0 - x.el + (i : Nat)), ?_, ?_, ?_, ?_⟩
    · unfold rgV
      rw [List.map_map]
      rfl
    · intro e he
      obtain ⟨i, hi, rfl⟩ := List.mem_map.mp he
      have := List.mem_range.mp hi
      exact ⟨by omega, by omega⟩
    · rw [List.length_map, List.length_range]
      omega
    · rw [List.length_map, List.length_range]
      omega
  refine ⟨fun σ' H' => ∃ (e : Addr) (ers : List (Option Int)), σ' = [some v, some (.int ms), some (.ref e), none, none, none] ∧ Ext H H' ∧ H' e = some (.lst (ers.map optV)) ∧ (∀ e ∈ ers, goodE x ms e) ∧ 1 ≤ ers.length ∧ ers.length ≤ 122, ?_, ?_⟩
  · refine ⟨_, rfl, ?_⟩
    have hv1 := k0.dt hv
    refine ⟨_, rfl, _, _, _, hv1, rfl, rfl, fun u hu => ?_⟩; obtain rfl := hu.int_; clear hu
    refine ⟨_, _, rfl, rfl, _, rfl, ifC (fun c => ?_) fun c => ?_⟩
    · have c' : ms < x.ls := of_decide_eq_true c
      refine ⟨sm 1, fun g hg => ?_⟩
      have k1 : Ext (upd H e0 (.lst (rgV (0 - x.el) (x.eh + 1)))) (upd (upd H e0 (.lst (rgV (0 - x.el) (x.eh + 1)))) g (.lst [.non])) := Ext.new hg
      refine ⟨_, rfl, g, e0, _, _, rfl, rfl, upd_same, k1 _ _ upd_same, ?_, fun g2 hg2 => ⟨g2, none :: ers0, rfl, (k0.trans k1).trans (Ext.new hg2), ?_, ?_, by simp, by simp; omega⟩⟩
      · rw [er1, List.length_map]
        exact Nat.le_trans (by simp only [List.length_cons, List.length_nil]; omega : _ ≤ 122) (sm 122)
      · rw [upd_same, er1]
        rfl
      · intro e he
        rcases List.mem_cons.mp he with rfl | he
        · exact c'
        · exact er2 e he
    · exact ⟨e0, ers0, rfl, k0, by rw [upd_same, er1], er2, er3.1, by omega⟩
  · rintro σ' H1 ⟨e, ers, rfl, k1, he, f1, f2, f3⟩
    refine ⟨Nat.zero_le _, fun l0 hl0 => ?_⟩
    have k2 : Ext H1 (upd H1 l0 (.lst [])) := Ext.new hl0
    have hv2 := (k1.trans k2).dt hv
    refine ⟨_, rfl, _, _, _, hv2, rfl, rfl, fun u hu => ?_⟩; obtain rfl := hu.int_; clear hu
    refine ⟨_, rfl, _, _, _, hv2, rfl, rfl, fun u hu => ?_⟩; obtain rfl := hu.int_; clear hu
    refine ⟨_, _, rfl, rfl, _, _, rfl, ⟨by omega, by omega, by omega, by omega⟩, for_range (lo := x.lo) (n := (x.hi + 1 - x.lo).toNat) (fun i σ H' => ∃ (l : Addr) (ys : List V) (o4 o5 : Option V), σ = [some v, some (.int ms), some (.ref e), some (.ref l), o4, o5] ∧ Ext H1 H' ∧ H' l = some (.lst ys) ∧ ys.length = i * ers.length ∧ ∀ y ∈ ys, ∃ r, goodR x ms r = true ∧ Dt K H' y (Rd.d r))
      ⟨l0, [], _, _, rfl, k2, upd_same, by simp, by simp⟩ ?_ ?_⟩
    · intro i σ H' hi p
      obtain ⟨l, ys, o4, o5, rfl, k', hl', hlen, hys⟩ := p
      have he' := k' _ _ he
      refine ⟨_, rfl, _, rfl, e, rfl, ⟨_, SqL.of he'⟩, fun D hD => lc_list (xs := ers.map optV) (fun j H5 => ∃ zs : List V, H5 D = some (.lst zs) ∧ Ext H' H5 ∧ zs.length = j ∧ ∀ y ∈ zs, ∃ r, goodR x ms r = true ∧ Dt K H5 y (Rd.d r))
        ⟨[], upd_same, Ext.new hD, rfl, by simp⟩ (fun j H5 _ p => ?_) ?_ ?_⟩
      · obtain ⟨zs, z1, z2, _⟩ := p
        exact SqL.of (z2 _ _ he')
      · intro j y H5 hy p
        obtain ⟨zs, z1, z2, z3, z4⟩ := p
        rw [List.getElem?_map] at hy
        obtain ⟨er, her, rfl⟩ := Option.map_eq_some_iff.mp hy
        have hj : j < ers.length := by
          obtain ⟨h, _⟩ := List.getElem?_eq_some_iff.mp her
          exact h
        refine ⟨rfl, _, rfl, _, rfl, [.int (x.lo + i), optD er], .cons (.int _) (.cons (.opt er) .nil), sm 2, fun u H6 k6 hu => ?_⟩
        have e18 := k6 _ _ z1
        refine ⟨zs, e18, ?_, zs ++ [u], upd_same, (z2.trans k6).over hD, by simp [z3], ?_⟩
        · rw [z3]
          exact Nat.lt_of_lt_of_le (by omega : j < 122) (sm 122)
        · intro y hy
          rcases List.mem_append.mp hy with hy | hy
          · obtain ⟨r, r1, r2⟩ := z4 y hy
            exact ⟨r, r1, Dt.tk (tk_lst e18) _ _ (k6.dt r2)⟩
          · rw [List.mem_singleton.mp hy]
            exact ⟨(x.lo + i, er), good_of (by omega) (by omega) (f1 er (List.mem_of_getElem? her)), Dt.tk (tk_lst e18) _ _ hu⟩
      · intro H5 p
        obtain ⟨zs, z1, z2, z3, z4⟩ := p
        rw [List.length_map] at z3
        have hl5 := z2 _ _ hl'
        refine ⟨l, D, _, _, rfl, rfl, hl5, z1, ?_, fun g hg => ⟨g, ys ++ zs, _, _, rfl, (k'.trans z2).trans (Ext.new hg), upd_same, ?_, ?_⟩⟩
        · rw [hlen, z3]
          have h1 : i * ers.length ≤ 120 * 122 := Nat.mul_le_mul (by omega) f3
          exact Nat.le_trans (by omega : _ ≤ 20000) (sm 20000)
        · rw [List.length_append, hlen, z3, Nat.add_mul, Nat.one_mul]
        · intro y hy
          rcases List.mem_append.mp hy with hy | hy
          · obtain ⟨r, r1, r2⟩ := hys y hy
            exact ⟨r, r1, (z2.trans (Ext.new hg)).dt r2⟩
          · obtain ⟨r, r1, r2⟩ := z4 y hy
            exact ⟨r, r1, (Ext.new hg).dt r2⟩
    · intro σ H' p
      obtain ⟨l, ys, o4, o5, rfl, k', hl', hlen, hys⟩ := p
      refine ⟨_, rfl, q l ys H' (k1.trans k') hl' ?_ ?_ hys⟩
      · intro z
        rw [z, List.length_nil] at hlen
        have : 0 < (x.hi + 1 - x.lo).toNat * ers.length := Nat.mul_pos (by omega) (by omega)
        omega
      · rw [hlen]
        have h1 : (x.hi + 1 - x.lo).toNat * ers.length ≤ 121 * 122 := Nat.mul_le_mul (by omega) f3
        omega
end
end K21
/-! K21Z: defs that are handed callables; under. -/
namespace K21
open PySem PySem.Spec PyProof.Rows L2 LamX He NdefX
/-- x(..), x a name that holds a callable, what is raised taken by the slots -/
def tCallFS (CA : Addr → Tl → Prop) (i : Nat) (E : L2.St → XK) (t : TA) : TE := fun σ H Q => ∃ f tl, σ[i]? = some (some (.ref f)) ∧ CA f tl ∧ t σ H fun vs H1 => tl vs (E σ) H1 Q
section
variable {X : Cx} {pins : List (Addr × Obj)} {σ : L2.St} {H : Hp} {s : Shared} {j k i : Nat} {f : Addr} {tl : Tl} {E : L2.St → XK} {x : Str} {p pos : Pos} {e : Expr} {es : List Expr} {t : TA}
theorem run_callableS {us : List Value} {vs : List V} {Q : VK} (c : CallOk X.prog X.w X.K X.mg X.base j X.stack s.heap H f tl) (hr : Room k X.A) (hk : j ≤ k) (hx : PassesAt (L2.CX X.prog X.w) X σ (E σ)) (I : Inv X pins σ H s) (r : Vals vs us) (q : tl vs (E σ) H Q) :
    wpAny (model X.prog X.w) X.A (call (.ref f) us) (EP X pins σ Q) X.xe s := by
  refine wpAny_call (codeAny_mono (c.run X.A X.stack s H us vs Q (E σ) (hr.mono hk) I.env0 (fun b hb => .inl hb) Un.refl r q) fun z s' hq => ?_)
  cases z with
  | error e => exact hx pins H s e s' I hq
  | ok fl =>
    cases fl with
    | ret u => exact I.after hq
    | next => exact False.elim hq
    | brk => exact False.elim hq
    | cont => exact False.elim hq
theorem pe_callFS (CA : Addr → Tl → Prop) (hCA : ∀ f tl, CA f tl → CallAt X j f tl) (pl : Plain X) (hr : Room k X.A) (hk : j ≤ k) (hx : ∀ σ, PassesAt (L2.CX X.prog X.w) X σ (E σ)) (hN : X.N[i]? = some x) (hv : Vis X.env.scope x) (ha : PA X (e :: es) t)
    (hd : (x == ("__debug__" : Str)) = false := by decide) (hcd : (x == ("__classdict__" : Str)) = false := by decide)
    (he : starEach (e :: es) X.env = (false, eval e X.env) :: starEach es X.env := by rfl) (hpl : (backTo pos (starEach es X.env)).any (·.1) = false := by rfl) :
    PE X (.Call (.Name x p) (e :: es) [] pos) (tCallFS CA i E t) := by
  refine ⟨fun pins s σ H Q I h => ?_⟩
  obtain ⟨f, tl, hs, c, ht⟩ := h
  have c := hCA f tl c
  refine wpAny_Call_Name_kw (thn ((pe_var (pos := p) hN hv hd hcd).run pins s σ H (fun v H1 => v = .ref f ∧ H1 = H) I ⟨.ref f, hs, rfl, rfl⟩) fun u s1 ⟨v, H1, I1, r1, q1⟩ => ?_)
  obtain ⟨ev, eH⟩ := q1
  subst ev
  rw [eH] at I1
  obtain rfl : u = Value.ref f := r1
  refine callWith_fn (thn (ha.run pos pins s1 σ H _ I1 ht) fun us s2 ⟨vs, H2, I2, r2, q2⟩ => ⟨c.fn _ H2 vs (E σ) Q I2.hok q2, ?_⟩) he hpl
  exact run_callableS (inv_callNow pl I2 c) hr hk (hx σ) I2 r2 q2
theorem pe_callF0S (CA : Addr → Tl → Prop) (hCA : ∀ f tl, CA f tl → CallAt X j f tl) (pl : Plain X) (hr : Room k X.A) (hk : j ≤ k) (hx : ∀ σ, PassesAt (L2.CX X.prog X.w) X σ (E σ)) (hN : X.N[i]? = some x) (hv : Vis X.env.scope x)
    (hd : (x == ("__debug__" : Str)) = false := by decide) (hcd : (x == ("__classdict__" : Str)) = false := by decide) :
    PE X (.Call (.Name x p) [] [] pos) (tCallFS CA i E tNil) := by
  refine ⟨fun pins s σ H Q I h => ?_⟩
  obtain ⟨f, tl, hs, c, ht⟩ := h
  have c := hCA f tl c
  refine wpAny_Call_Name_kw (thn ((pe_var (pos := p) hN hv hd hcd).run pins s σ H (fun v H1 => v = .ref f ∧ H1 = H) I ⟨.ref f, hs, rfl, rfl⟩) fun u s1 ⟨v, H1, I1, r1, q1⟩ => ?_)
  obtain ⟨ev, eH⟩ := q1
  subst ev
  rw [eH] at I1
  obtain rfl : u = Value.ref f := r1
  have q2 : tl [] (E σ) H Q := ht
  exact PySem.W.callWith_F0 (c.fn _ H [] (E σ) Q I1.hok q2) (run_callableS (inv_callNow pl I1 c) hr hk (hx σ) I1 .nil q2)
end
/-- weakened at its ends -/
def clo (tl : Tl) : Tl := fun vs E H Q => ∃ (Q1 : VK) (E1 : XK), tl vs E1 H Q1 ∧ (∀ v H', Q1 v H' → Q v H') ∧ ∀ c d H', E1 c d H' → E c d H'
theorem CallOk.closed {P : Program} {w : World} {K : PySem.W.Frag} {mg : Str → Option Value} {base : Heap} {k : Nat} {l0 : List Env} {h0 : Heap} {H0 : Hp} {f : Addr} {tl : Tl} (c : CallOk P w K mg base k l0 h0 H0 f tl) : CallOk P w K mg base k l0 h0 H0 f (clo tl) := by
  refine ⟨fun h H vs E Q hok q => ?_, fun A outer s H us vs Q E hr e0 nf un r q => ?_⟩
  · obtain ⟨Q1, E1, q1, _, _⟩ := q
    exact c.fn h H vs E1 Q1 hok q1
  · obtain ⟨Q1, E1, q1, mQ, mE⟩ := q
    refine codeAny_mono (c.run A outer s H us vs Q1 E1 hr e0 nf un r q1) fun z s' hz => ?_
    cases z with
    | error e =>
      obtain ⟨a, B, H', cls, d, x1, x2, x3, x4, x5, x6, x7, x8⟩ := hz
      exact ⟨a, B, H', cls, d, x1, x2, x3, x4, x5, x6, x7, mE _ _ _ x8⟩
    | ok fl =>
      cases fl with
      | ret u =>
        obtain ⟨v, H', x1, x2, x3, x4, x5, x6⟩ := hz
        exact ⟨v, H', x1, x2, x3, x4, x5, mQ _ _ x6⟩
      | next => exact hz
      | brk => exact hz
      | cont => exact hz
/-- a def of the module that is handed callables, as its callers know it -/
structure CalC (P : Program) (w : World) (K : PySem.W.Frag) (mg : Str → Option Value) (base : Heap) (j k : Nat) (x : Str) (ps : List Str) (sp : (Addr → Tl → Prop) → Sp) : Prop where
  ex : ∃ f fd, mg x = some (.ref f) ∧ FnOkC P w K mg base j k f fd ps sp ∧ PySem.W.keepIn K (.ref f) = true ∧ Binds K fd ps [] ∧ ∀ (s : Shared) (us : List Value), us.length = ps.length → BindsTo s fd ⟨[], ps.zip us⟩ (ps.zip us)
/-- f(a = .., b = ..), all by keywords -/
def tCallCk (X : Cx) (j : Nat) (sp : (Addr → Tl → Prop) → Sp) (E : XK) (tk : TA) : TE := fun σ H Q => tk σ H fun zs H1 => ∀ C : Addr → Tl → Prop, (∀ g tl, LamAt X j σ H1 g tl → C g tl) → sp C zs H1 Q E
section
variable {X : Cx} {j k i : Nat} {x : Str} {ps : List Str} {sp : (Addr → Tl → Prop) → Sp} {E : XK} {p pos : Pos} {e : Expr} {es : List Expr} {kws : List Keyword} {t tk : TA}
theorem pe_calC (c : CalC X.prog X.w X.K X.mg X.base j i x ps sp) (hr : Room k X.A) (hx : Passes (L2.CX X.prog X.w) X E) (ha : PA X (e :: es) t) (hk : i ≤ k := by decide) (hg : Gl X x := by rfl)
    (hdb : (x == ("__debug__" : Str)) = false := by decide) (he : starEach (e :: es) X.env = (false, eval e X.env) :: starEach es X.env := by rfl) (hpl : (backTo pos (starEach es X.env)).any (·.1) = false := by rfl) :
    PE X (.Call (.Name x p) (e :: es) [] pos) (tCallC X j sp [] E t) := by
  obtain ⟨f, fd, hm, F, hkp, hb, _⟩ := c.ex
  exact pe_callC F (hr.mono hk) hg hm hkp hb .nil hx ha hdb he hpl
theorem pe_calCk (c : CalC X.prog X.w X.K X.mg X.base j i x ps sp) (hr : Room k X.A) (hx : Passes (L2.CX X.prog X.w) X E) (hkw : PK X kws tk) (hk : i ≤ k := by decide) (hg : Gl X x := by rfl)
    (hall : (backToKw pos (keywordEach kws X.env)).all (·.1.isSome) = true := by rfl) (hks : (backToKw pos (keywordEach kws X.env)).filterMap (·.1) = ps := by rfl)
    (hdb : (x == ("__debug__" : Str)) = false := by decide) (hpl : ((backTo pos (starEach [] X.env)).any (·.1) || (backToKw pos (keywordEach kws X.env)).any (·.1.isNone)) = false := by rfl) :
    PE X (.Call (.Name x p) [] kws pos) (tCallCk X j sp E tk) := by
  obtain ⟨f, fd, hm, F, hkp, _, hb⟩ := c.ex
  refine ⟨fun pins s σ H Q I h => ?_⟩
  refine wpAny_Call_Name_kw (ld_glob I hg hm ?_ hdb)
  refine PySem.W.callWith_KW0 (h₀ := X.base) I.ok.mod.kin hkp hall (thn (hkw.run pos pins s σ H _ I h) fun ws s2 ⟨zs, H2, I2, rz, q2⟩ => ⟨I2.kIn, ?_⟩) hpl
  rw [hks]
  have hl : ws.length = ps.length := by
    rw [← rz.length]
    exact F.len _ _ _ _ _ (q2 (fun _ _ => True) fun _ _ _ => trivial)
  exact run_fnc F (hr.mono hk) hx I2 (hb s2 ws hl) rz q2
end
section
variable {P : Program} {w : World} {K : PySem.W.Frag} {mg : Str → Option Value} {base : Heap}
/-- the block's function is called with the pair; behind it, however it ends, the pair is what it was -/
def spUnder (K : PySem.W.Frag) (C : Addr → Tl → Prop) : Sp := fun vs H Q E => ∃ (t a g : Addr) (n : Sn) (pa co : List Sn) (p : Ps) (tl : Tl), vs = [.ref t, .ref g] ∧ TrialAt K H t a n pa co ∧ PairAt K H a p ∧ C g tl ∧
  ∀ H1, Kx K [t] H H1 → TrialAt K H1 t a p.now p.past p.coming → PairAt K H1 a p →
    tl [.ref a] (fun cls d H2 => (∃ Ce, cls = .ref Ce) ∧ TrialAt K H2 t a p.now p.past p.coming ∧ (∃ p' : Ps, PairAt K H2 a p' ∧ p'.w = p.w ∧ p'.r = p.r ∧ p'.b = p.b) ∧ ∀ H3, Kx K [a] H2 H3 → PairAt K H3 a p → E cls d H3) H1
      (fun v H2 => TrialAt K H2 t a p.now p.past p.coming ∧ (∃ p' : Ps, PairAt K H2 a p' ∧ p'.w = p.w ∧ p'.r = p.r ∧ p'.b = p.b) ∧ ∀ H3, Kx K [a] H2 H3 → PairAt K H3 a p → Q v H3)
theorem ps_same {p p' : Ps} (h1 : p'.w = p.w) (h2 : p'.r = p.r) (h3 : p'.b = p.b) : ({ p' with now := p.now, past := p.past, coming := p.coming } : Ps) = p := by
  cases p
  cases p'
  cases h1
  cases h2
  cases h3
  rfl
theorem ok_under (Z : Tx K mg) (j : Nat) (hj : 20 ≤ j) : CalC P w K mg base j (j + 2) "under" p_under (spUnder K) := by
  obtain ⟨fd, F⟩ := Z.fn_under
  obtain ⟨fdE, FE⟩ := Z.fn_Trial_enter
  obtain ⟨fdX, FX⟩ := Z.fn_Trial_exit
  refine ⟨_, fd, Z.g_under, fnc_of F sc_under (fun C => (by intro vs H Q E h; repeat (first | (obtain ⟨rfl, _⟩ := h; rfl) | (obtain ⟨_, h⟩ := h)))) (fun cdv A outer s H vs Q E hr h => ?_), F.kp, F.bindsN (fun _ _ _ _ _ _ us hl => match us, hl with | [_, _], _ => rfl), fun s us hl => ?_⟩
  · have GE := ok_enter (P := P) (w := w) (base := base) Z FE
    have GX := ok_exit (P := P) (w := w) (base := base) Z FX
    have bE : Binds K fdE p_Trial_enter [] := FE.bindsN (fun _ _ _ _ _ _ us hl => match us, hl with | [_], _ => rfl)
    have bX : Binds K fdX p_Trial_exit [] := FX.bindsN (fun _ _ _ _ _ _ us hl => match us, hl with | [_, _, _, _], _ => rfl)
    refine ⟨_, (pss_cons (ps_set (i := 2) sc_under.nd rfl (Or.inl rfl) pe_non)
    (pss_cons (ps_with (C := ga K "Trial") (i := 3) ⟨rfl, rfl, rfl⟩ rfl sc_under.nd rfl rfl (takes_of rfl rfl rfl rfl) Z.m_enter Z.m_exit GE GX (hr.mono (by omega)) (hr.mono (by omega)) bE bX (pv 0) (fun W pn xe tk => pss_one (ps_set (i := 2) sc_under.nd rfl (Or.inl rfl) (pe_callFS (CallOk P w K mg base j outer s.heap H) (fun _ _ h => h) (i := 1) (j := j) ⟨rfl, rfl, rfl⟩ hr (by omega) (fun σ => passAt tk σ) rfl (Or.inl rfl) (pa_cons (pv 3) pa_nil)))))
    (pss_one (ps_ret (pv 2))))), ?_⟩
    obtain ⟨t, a, g, n, pa, co, p, tl, rfl, hT, hP, hC, q⟩ := h
    obtain ⟨dt, wn, wp, wc, ht, _, _, _⟩ := id hT
    refine ⟨_, rfl, t, dt, _, rfl, ht, t, a, n, pa, co, p, rfl, hT, hP, fun H1 k1 hT1 => ?_⟩
    have hne : a ∉ [t] := by
      obtain ⟨dx, vw, vr, vn, vp, vc, ha, _⟩ := id hP
      intro z
      exact ins_ne ha ht (by show (6 : Nat) ≠ 4; decide) (List.mem_singleton.mp z)
    have hP1 := hP.kx k1 hne
    have sp := q H1 k1 hT1 hP1
    refine ⟨g, clo tl, rfl, CallOk.closed hC, _, rfl, _, _, sp, fun v H2 h2 => ?_, fun c d H2 h2 => ?_⟩
    · obtain ⟨hT2, ⟨p', hP2, w1, w2, w3⟩, q3⟩ := h2
      exact ⟨t, a, p.now, p.past, p.coming, p', .non, .non, .non, rfl, hT2, hP2, fun H3 k3 hP3 => ⟨_, rfl, q3 H3 k3 (by rw [ps_same w1 w2 w3] at hP3; exact hP3)⟩⟩
    · obtain ⟨⟨Ce, rfl⟩, hT2, ⟨p', hP2, w1, w2, w3⟩, q3⟩ := h2
      exact ⟨Ce, rfl, fun x tb _ => ⟨t, a, p.now, p.past, p.coming, p', _, _, _, rfl, hT2, hP2, fun H3 k3 hP3 => ⟨rfl, q3 H3 k3 (by rw [ps_same w1 w2 w3] at hP3; exact hP3)⟩⟩⟩
  · match us, hl with
    | [u1, u2], _ =>
      obtain ⟨oc, od, dV, kV, doc, pm, an, cdv, ct, osl, rfl, lk, hcd, hD, hK⟩ := F.ex
      rcases hD with ⟨_, rfl⟩ | ⟨e, _⟩
      · exact .of_eq rfl
      · exact absurd rfl e
end
end K21
/-! K22A: a caught error as an object; _law_fault. -/
namespace K21
open PySem PySem.Spec PyProof.Rows L2 LamX He
section
variable {X : Cx} {pins : List (Addr × Obj)} {σ : L2.St} {H : Hp} {s : Shared}
theorem ex_inst {a d : Addr} {C : Addr} {fs : List (Str × V)} (I : Inv X pins σ H s) (h1 : H a = some (ExcO (.ref C) (some d) a)) (h2 : H d = some (.xd fs)) :
    ∃ (oe od : Obj) (mA : Str → Option Value), PySem.W.InstAt s.heap a oe C (some od) ∧ (∀ name, PySem.W.lookIn name od = some (mA name)) ∧ ∀ f, RelO (fs.lookup f) (mA f) := by
  obtain ⟨⟨oe, vs, ha, hz, hd⟩, _, _⟩ := (show ObjOk X.prog X.w H s.heap a (ExcO (.ref C) (some d) a) from I.hok a _ h1)
  have hx : ObjOk X.prog X.w H s.heap d (.xd fs) := I.hok d _ h2
  obtain ⟨mA, hns, hr⟩ := hx
  obtain ⟨od, ho, hl⟩ := lookIn_ns hns
  exact ⟨oe, od, mA, ⟨ha, hz.1, by unfold PySem.W.notCls; rw [hd] <;> rfl, by rw [hz.2]; exact ho⟩, hl, hr⟩
/-- isinstance(e, C) of a caught own error -/
def rIsX (K : PySem.W.Frag) : List V → Hp → VK → Prop := fun xs H Q => ∃ (a d D : Addr) (ec : EC) (fs : List (Str × V)) (b : Bool), xs = [.ref a, .ref D] ∧ EcF K ec ∧ H a = some (ExcO (.ref (ga K ec.nm)) (some d) a) ∧ H d = some (.xd fs) ∧ PySem.W.kitOne K (.ref (ga K ec.nm)) (.ref D) = some b ∧ Q (.bl b) H
theorem call_isX : CallR X (.builtin "isinstance") (rIsX X.K) := by
  intro pins s σ H xs us Q I r h
  obtain ⟨a, d, D, ec, fs, b, rfl, F, h1, h2, hk, q⟩ := h
  obtain ⟨u1, u2, rfl, r1, r2⟩ := vals2 r
  cases (show u1 = Value.ref a from r1)
  cases (show u2 = Value.ref D from r2)
  obtain ⟨oe, od, mA, J, _, _⟩ := ex_inst I h1 h2
  have ty := F.ty
  unfold tyB at ty
  simp only [Bool.and_eq_true, decide_eq_true_eq] at ty
  obtain ⟨t1, t2, t3, t4⟩ := ty
  have e1 := eqO_ok t1
  have e2 := eqO_ok t2
  have hcl : (PySem.W.clsIn X.K (ga X.K ec.nm)).isSome = true := by
    have hd := F.oe.hd
    unfold PySem.W.hasDictIn at hd
    cases h : PySem.W.clsIn X.K (ga X.K ec.nm) with
    | none => rw [h] at hd; cases hd
    | some cd => rfl
  exact PySem.W.kia_one (PySem.W.kitx_exc hcl F.ga' F.gg F.oe.exC e1 e2 t3 t4) I.kIn J hk (fun z => nomatch z) fun tk => ⟨.bl b, H, I.tok tk, rfl, q⟩
/-- e.f of a caught own error -/
def tExF (K : PySem.W.Frag) (f : Str) (te : TE) : TE := fun σ H Q => te σ H fun x H1 => ∃ (a d : Addr) (ec : EC) (v : V), x = .ref a ∧ EcF K ec ∧ f = ec.fld ∧ H1 a = some (ExcO (.ref (ga K ec.nm)) (some d) a) ∧ H1 d = some (.xd [(ec.fld, v)]) ∧ Q v H1
theorem pe_exf (K : PySem.W.Frag) {e : Expr} {te : TE} {f : Str} {pos : Pos} (he : PE X e te) (hK : X.K = K := by rfl) (hb : attributeBase e f X.env (eval e X.env) = eval e X.env := by rfl) : PE X (.Attribute e f pos) (tExF K f te) := by
  subst hK
  refine ⟨fun pins s σ H Q I h => ?_⟩
  refine attr_of hb (thn (he.run pins s σ H _ I h) fun u s1 hh => ?_)
  obtain ⟨x, H1, I1, rx, a, d, ec, v, ex, F, ef, h1, h2, q⟩ := hh
  subst ex
  subst ef
  obtain rfl : u = Value.ref a := rx
  obtain ⟨oe, od, mA, J, hl, hr⟩ := ex_inst I1 h1 h2
  have e0 : ([(ec.fld, v)] : List (Str × V)).lookup ec.fld = some v := by simp [List.lookup]
  obtain ⟨u, hu, ru⟩ := RelO.some_of (v := v) (o := mA ec.fld) (by rw [← e0]; exact hr ec.fld)
  exact HandSPX.exc_get I1.kIn J F.ga' F.gg F.oe.exC (PySem.W.findObj_own F.oe.hd F.nof rfl (by rw [hl, hu])) (handed_of ru) ⟨v, H1, I1.tok _, ru, q⟩
end
/-! ### _law_fault -/
def dW (p : Str × Bool) : PyData := .tuple [.str p.1, .bool p.2]
def faultW (ec : EC) : List (Str × Bool) := [("world", decide (ec.nm = "BadWorld")), ("start", decide (ec.nm = "BadStart")), ("bound", decide (ec.nm = "BadBound")), ("stand", decide (ec.nm = "BadStand")), ("round", decide (ec.nm = "BadRound")), ("ranges", decide (ec.nm = "BadRanges")), ("number", decide (ec.nm = "BadNumber"))]
def oneW (b : Bool) (w : Str) (d : PyData) : List PyData := if b = true then [.tuple [.str w, d]] else []
def faultD (ec : EC) (d : PyData) : List PyData := (((((((((faultW ec).filter (·.2)).map fun p => PyData.tuple [.str p.1, d]) ++ oneW (decide (ec.nm = "BadRule")) "rule" d) ++ oneW (decide (ec.nm = "BadRun")) "run" d) ++ oneW (decide (ec.nm = "BadPaper")) "paper" d) ++ oneW (decide (ec.nm = "BadRow")) "row" d) ++ oneW (decide (ec.nm = "BadText")) "text" d) ++ oneW (decide (ec.nm = "TooGreat")) "great" d) ++ oneW (decide (ec.nm = "NothingLeft")) "left" d
/-- the four, with their words -/
def four : List (EC × Str) := [(K21.eRound, "round"), (K21.eRun, "run"), (K21.eGreat, "great"), (K21.eLeft, "left")]
theorem four_D {ec : EC} {w : Str} (h : (ec, w) ∈ four) (d : PyData) : faultD ec d = [.tuple [.str w, d]] := by
  simp only [four, List.mem_cons, List.not_mem_nil, or_false, Prod.mk.injEq] at h
  rcases h with ⟨rfl, rfl⟩ | ⟨rfl, rfl⟩ | ⟨rfl, rfl⟩ | ⟨rfl, rfl⟩ <;> rfl
/-- the field of the class that it is -/
theorem four_fld {ec : EC} {w : Str} (h : (ec, w) ∈ four) : (∀ p ∈ faultW ec, p.2 = true → ("given" : Str) = ec.fld) ∧ (decide (ec.nm = "BadRule") = true → ("mode" : Str) = ec.fld) ∧ (decide (ec.nm = "BadRun") = true → ("number" : Str) = ec.fld) ∧ (decide (ec.nm = "BadPaper") = true → ("part" : Str) = ec.fld) ∧
    (decide (ec.nm = "BadRow") = true → ("number" : Str) = ec.fld) ∧ (decide (ec.nm = "BadText") = true → ("line" : Str) = ec.fld) ∧ (decide (ec.nm = "TooGreat") = true → ("most" : Str) = ec.fld) ∧ (decide (ec.nm = "NothingLeft") = true → ("many" : Str) = ec.fld) := by
  simp only [four, List.mem_cons, List.not_mem_nil, or_false, Prod.mk.injEq] at h
  rcases h with ⟨rfl, rfl⟩ | ⟨rfl, rfl⟩ | ⟨rfl, rfl⟩ | ⟨rfl, rfl⟩ <;> decide +kernel
section
variable {P : Program} {w : World} {K : PySem.W.Frag} {mg : Str → Option Value} {base : Heap}
def spFault (K : PySem.W.Frag) : Sp := fun vs H Q _ => ∃ (a d : Addr) (ec : EC) (w : Str) (v : V) (dat : PyData), vs = [.ref a] ∧ (ec, w) ∈ four ∧ EcF K ec ∧ H a = some (ExcO (.ref (ga K ec.nm)) (some d) a) ∧ H d = some (.xd [(ec.fld, v)]) ∧ Dt K H v dat ∧ ∀ u H', Ext H H' → Dt K H' u (.tuple [.str w, dat]) → Q u H'
theorem ok_fault (Z : Tx K mg) : Cal P w K mg base CX0 1 "_law_fault" p_law_fault (spFault K) := by
  obtain ⟨fd, F⟩ := Z.fn_law_fault
  refine cal_of Z.g_law_fault F sc_law_fault (fun _ _ _ _ _ _ us hl => match us, hl with | [_], _ => rfl) (by intro vs H Q E h; repeat (first | (obtain ⟨rfl, _⟩ := h; rfl) | (obtain ⟨_, h⟩ := h))) fun cdv A outer s H vs Q E hr h => ?_
  refine ⟨_, PSs.nox (pss_cons (ps_set (i := 1) sc_law_fault.nd rfl (Or.inl rfl) (pe_lst (pa_cons (pe_tupD (pa_cons pe_str (pa_cons (pe_callB call_isX (by rfl) Z.f_isinstance bt_isinstance (pa_cons (pv 0) (pa_cons (pe_glob (v := .ref (ga _ "BadWorld")) (by rfl) Z.g_BadWorld rfl) pa_nil))) pa_nil))) (pa_cons (pe_tupD (pa_cons pe_str (pa_cons (pe_callB call_isX (by rfl) Z.f_isinstance bt_isinstance (pa_cons (pv 0) (pa_cons (pe_glob (v := .ref (ga _ "BadStart")) (by rfl) Z.g_BadStart rfl) pa_nil))) pa_nil))) pa_nil))))
    (pss_cons (ps_set (i := 1) sc_law_fault.nd rfl (Or.inl rfl) (pe_op op_cat (pv 1) (pe_lst (pa_cons (pe_tupD (pa_cons pe_str (pa_cons (pe_callB call_isX (by rfl) Z.f_isinstance bt_isinstance (pa_cons (pv 0) (pa_cons (pe_glob (v := .ref (ga _ "BadBound")) (by rfl) Z.g_BadBound rfl) pa_nil))) pa_nil))) (pa_cons (pe_tupD (pa_cons pe_str (pa_cons (pe_callB call_isX (by rfl) Z.f_isinstance bt_isinstance (pa_cons (pv 0) (pa_cons (pe_glob (v := .ref (ga _ "BadStand")) (by rfl) Z.g_BadStand rfl) pa_nil))) pa_nil))) pa_nil)))))
    (pss_cons (ps_set (i := 1) sc_law_fault.nd rfl (Or.inl rfl) (pe_op op_cat (pv 1) (pe_lst (pa_cons (pe_tupD (pa_cons pe_str (pa_cons (pe_callB call_isX (by rfl) Z.f_isinstance bt_isinstance (pa_cons (pv 0) (pa_cons (pe_glob (v := .ref (ga _ "BadRound")) (by rfl) Z.g_BadRound rfl) pa_nil))) pa_nil))) (pa_cons (pe_tupD (pa_cons pe_str (pa_cons (pe_callB call_isX (by rfl) Z.f_isinstance bt_isinstance (pa_cons (pv 0) (pa_cons (pe_glob (v := .ref (ga _ "BadRanges")) (by rfl) Z.g_BadRanges rfl) pa_nil))) pa_nil))) pa_nil)))))
    (pss_cons (ps_expr (pe_bm PySem.F.plainAttrs_list PySem.F.slot_list_append PySem.F.type_list_append mt_append (pv 1) (pa_cons (pe_tupD (pa_cons pe_str (pa_cons (pe_callB call_isX (by rfl) Z.f_isinstance bt_isinstance (pa_cons (pv 0) (pa_cons (pe_glob (v := .ref (ga _ "BadNumber")) (by rfl) Z.g_BadNumber rfl) pa_nil))) pa_nil))) pa_nil)))
    (pss_cons (ps_setLc (i := 2) (own := [("_law_word", 3), ("_law_is_so", 4)]) (g := (gTup K 2 (gCons (gName 3) (gCons (gName 4) gNil)))) rfl sc_law_fault.nd rfl rfl (sw_true rfl rfl rfl (by decide +kernel)) (pi_list (pv 1)) (blkOk_by (own := [("_law_word", 3), ("_law_is_so", 4)]) (N := n_law_fault) (sc := defScope s_law_fault) (by decide +kernel)) (fun _ _ _ _ _ => (pg_tup rfl (pgs_cons (pg_name (i := 3) sc_law_fault.nd rfl (Or.inl rfl)) (pgs_cons (pg_name (i := 4) sc_law_fault.nd rfl (Or.inl rfl)) pgs_nil)))) (fun _ _ _ _ _ => (pts_one (pt_val (pv 4)))) (fun _ _ _ _ _ => (pe_tupK K (pa_cons (pv 3) (pa_cons (pe_exf K (pv 0)) pa_nil)))))
    (pss_cons (ps_mid (ps_if (pt_val (pe_callB call_isX (by rfl) Z.f_isinstance bt_isinstance (pa_cons (pv 0) (pa_cons (pe_glob (v := .ref (ga _ "BadRule")) (by rfl) Z.g_BadRule rfl) pa_nil))))
      (pss_one (ps_expr (pe_bm PySem.F.plainAttrs_list PySem.F.slot_list_append PySem.F.type_list_append mt_append (pv 2) (pa_cons (pe_tupD (pa_cons pe_str (pa_cons (pe_exf K (pv 0)) pa_nil))) pa_nil))))
      pss_nil))
    (pss_cons (ps_mid (ps_if (pt_val (pe_callB call_isX (by rfl) Z.f_isinstance bt_isinstance (pa_cons (pv 0) (pa_cons (pe_glob (v := .ref (ga _ "BadRun")) (by rfl) Z.g_BadRun rfl) pa_nil))))
      (pss_one (ps_expr (pe_bm PySem.F.plainAttrs_list PySem.F.slot_list_append PySem.F.type_list_append mt_append (pv 2) (pa_cons (pe_tupD (pa_cons pe_str (pa_cons (pe_exf K (pv 0)) pa_nil))) pa_nil))))
      pss_nil))
    (pss_cons (ps_mid (ps_if (pt_val (pe_callB call_isX (by rfl) Z.f_isinstance bt_isinstance (pa_cons (pv 0) (pa_cons (pe_glob (v := .ref (ga _ "BadPaper")) (by rfl) Z.g_BadPaper rfl) pa_nil))))
      (pss_one (ps_expr (pe_bm PySem.F.plainAttrs_list PySem.F.slot_list_append PySem.F.type_list_append mt_append (pv 2) (pa_cons (pe_tupD (pa_cons pe_str (pa_cons (pe_exf K (pv 0)) pa_nil))) pa_nil))))
      pss_nil))
    (pss_cons (ps_mid (ps_if (pt_val (pe_callB call_isX (by rfl) Z.f_isinstance bt_isinstance (pa_cons (pv 0) (pa_cons (pe_glob (v := .ref (ga _ "BadRow")) (by rfl) Z.g_BadRow rfl) pa_nil))))
      (pss_one (ps_expr (pe_bm PySem.F.plainAttrs_list PySem.F.slot_list_append PySem.F.type_list_append mt_append (pv 2) (pa_cons (pe_tupD (pa_cons pe_str (pa_cons (pe_exf K (pv 0)) pa_nil))) pa_nil))))
      pss_nil))
    (pss_cons (ps_mid (ps_if (pt_val (pe_callB call_isX (by rfl) Z.f_isinstance bt_isinstance (pa_cons (pv 0) (pa_cons (pe_glob (v := .ref (ga _ "BadText")) (by rfl) Z.g_BadText rfl) pa_nil))))
      (pss_one (ps_expr (pe_bm PySem.F.plainAttrs_list PySem.F.slot_list_append PySem.F.type_list_append mt_append (pv 2) (pa_cons (pe_tupD (pa_cons pe_str (pa_cons (pe_exf K (pv 0)) pa_nil))) pa_nil))))
      pss_nil))
    (pss_cons (ps_mid (ps_if (pt_val (pe_callB call_isX (by rfl) Z.f_isinstance bt_isinstance (pa_cons (pv 0) (pa_cons (pe_glob (v := .ref (ga _ "TooGreat")) (by rfl) Z.g_TooGreat rfl) pa_nil))))
      (pss_one (ps_expr (pe_bm PySem.F.plainAttrs_list PySem.F.slot_list_append PySem.F.type_list_append mt_append (pv 2) (pa_cons (pe_tupD (pa_cons pe_str (pa_cons (pe_exf K (pv 0)) pa_nil))) pa_nil))))
      pss_nil))
    (pss_cons (ps_mid (ps_if (pt_val (pe_callB call_isX (by rfl) Z.f_isinstance bt_isinstance (pa_cons (pv 0) (pa_cons (pe_glob (v := .ref (ga _ "NothingLeft")) (by rfl) Z.g_NothingLeft rfl) pa_nil))))
      (pss_one (ps_expr (pe_bm PySem.F.plainAttrs_list PySem.F.slot_list_append PySem.F.type_list_append mt_append (pv 2) (pa_cons (pe_tupD (pa_cons pe_str (pa_cons (pe_exf K (pv 0)) pa_nil))) pa_nil))))
      pss_nil))
    (pss_one (ps_ret (pe_ifExp (pt_cmpR op_eq (pe_callB call_len (by rfl) Z.f_len bt_len (pa_cons (pv 2) pa_nil)) pe_int (nomark _)) (pe_ix ix_list (pv 2) pe_int (fun _ _ => rfl)) (pe_tupD (pa_cons pe_str (pa_cons (pe_callB call_len (by rfl) Z.f_len bt_len (pa_cons (pv 2) pa_nil)) pa_nil)))))))))))))))))), ?_⟩
  clear F
  obtain ⟨a, d, ec, wd, v, dat, rfl, hec, F, ha, hd, hv, q⟩ := h
  have hk := fun y hy => (F.kit y hy).1
  obtain ⟨f0, f1, f2, f3, f4, f5, f6, f7⟩ := four_fld hec
  refine ⟨_, rfl, a, d, _, ec, _, _, rfl, F, (Ext.refl' (H := H)) _ _ ha, (Ext.refl' (H := H)) _ _ hd, hk "BadWorld" (by simp [enames]), [.str "world", .bool (decide (ec.nm = "BadWorld"))], .cons (.str _) (.cons (.bl _) .nil), sm 2, fun u1 H1 k1 hu1 => ?_⟩
  refine ⟨_, rfl, a, d, _, ec, _, _, rfl, F, k1 _ _ ha, k1 _ _ hd, hk "BadStart" (by simp [enames]), [.str "start", .bool (decide (ec.nm = "BadStart"))], .cons (.str _) (.cons (.bl _) .nil), sm 2, fun u2 H2 k2 hu2 => ?_⟩
  refine ⟨sm 2, fun l hl => ?_⟩
  have k3 := (k1.trans k2).trans (Ext.new (o := .lst [u1, u2]) hl)
  have e3 : (upd H2 l (.lst [u1, u2])) l = _ := upd_same
  have hu1 := (k2.trans (Ext.new (o := .lst [u1, u2]) hl)).dt hu1
  have hu2 := (Ext.new (o := .lst [u1, u2]) hl).dt hu2
  generalize upd H2 l (.lst [u1, u2]) = H3 at k3 e3 hu1 hu2
  refine ⟨_, rfl, ?_⟩
  refine ⟨_, rfl, a, d, _, ec, _, _, rfl, F, k3 _ _ ha, k3 _ _ hd, hk "BadBound" (by simp [enames]), [.str "bound", .bool (decide (ec.nm = "BadBound"))], .cons (.str _) (.cons (.bl _) .nil), sm 2, fun u3 H4 k4 hu3 => ?_⟩
  refine ⟨_, rfl, a, d, _, ec, _, _, rfl, F, (k3.trans k4) _ _ ha, (k3.trans k4) _ _ hd, hk "BadStand" (by simp [enames]), [.str "stand", .bool (decide (ec.nm = "BadStand"))], .cons (.str _) (.cons (.bl _) .nil), sm 2, fun u4 H5 k5 hu4 => ?_⟩
  refine ⟨sm 2, fun l2 hl2 => ?_⟩
  have k6 : Ext H5 (upd H5 l2 (.lst [u3, u4])) := Ext.new hl2
  refine ⟨l, l2, _, _, rfl, rfl, (k4.trans (k5.trans k6)) _ _ e3, upd_same, sm 4, fun l3 hl3 => ?_⟩
  have k7 : Ext (upd H5 l2 (.lst [u3, u4])) (upd (upd H5 l2 (.lst [u3, u4])) l3 (.lst ([u1, u2] ++ [u3, u4]))) := Ext.new hl3
  have e7 : (upd (upd H5 l2 (.lst [u3, u4])) l3 (.lst ([u1, u2] ++ [u3, u4]))) l3 = _ := upd_same
  have kA := k5.trans (k6.trans k7)
  have hu1 := (k4.trans kA).dt hu1
  have hu2 := (k4.trans kA).dt hu2
  have hu3 := kA.dt hu3
  have hu4 := (k6.trans k7).dt hu4
  have kH := k3.trans (k4.trans kA)
  generalize upd (upd H5 l2 (.lst [u3, u4])) l3 (.lst ([u1, u2] ++ [u3, u4])) = H7 at kH e7 hu1 hu2 hu3 hu4
  clear k1 k2 k3 k4 k5 k6 k7 kA e3 hl hl2 hl3
  refine ⟨_, rfl, ?_⟩
  refine ⟨_, rfl, a, d, _, ec, _, _, rfl, F, kH _ _ ha, kH _ _ hd, hk "BadRound" (by simp [enames]), [.str "round", .bool (decide (ec.nm = "BadRound"))], .cons (.str _) (.cons (.bl _) .nil), sm 2, fun u5 H8 k8 hu5 => ?_⟩
  refine ⟨_, rfl, a, d, _, ec, _, _, rfl, F, (kH.trans k8) _ _ ha, (kH.trans k8) _ _ hd, hk "BadRanges" (by simp [enames]), [.str "ranges", .bool (decide (ec.nm = "BadRanges"))], .cons (.str _) (.cons (.bl _) .nil), sm 2, fun u6 H9 k9 hu6 => ?_⟩
  refine ⟨sm 2, fun l4 hl4 => ?_⟩
  have k10 : Ext H9 (upd H9 l4 (.lst [u5, u6])) := Ext.new hl4
  refine ⟨l3, l4, _, _, rfl, rfl, (k8.trans (k9.trans k10)) _ _ e7, upd_same, sm 6, fun l5 hl5 => ?_⟩
  have k11 : Ext (upd H9 l4 (.lst [u5, u6])) (upd (upd H9 l4 (.lst [u5, u6])) l5 (.lst ([u1, u2] ++ [u3, u4] ++ [u5, u6]))) := Ext.new hl5
  have e11 : (upd (upd H9 l4 (.lst [u5, u6])) l5 (.lst ([u1, u2] ++ [u3, u4] ++ [u5, u6]))) l5 = _ := upd_same
  have kA := k9.trans (k10.trans k11)
  have hu1 := (k8.trans kA).dt hu1
  have hu2 := (k8.trans kA).dt hu2
  have hu3 := (k8.trans kA).dt hu3
  have hu4 := (k8.trans kA).dt hu4
  have hu5 := kA.dt hu5
  have hu6 := (k10.trans k11).dt hu6
  have h5n : H l5 = none := by
    cases q : H l5 with
    | none => rfl
    | some o => rw [(kH.trans (k8.trans (k9.trans k10))) _ _ q] at hl5; cases hl5
  have kH := kH.trans (k8.trans kA)
  generalize upd (upd H9 l4 (.lst [u5, u6])) l5 (.lst ([u1, u2] ++ [u3, u4] ++ [u5, u6])) = H11 at kH e11 hu1 hu2 hu3 hu4 hu5 hu6
  clear k8 k9 k10 k11 kA e7 hl4 hl5
  refine ⟨_, rfl, .inl ⟨rfl, _, SqL.of e11⟩, ?_⟩
  refine ⟨_, rfl, a, d, _, ec, _, _, rfl, F, kH _ _ ha, kH _ _ hd, hk "BadNumber" (by simp [enames]), [.str "number", .bool (decide (ec.nm = "BadNumber"))], .cons (.str _) (.cons (.bl _) .nil), sm 2, fun u7 H12 k12 hu7 => ?_⟩
  have e12 := k12 _ _ e11
  refine ⟨l5, _, _, rfl, rfl, e12, Nat.lt_of_lt_of_le (by show (6 : Nat) < 7; decide) (sm 7), ?_⟩
  have t13 : TupK H12 (upd H12 l5 (.lst ([u1, u2] ++ [u3, u4] ++ [u5, u6] ++ [u7]))) := tk_lst e12
  have e13 : (upd H12 l5 (.lst ([u1, u2] ++ [u3, u4] ++ [u5, u6] ++ [u7]))) l5 = _ := upd_same
  have kH := (kH.trans k12).over (o := .lst ([u1, u2] ++ [u3, u4] ++ [u5, u6] ++ [u7])) h5n
  have hws : DtAll K (upd H12 l5 (.lst ([u1, u2] ++ [u3, u4] ++ [u5, u6] ++ [u7]))) ([u1, u2] ++ [u3, u4] ++ [u5, u6] ++ [u7]) ((faultW ec).map dW) :=
    .cons (Dt.tk t13 _ _ (k12.dt hu1)) (.cons (Dt.tk t13 _ _ (k12.dt hu2)) (.cons (Dt.tk t13 _ _ (k12.dt hu3)) (.cons (Dt.tk t13 _ _ (k12.dt hu4)) (.cons (Dt.tk t13 _ _ (k12.dt hu5)) (.cons (Dt.tk t13 _ _ (k12.dt hu6)) (.cons (Dt.tk t13 _ _ hu7) .nil))))))
  generalize upd H12 l5 (.lst ([u1, u2] ++ [u3, u4] ++ [u5, u6] ++ [u7])) = H13 at kH e13 hws
  generalize [u1, u2] ++ [u3, u4] ++ [u5, u6] ++ [u7] = us at e13 hws
  have hul : us.length = 7 := by rw [hws.length] <;> rfl
  clear hu1 hu2 hu3 hu4 hu5 hu6 hu7 k12 e11 e12 t13
  refine ⟨_, rfl, l5, rfl, ⟨_, SqL.of e13⟩, fun D hD => lc_list (xs := us) (fun i H5 => ∃ zs : List V, H5 D = some (.lst zs) ∧ Ext H13 H5 ∧ zs.length ≤ i ∧ DtAll K H5 zs ((((faultW ec).take i).filter (·.2)).map fun p => .tuple [.str p.1, dat]))
    ⟨[], upd_same, Ext.new hD, Nat.le_refl _, .nil⟩ (fun i H5 _ p => ?_) ?_ ?_⟩
  · obtain ⟨zs, z1, z2, _⟩ := p
    exact SqL.of (z2 _ _ e13)
  · intro i x H5 hx p
    obtain ⟨zs, z1, z2, z3, z4⟩ := p
    obtain ⟨pw, hpw, hxd⟩ := mapD hws hx
    have hi : i < 7 := by
      obtain ⟨h, _⟩ := List.getElem?_eq_some_iff.mp hx
      omega
    obtain ⟨g, w0, w1, rfl, hg, g0, g1⟩ := (z2.dt hxd).tup2
    obtain rfl := g0.str_
    obtain rfl := g1.bl_
    have et : (faultW ec).take (i + 1) = (faultW ec).take i ++ [pw] := by
      rw [List.take_add_one, hpw] <;> rfl
    refine ⟨g, _, rfl, hg, rfl, _, _, rfl, _, _, rfl, rfl, rfl, _, rfl, pw.2, rfl, ifC (fun c => ?_) fun c => ?_⟩
    · have kx := kH.trans z2
      refine ⟨_, rfl, _, rfl, a, d, ec, v, rfl, F, f0 pw (List.mem_of_getElem? hpw) c, kx _ _ ha, kx _ _ hd, [.str pw.1, dat], .cons (.str _) (.cons (kx.dt hv) .nil), sm 2, fun u H6 k6 hu => ?_⟩
      have e18 := k6 _ _ z1
      refine ⟨zs, e18, Nat.lt_of_le_of_lt z3 (Nat.lt_of_lt_of_le hi (sm 7)), zs ++ [u], upd_same, (z2.trans k6).over hD, by simp; omega, ?_⟩
      rw [et, List.filter_append, List.map_append, List.filter_cons_of_pos (by simpa using c)]
      exact DtAll.tk (tk_lst e18) _ _ ((DtAll.tk (Ke.ext (K := K) (M := []) k6).tk _ _ z4).append (.cons hu .nil))
    · refine ⟨zs, z1, z2, by omega, ?_⟩
      rw [et, List.filter_append, List.filter_cons_of_neg (by simpa using c), List.filter_nil, List.append_nil]
      exact z4
  intro H14 p
  obtain ⟨zs, z1, z2, z3, z4⟩ := p
  have e7' : us.length = (faultW ec).length := by rw [hul] <;> rfl
  rw [e7', List.take_length] at z4
  have hDn : H D = none := by
    cases q : H D with
    | none => rfl
    | some o => rw [kH _ _ q] at hD; cases hD
  have kH := kH.trans z2
  have z3 : zs.length ≤ 7 := by omega
  generalize hds0 : (((faultW ec).filter (·.2)).map fun p => PyData.tuple [.str p.1, dat]) = ds0 at z4
  refine ⟨fun σ' H' => ∃ zs : List V, σ' = [some (.ref a), some (.ref l5), some (.ref D), none, none] ∧ Ext H H' ∧ H' D = some (.lst zs) ∧ DtAll K H' zs (ds0 ++ oneW (decide (ec.nm = "BadRule")) "rule" dat) ∧ zs.length ≤ 8, ?_, ?_⟩
  · refine ⟨_, rfl, a, d, _, ec, _, _, rfl, F, kH _ _ ha, kH _ _ hd, hk "BadRule" (by simp [enames]), _, rfl, ifC (fun c => ?_) fun c => ?_⟩
    · refine ⟨_, rfl, .inl ⟨rfl, _, SqL.of z1⟩, _, rfl, a, d, ec, v, rfl, F, f1 c, kH _ _ ha, kH _ _ hd, [.str "rule", dat], .cons (.str _) (.cons (kH.dt hv) .nil), sm 2, fun u H6 k6 hu => ?_⟩
      have e18 := k6 _ _ z1
      refine ⟨D, zs, u, rfl, rfl, e18, Nat.lt_of_le_of_lt z3 (Nat.lt_of_lt_of_le (by decide : 7 < 8) (sm 8)), zs ++ [u], rfl, (kH.trans k6).over hDn, upd_same, ?_, by simp; omega⟩
      rw [oneW, if_pos c]
      exact DtAll.tk (tk_lst e18) _ _ ((DtAll.tk (Ke.ext (K := K) (M := []) k6).tk _ _ z4).append (.cons hu .nil))
    · refine ⟨zs, rfl, kH, z1, ?_, by omega⟩
      rw [oneW, if_neg c, List.append_nil]
      exact z4
  clear kH z1 z2 z3 z4
  rintro σ' H15 ⟨zs, rfl, kH, z1, z4, z3⟩
  have z2 := z1
  generalize hds1 : ds0 ++ oneW (decide (ec.nm = "BadRule")) "rule" dat = ds1 at z4
  refine ⟨fun σ' H' => ∃ zs : List V, σ' = [some (.ref a), some (.ref l5), some (.ref D), none, none] ∧ Ext H H' ∧ H' D = some (.lst zs) ∧ DtAll K H' zs (ds1 ++ oneW (decide (ec.nm = "BadRun")) "run" dat) ∧ zs.length ≤ 9, ?_, ?_⟩
  · refine ⟨_, rfl, a, d, _, ec, _, _, rfl, F, kH _ _ ha, kH _ _ hd, hk "BadRun" (by simp [enames]), _, rfl, ifC (fun c => ?_) fun c => ?_⟩
    · refine ⟨_, rfl, .inl ⟨rfl, _, SqL.of z1⟩, _, rfl, a, d, ec, v, rfl, F, f2 c, kH _ _ ha, kH _ _ hd, [.str "run", dat], .cons (.str _) (.cons (kH.dt hv) .nil), sm 2, fun u H6 k6 hu => ?_⟩
      have e18 := k6 _ _ z1
      refine ⟨D, zs, u, rfl, rfl, e18, Nat.lt_of_le_of_lt z3 (Nat.lt_of_lt_of_le (by decide : 8 < 9) (sm 9)), zs ++ [u], rfl, (kH.trans k6).over hDn, upd_same, ?_, by simp; omega⟩
      rw [oneW, if_pos c]
      exact DtAll.tk (tk_lst e18) _ _ ((DtAll.tk (Ke.ext (K := K) (M := []) k6).tk _ _ z4).append (.cons hu .nil))
    · refine ⟨zs, rfl, kH, z1, ?_, by omega⟩
      rw [oneW, if_neg c, List.append_nil]
      exact z4
  clear kH z1 z2 z3 z4
  rintro σ' H16 ⟨zs, rfl, kH, z1, z4, z3⟩
  have z2 := z1
  generalize hds2 : ds1 ++ oneW (decide (ec.nm = "BadRun")) "run" dat = ds2 at z4
  refine ⟨fun σ' H' => ∃ zs : List V, σ' = [some (.ref a), some (.ref l5), some (.ref D), none, none] ∧ Ext H H' ∧ H' D = some (.lst zs) ∧ DtAll K H' zs (ds2 ++ oneW (decide (ec.nm = "BadPaper")) "paper" dat) ∧ zs.length ≤ 10, ?_, ?_⟩
  · refine ⟨_, rfl, a, d, _, ec, _, _, rfl, F, kH _ _ ha, kH _ _ hd, hk "BadPaper" (by simp [enames]), _, rfl, ifC (fun c => ?_) fun c => ?_⟩
    · refine ⟨_, rfl, .inl ⟨rfl, _, SqL.of z1⟩, _, rfl, a, d, ec, v, rfl, F, f3 c, kH _ _ ha, kH _ _ hd, [.str "paper", dat], .cons (.str _) (.cons (kH.dt hv) .nil), sm 2, fun u H6 k6 hu => ?_⟩
      have e18 := k6 _ _ z1
      refine ⟨D, zs, u, rfl, rfl, e18, Nat.lt_of_le_of_lt z3 (Nat.lt_of_lt_of_le (by decide : 9 < 10) (sm 10)), zs ++ [u], rfl, (kH.trans k6).over hDn, upd_same, ?_, by simp; omega⟩
      rw [oneW, if_pos c]
      exact DtAll.tk (tk_lst e18) _ _ ((DtAll.tk (Ke.ext (K := K) (M := []) k6).tk _ _ z4).append (.cons hu .nil))
    · refine ⟨zs, rfl, kH, z1, ?_, by omega⟩
      rw [oneW, if_neg c, List.append_nil]
      exact z4
  clear kH z1 z2 z3 z4
  rintro σ' H17 ⟨zs, rfl, kH, z1, z4, z3⟩
  have z2 := z1
  generalize hds3 : ds2 ++ oneW (decide (ec.nm = "BadPaper")) "paper" dat = ds3 at z4
  refine ⟨fun σ' H' => ∃ zs : List V, σ' = [some (.ref a), some (.ref l5), some (.ref D), none, none] ∧ Ext H H' ∧ H' D = some (.lst zs) ∧ DtAll K H' zs (ds3 ++ oneW (decide (ec.nm = "BadRow")) "row" dat) ∧ zs.length ≤ 11, ?_, ?_⟩
  · refine ⟨_, rfl, a, d, _, ec, _, _, rfl, F, kH _ _ ha, kH _ _ hd, hk "BadRow" (by simp [enames]), _, rfl, ifC (fun c => ?_) fun c => ?_⟩
    · refine ⟨_, rfl, .inl ⟨rfl, _, SqL.of z1⟩, _, rfl, a, d, ec, v, rfl, F, f4 c, kH _ _ ha, kH _ _ hd, [.str "row", dat], .cons (.str _) (.cons (kH.dt hv) .nil), sm 2, fun u H6 k6 hu => ?_⟩
      have e18 := k6 _ _ z1
      refine ⟨D, zs, u, rfl, rfl, e18, Nat.lt_of_le_of_lt z3 (Nat.lt_of_lt_of_le (by decide : 10 < 11) (sm 11)), zs ++ [u], rfl, (kH.trans k6).over hDn, upd_same, ?_, by simp; omega⟩
      rw [oneW, if_pos c]
      exact DtAll.tk (tk_lst e18) _ _ ((DtAll.tk (Ke.ext (K := K) (M := []) k6).tk _ _ z4).append (.cons hu .nil))
    · refine ⟨zs, rfl, kH, z1, ?_, by omega⟩
      rw [oneW, if_neg c, List.append_nil]
      exact z4
  clear kH z1 z2 z3 z4
  rintro σ' H18 ⟨zs, rfl, kH, z1, z4, z3⟩
  have z2 := z1
  generalize hds4 : ds3 ++ oneW (decide (ec.nm = "BadRow")) "row" dat = ds4 at z4
  refine ⟨fun σ' H' => ∃ zs : List V, σ' = [some (.ref a), some (.ref l5), some (.ref D), none, none] ∧ Ext H H' ∧ H' D = some (.lst zs) ∧ DtAll K H' zs (ds4 ++ oneW (decide (ec.nm = "BadText")) "text" dat) ∧ zs.length ≤ 12, ?_, ?_⟩
  · refine ⟨_, rfl, a, d, _, ec, _, _, rfl, F, kH _ _ ha, kH _ _ hd, hk "BadText" (by simp [enames]), _, rfl, ifC (fun c => ?_) fun c => ?_⟩
    · refine ⟨_, rfl, .inl ⟨rfl, _, SqL.of z1⟩, _, rfl, a, d, ec, v, rfl, F, f5 c, kH _ _ ha, kH _ _ hd, [.str "text", dat], .cons (.str _) (.cons (kH.dt hv) .nil), sm 2, fun u H6 k6 hu => ?_⟩
      have e18 := k6 _ _ z1
      refine ⟨D, zs, u, rfl, rfl, e18, Nat.lt_of_le_of_lt z3 (Nat.lt_of_lt_of_le (by decide : 11 < 12) (sm 12)), zs ++ [u], rfl, (kH.trans k6).over hDn, upd_same, ?_, by simp; omega⟩
      rw [oneW, if_pos c]
      exact DtAll.tk (tk_lst e18) _ _ ((DtAll.tk (Ke.ext (K := K) (M := []) k6).tk _ _ z4).append (.cons hu .nil))
    · refine ⟨zs, rfl, kH, z1, ?_, by omega⟩
      rw [oneW, if_neg c, List.append_nil]
      exact z4
  clear kH z1 z2 z3 z4
  rintro σ' H19 ⟨zs, rfl, kH, z1, z4, z3⟩
  have z2 := z1
  generalize hds5 : ds4 ++ oneW (decide (ec.nm = "BadText")) "text" dat = ds5 at z4
  refine ⟨fun σ' H' => ∃ zs : List V, σ' = [some (.ref a), some (.ref l5), some (.ref D), none, none] ∧ Ext H H' ∧ H' D = some (.lst zs) ∧ DtAll K H' zs (ds5 ++ oneW (decide (ec.nm = "TooGreat")) "great" dat) ∧ zs.length ≤ 13, ?_, ?_⟩
  · refine ⟨_, rfl, a, d, _, ec, _, _, rfl, F, kH _ _ ha, kH _ _ hd, hk "TooGreat" (by simp [enames]), _, rfl, ifC (fun c => ?_) fun c => ?_⟩
    · refine ⟨_, rfl, .inl ⟨rfl, _, SqL.of z1⟩, _, rfl, a, d, ec, v, rfl, F, f6 c, kH _ _ ha, kH _ _ hd, [.str "great", dat], .cons (.str _) (.cons (kH.dt hv) .nil), sm 2, fun u H6 k6 hu => ?_⟩
      have e18 := k6 _ _ z1
      refine ⟨D, zs, u, rfl, rfl, e18, Nat.lt_of_le_of_lt z3 (Nat.lt_of_lt_of_le (by decide : 12 < 13) (sm 13)), zs ++ [u], rfl, (kH.trans k6).over hDn, upd_same, ?_, by simp; omega⟩
      rw [oneW, if_pos c]
      exact DtAll.tk (tk_lst e18) _ _ ((DtAll.tk (Ke.ext (K := K) (M := []) k6).tk _ _ z4).append (.cons hu .nil))
    · refine ⟨zs, rfl, kH, z1, ?_, by omega⟩
      rw [oneW, if_neg c, List.append_nil]
      exact z4
  clear kH z1 z2 z3 z4
  rintro σ' H20 ⟨zs, rfl, kH, z1, z4, z3⟩
  have z2 := z1
  generalize hds6 : ds5 ++ oneW (decide (ec.nm = "TooGreat")) "great" dat = ds6 at z4
  refine ⟨fun σ' H' => ∃ zs : List V, σ' = [some (.ref a), some (.ref l5), some (.ref D), none, none] ∧ Ext H H' ∧ H' D = some (.lst zs) ∧ DtAll K H' zs (ds6 ++ oneW (decide (ec.nm = "NothingLeft")) "left" dat) ∧ zs.length ≤ 14, ?_, ?_⟩
  · refine ⟨_, rfl, a, d, _, ec, _, _, rfl, F, kH _ _ ha, kH _ _ hd, hk "NothingLeft" (by simp [enames]), _, rfl, ifC (fun c => ?_) fun c => ?_⟩
    · refine ⟨_, rfl, .inl ⟨rfl, _, SqL.of z1⟩, _, rfl, a, d, ec, v, rfl, F, f7 c, kH _ _ ha, kH _ _ hd, [.str "left", dat], .cons (.str _) (.cons (kH.dt hv) .nil), sm 2, fun u H6 k6 hu => ?_⟩
      have e18 := k6 _ _ z1
      refine ⟨D, zs, u, rfl, rfl, e18, Nat.lt_of_le_of_lt z3 (Nat.lt_of_lt_of_le (by decide : 13 < 14) (sm 14)), zs ++ [u], rfl, (kH.trans k6).over hDn, upd_same, ?_, by simp; omega⟩
      rw [oneW, if_pos c]
      exact DtAll.tk (tk_lst e18) _ _ ((DtAll.tk (Ke.ext (K := K) (M := []) k6).tk _ _ z4).append (.cons hu .nil))
    · refine ⟨zs, rfl, kH, z1, ?_, by omega⟩
      rw [oneW, if_neg c, List.append_nil]
      exact z4
  clear kH z1 z2 z3 z4
  rintro σ' H21 ⟨zs, rfl, kH, z1, z4, z3⟩
  have z2 := z1
  generalize hds7 : ds6 ++ oneW (decide (ec.nm = "NothingLeft")) "left" dat = ds7 at z4
  have eF : faultD ec dat = ds7 := by
    rw [← hds7, ← hds6, ← hds5, ← hds4, ← hds3, ← hds2, ← hds1, ← hds0]
    rfl
  rw [← eF, four_D hec] at z4
  obtain ⟨u, r, rfl, hu, hr'⟩ := z4.cons_
  cases hr'.nil_
  refine ⟨_, rfl, _, _, rfl, .inl ⟨_, SqL.of z1, rfl⟩, rfl, _, rfl, ifT (by simp) ?_⟩
  exact ⟨_, rfl, D, [u], 0, u, rfl, rfl, SqL.of z1, atI_0, q u _ kH hu⟩
end
end K21
/-! K22B: _law_said. -/
namespace K21
open PySem PySem.Spec PyProof.Rows L2 LamX He NdefX
section
variable {K : PySem.W.Frag} {mg : Str → Option Value}
theorem Tx.four (Z : Tx K mg) {ec : EC} {w : Str} (h : (ec, w) ∈ K21.four) : EcF K ec := by
  simp only [K21.four, List.mem_cons, List.not_mem_nil, or_false, Prod.mk.injEq] at h
  rcases h with ⟨rfl, rfl⟩ | ⟨rfl, rfl⟩ | ⟨rfl, rfl⟩ | ⟨rfl, rfl⟩
  · exact Z.eRound
  · exact Z.eRun
  · exact Z.eGreat
  · exact Z.eLeft
end
def saidN : List (List Str) := [["BadWorld", "BadRule", "BadStart", "BadBound", "BadStand", "BadRound", "BadRun", "BadRanges", "BadPaper", "BadRow"], ["BadText", "BadNumber", "TooGreat", "NothingLeft"]]
theorem said_sub : ∀ l ∈ saidN, ∀ y ∈ l, y ∈ enames := by decide +kernel
theorem said_has {ec : EC} {w : Str} (h : (ec, w) ∈ four) : ∃ l ∈ saidN, ec.nm ∈ l := by
  simp only [four, List.mem_cons, List.not_mem_nil, or_false, Prod.mk.injEq] at h
  rcases h with ⟨rfl, rfl⟩ | ⟨rfl, rfl⟩ | ⟨rfl, rfl⟩ | ⟨rfl, rfl⟩ <;> decide +kernel
/-- what is wanted of an error that a call of _law_said may let out -/
def saidE (K : PySem.W.Frag) (Q : VK) : XK := fun cls d H1 => ∃ (ec : EC) (w : Str) (dd : Addr) (v : V) (dat : PyData), (ec, w) ∈ four ∧ cls = .ref (ga K ec.nm) ∧ d = some dd ∧ H1 dd = some (.xd [(ec.fld, v)]) ∧ Dt K H1 v dat ∧ ∀ u H', Ext H1 H' → Dt K H' u (.tuple [.str w, dat]) → Q u H'
section
variable {P : Program} {w : World} {K : PySem.W.Frag} {mg : Str → Option Value} {base : Heap}
def spSaid (K : PySem.W.Frag) (C : Addr → Tl → Prop) : Sp := fun vs H Q _ => ∃ (g : Addr) (tl : Tl), vs = [.ref g] ∧ C g tl ∧ ∀ H0, Ext H H0 → tl [] (saidE K Q) H0 fun v H1 => ∀ p, H1 p = none → Q (.ref p) (upd H1 p (.lst [v]))
theorem ok_said (Z : Tx K mg) (j : Nat) (hj : 1 ≤ j) : CalC P w K mg base j (j + 2) "_law_said" p_law_said (spSaid K) := by
  obtain ⟨fd, F⟩ := Z.fn_law_said
  refine ⟨_, fd, Z.g_law_said, fnc_of F sc_law_said (fun C => (by intro vs H Q E h; repeat (first | (obtain ⟨rfl, _⟩ := h; rfl) | (obtain ⟨_, h⟩ := h)))) (fun cdv A outer s H vs Q E hr h => ?_), F.kp, F.bindsN (fun _ _ _ _ _ _ us hl => match us, hl with | [_], _ => rfl), fun s us hl => ?_⟩
  · have c_law_fault := ok_fault (P := P) (w := w) (base := base) Z
    refine ⟨_, pss_cons (ps_asg (pe_tupD (pa_cons pe_non (pa_cons pe_non pa_nil))) (pg_tup rfl (pgs_cons (pg_name (i := 1) sc_law_said.nd rfl (Or.inl rfl)) (pgs_cons (pg_name (i := 2) sc_law_said.nd rfl (Or.inl rfl)) pgs_nil))))
      (pss_cons (ps_try_said (i := 3) (iy := 1) (css := saidN.map fun l => l.map fun y => ga K y) ⟨rfl, rfl, rfl⟩ sc_law_said.nd rfl rfl rfl rfl rfl (by decide) (by decide)
        (fun W pn xe tk => pss_one (ps_set (i := 2) sc_law_said.nd rfl (Or.inl rfl) (pe_callF0S (CallOk P w K mg base j outer s.heap H) (fun _ _ h => h) (i := 0) (j := j) ⟨rfl, rfl, rfl⟩ hr (by omega) (fun σ => passAt tk σ) rfl (Or.inl rfl))))
        (.cons (.cons (by rfl) Z.g_BadWorld (by decide) (.cons (by rfl) Z.g_BadRule (by decide) (.cons (by rfl) Z.g_BadStart (by decide) (.cons (by rfl) Z.g_BadBound (by decide) (.cons (by rfl) Z.g_BadStand (by decide) (.cons (by rfl) Z.g_BadRound (by decide) (.cons (by rfl) Z.g_BadRun (by decide) (.cons (by rfl) Z.g_BadRanges (by decide) (.cons (by rfl) Z.g_BadPaper (by decide) (.cons (by rfl) Z.g_BadRow (by decide) .nil)))))))))) (by show (10 : Nat) ≤ 1000; decide)
          (.cons (.cons (by rfl) Z.g_BadText (by decide) (.cons (by rfl) Z.g_BadNumber (by decide) (.cons (by rfl) Z.g_TooGreat (by decide) (.cons (by rfl) Z.g_NothingLeft (by decide) .nil)))) (by show (4 : Nat) ≤ 1000; decide) .nil)))
      (pss_one (ps_ret (pe_ifExp (pt_cmpR op_isN (pv 1) pe_non (nomark _)) (pe_lst (pa_cons (pv 2) pa_nil)) (pe_cal c_law_fault hr pass0 (pa_cons (pv 1) pa_nil) (hj := by omega)))))), ?_⟩
    obtain ⟨g, tl, rfl, hC, q⟩ := h
    refine ⟨[.none, .none], .cons .non (.cons .non .nil), sm 2, fun u H1 k1 hu => ?_⟩
    obtain ⟨b, v0, v1, rfl, hb, h0, h1⟩ := hu.tup2
    obtain rfl := h0.non_
    obtain rfl := h1.non_
    refine ⟨b, _, rfl, hb, rfl, _, _, rfl, _, _, rfl, rfl, ?_⟩
    refine ⟨g, clo tl, rfl, CallOk.closed hC, _, _, q H1 k1, fun v H2 h2 => ?_, fun cls dd H2 h2 => ?_⟩
    · exact ⟨_, rfl, rfl, _, rfl, ifT (by decide) ⟨_, rfl, sm 1, h2⟩⟩
    · obtain ⟨ec, wd, d, v, dat, hec, rfl, rfl, hd, hv, q2⟩ := h2
      have F := Z.four hec
      have hx : ∀ y ∈ enames, PySem.W.exmOne K (.ref (ga K ec.nm)) (.ref (ga K y)) = some (((PySem.W.exmOne K (.ref (ga K ec.nm)) (.ref (ga K y)))).getD false) := fun y hy => by rw [(F.kit y hy).2] <;> rfl
      refine ⟨fun c => (PySem.W.exmOne K (.ref (ga K ec.nm)) c).getD false, fun cs hcs c hc => ?_, ?_, fun a ha => ?_⟩
      · obtain ⟨l, hl, rfl⟩ := List.mem_map.mp hcs
        obtain ⟨y, hy, rfl⟩ := List.mem_map.mp hc
        exact hx y (said_sub l hl y hy)
      · obtain ⟨l, hl, hy⟩ := said_has hec
        refine ⟨_, List.mem_map_of_mem hl, ?_⟩
        rw [List.any_eq_true]
        refine ⟨.ref (ga K ec.nm), List.mem_map_of_mem (List.mem_map_of_mem hy), ?_⟩
        rw [(F.kit ec.nm (said_sub l hl _ hy)).2]
        simp
      · have kx : Ext H2 (upd H2 a (ExcO (.ref (ga K ec.nm)) (some d) a)) := Ext.new ha
        refine ⟨_, rfl, rfl, _, rfl, ifN (by simp) ?_⟩
        refine ⟨_, rfl, a, d, ec, wd, v, dat, rfl, hec, F, upd_same, kx _ _ hd, kx.dt hv, fun u2 H3 k3 hu2 => q2 u2 H3 (kx.trans k3) hu2⟩
  · match us, hl with
    | [u1], _ =>
      obtain ⟨oc, od, dV, kV, doc, pm, an, cdv, ct, osl, rfl, lk, hcd, hD, hK⟩ := F.ex
      rcases hD with ⟨_, rfl⟩ | ⟨e, _⟩
      · exact .of_eq rfl
      · exact absurd rfl e
end
end K21
/-! K22C: len(x), x += y, x != y by own methods. -/
namespace K21
open PySem PySem.Spec PyProof.Rows L2 LamX He
section
variable {prog : Program} {w : World} {A : Around} {E : Value → Shared → Prop} {s : Shared} {K : PySem.W.Frag} {x y C f : Addr} {ox oy : Obj} {od od' : Option Obj}
theorem ifBound_B {M : Model} {args : List Value} {name : Str} {id : String} {Q : Option Value → Shared → Prop} (X : K.In s.heap) (I : PySem.W.InstAt s.heap x ox C od) (hs : PySem.W.findIn K (.ref C) name = some (some (.builtin id))) (hb : ∀ self, bindSpecial (.builtin id) self = pure (.builtin id, [self]))
    (h : wpAny M A (call (.builtin id) (.ref x :: args)) (fun v => Q (some v)) E s) : wpAny M A (callSpecialIfBound? (.ref x) name args) Q E s := by
  simp only [callSpecialIfBound?, bindSpecialIfBound?]
  refine wpAny_holding (wpAny_bind (wpAny_bind (wpAny_bind (I.type.here ((PySem.W.looks_findIn X hs).here ?_)))))
  simp only [hb]
  refine wpAny_bind (wpAny_askSetting (wpAny_ite ?_))
  have fin : wpAny M A (call (.builtin id) ([.ref x] ++ args) >>= fun v => pure (some v)) Q E s := wpAny_bind (wpAny_mono h (fun v s' h' => wpAny_pure h') fun _ _ h' => h')
  split
  · exact wpAny_bind (wpAny_pure (wpAny_pure fin))
  · exact wpAny_tryCatch (wpAny_bind (wpAny_pure (wpAny_pure fin)))
theorem obj_ne {Q : Fin → Shared → Prop} (hu : A.units < cLine) (X : K.In s.heap) (I : PySem.W.InstAt s.heap x ox C od) (hs : PySem.W.findIn K (.ref C) "__eq__" = some (some (.ref f))) (hf : PySem.W.isFn K (.ref f) = true)
    (hcall : wpAny (model prog w) A (call (.ref f) [.ref x, .ref y]) (fun v s' => ∃ b, v = .bool b ∧ Q (.done (.ret (.bool (!b)))) s') E s) :
    wpAny (model prog w) A (Builtin.«object.__ne__» ⟨[.ref x, .ref y], []⟩) Q E s := by
  unfold Builtin.«object.__ne__»
  repeat (first
    | with_reducible refine wpAny_cRoomFor hu ?_
    | (refine wpAny_bind (m := callSpecialIfBound? (.ref x) (Str.ofString "__eq__") [.ref y])
        (PySem.W.ifBound_K X I hs hf (wpAny_mono hcall (fun r s' hr => by
          obtain ⟨b, rfl, hq⟩ := hr
          repeat (first | exact hq | exact wpAny_pure hq | exact wpAny_truthy_bool hq | (refine wpAny_bind (m := truthy (.bool _)) (wpAny_truthy_bool ?_)) | wp_step)) fun _ _ e => e)))
    | wp_step)
theorem try_ne {Q : Option Value → Shared → Prop} (hu : A.in1.units < cLine) (X : K.In s.heap) (I : PySem.W.InstAt s.heap x ox C od) (hn : PySem.W.findIn K (.ref C) "__ne__" = some (some (.builtin "object.__ne__"))) (ho : PySem.W.subIn K (.ref C) (.type "object") = some true)
    (hs : PySem.W.findIn K (.ref C) "__eq__" = some (some (.ref f))) (hf : PySem.W.isFn K (.ref f) = true)
    (hcall : wpAny (model prog w) A.in1 (call (.ref f) [.ref x, .ref y]) (fun v s' => ∃ b, v = .bool b ∧ Q (some (.bool (!b))) s') E s) :
    wpAny (model prog w) A (tryCompare (.ref x) "__ne__" (.ref y)) Q E s := by
  unfold tryCompare
  have hi : PySem.W.Looks (model prog w) s.heap (isInstance (.ref x) (.type "object")) true := I.type.andThen (PySem.W.looks_subIn X ho)
  refine wpAny_bind (ifBound_B X I hn F.cmp_object.ne.bind (wpAny_call (codeAny_call_builtin F.cmp_object.ne.plain F.cmpEntry_ne (PySem.W.check_slot F.cmpKind_ne F.cmpSplit_ne hi (F.cmpArgs_ne _ _)
    (obj_ne (A := A.in1) hu X I hs hf (wpAny_mono hcall (fun v s' hv => ?_) fun _ _ e => e))))))
  obtain ⟨b, rfl, hq⟩ := hv
  first | exact ⟨b, rfl, wpAny_pure hq⟩ | exact ⟨b, rfl, wpAny_pure (wpAny_pure hq)⟩ | exact ⟨b, rfl, hq⟩
theorem rich_ne {Q : Value → Shared → Prop} (hu : A.in1.units < cLine) (hu0 : A.units < cLine) (X : K.In s.heap) (I : PySem.W.InstAt s.heap x ox C od) (J : PySem.W.InstAt s.heap y oy C od') (hn : PySem.W.findIn K (.ref C) "__ne__" = some (some (.builtin "object.__ne__"))) (ho : PySem.W.subIn K (.ref C) (.type "object") = some true)
    (hs : PySem.W.findIn K (.ref C) "__eq__" = some (some (.ref f))) (hf : PySem.W.isFn K (.ref f) = true)
    (hcall : wpAny (model prog w) A.in1 (call (.ref f) [.ref x, .ref y]) (fun v s' => ∃ b, v = .bool b ∧ Q (.bool (!b)) s') E s) :
    wpAny (model prog w) A (richCompare .NotEq (.ref x) (.ref y)) Q E s := by
  unfold richCompare
  simp only [oneThing_ref]
  refine wpAny_holding (wpAny_bind (wpAny_cRoomFor hu0 ?_))
  rw [cmpInfo_NotEq]
  dsimp only
  refine wpAny_bind (I.type.here (wpAny_bind (J.type.here ?_)))
  rw [show (Value.ref C != Value.ref C) = false from by simp]
  simp only [Bool.false_eq_true, if_false]
  refine wpAny_bind (wpAny_pure ?_)
  simp only [Bool.false_eq_true, if_false]
  refine wpAny_bind (try_ne hu X I hn ho hs hf (wpAny_mono hcall (fun v s' hv => ?_) fun _ _ e => e))
  obtain ⟨b, rfl, hq⟩ := hv
  first | exact ⟨b, rfl, wpAny_pure hq⟩ | exact ⟨b, rfl, wpAny_pure (wpAny_pure hq)⟩
end
section
variable {X : Cx} {CX : CXT} {n : Nat} {C f : Addr} {sp : Sp} {E : XK} {fd : FuncData} {ps : List Str}
theorem _root_.L2.FnOk.nodef {P : Program} {w : World} {K : PySem.W.Frag} {mg : Str → Option Value} {base : Heap} (F : FnOk P w K mg base CX n f fd ps sp) (hb : Binds K fd ps []) : FnR P w K mg base CX n f sp := (F.raw hb .nil).imp fun vs H Q E h => by
  show sp (vs ++ []) H Q E
  rw [List.append_nil]
  exact h
def rLenO (C : Addr) (sp : Sp) (E : XK) : List V → Hp → VK → Prop := fun xs H Q => ∃ a dx fs, xs = [.ref a] ∧ H a = some (.ins C dx fs) ∧ sp [.ref a] H (fun z H' => ∃ n : Nat, z = .int n ∧ n ≤ 1000 ∧ Q z H') E
theorem call_lenO (hm : Meth X.K C "__len__" f) (F : FnR X.prog X.w X.K X.mg X.base CX n f sp) (hr : Room (n + 1) X.A) (hx : Passes CX X E) : CallR X (.builtin "len") (rLenO C sp E) := by
  intro pins s σ H xs us Q I r h
  obtain ⟨a, dx, fs, rfl, ha, q⟩ := h
  obtain ⟨u, rfl, ru⟩ := r.one
  cases (show u = Value.ref a from ru)
  obtain ⟨mA, J, _⟩ := ins_get I.hok ha
  obtain ⟨od, J, _⟩ := J.look
  obtain ⟨m, hF⟩ := I.fr
  refine PySem.W.len_K hF I.ok.mod.kin J hm.at_ hm.fn (wpAny_mono (wpAny_call (SlX.run_at (us := [.ref a]) (ws := [.ref a]) F hr.in1 I.env0.in1 hx I (.cons rfl .nil) q)) (fun v s' z => ?_) fun _ _ x => x)
  obtain ⟨z', H', I', rz, n', ez, hn, qz⟩ := z
  subst ez
  obtain ⟨t, e⟩ := (show ∃ t, v = Value.int n' t from rz)
  cases e
  exact ⟨⟨by omega, by omega⟩, .int n', H', I'.tok _, ⟨_, rfl⟩, qz⟩
def tIpO (C : Addr) (sp : Sp) (E : XK) : TIp := fun x y H Q => ∃ a dx fs, x = .ref a ∧ H a = some (.ins C dx fs) ∧ sp [x, y] H Q E
theorem ip_own (hm : Meth X.K C "__iadd__" f) (hc : PySem.W.selfFirst X.K C = true) (F : FnR X.prog X.w X.K X.mg X.base CX n f sp) (hr : Room n X.A) (hx : Passes CX X E) : PIp X .Add (tIpO C sp E) := by
  intro pins s σ H x y v u Q I rx ry h
  obtain ⟨a, dx, fs, rfl, ha, q⟩ := h
  cases (show v = Value.ref a from rx)
  obtain ⟨mA, J, _⟩ := ins_get I.hok ha
  obtain ⟨od, J, _⟩ := J.look
  obtain ⟨m, hF⟩ := I.fr
  refine PySem.W.ksp_inplace (op := .Add) hF I.ok.mod.kin J hc hm.at_ hm.fn (wpAny_mono (wpAny_call (run_fnR (us := [.ref a, u]) (vs := [.ref a, y]) F hr hx I (.cons rfl (.cons ry .nil)) q)) (fun v s' z => ?_) fun _ _ x => x)
  obtain ⟨z', H', I', rz, qz⟩ := z
  exact SlX.cmpback rz ⟨z', H', I', rz, qz⟩
def rNeO (C : Addr) (sp : Sp) (E : XK) : R2 := fun x y H Q => ∃ a b dx dy fs gs, x = .ref a ∧ y = .ref b ∧ H a = some (.ins C dx fs) ∧ H b = some (.ins C dy gs) ∧ sp [x, y] H (fun z H' => ∃ r, z = .bl r ∧ Q (.bl (!r)) H') E
theorem op_neO (hm : Meth X.K C "__eq__" f) (hn : PySem.W.findIn X.K (.ref C) "__ne__" = some (some (.builtin "object.__ne__"))) (ho : PySem.W.subIn X.K (.ref C) (.type "object") = some true) (F : FnR X.prog X.w X.K X.mg X.base CX n f sp) (hr : Room (n + 1) X.A) (hx : Passes CX X E) :
    OpR X (compareOp .NotEq) (rNeO C sp E) := by
  intro pins s σ H x y v u Q I rx ry h
  obtain ⟨a, b, dx, dy, fs, gs, rfl, rfl, ha, hb, q⟩ := h
  cases (show v = Value.ref a from rx)
  cases (show u = Value.ref b from ry)
  obtain ⟨mA, J, _⟩ := ins_get I.hok ha
  obtain ⟨od, J, _⟩ := J.look
  obtain ⟨mB, J', _⟩ := ins_get I.hok hb
  obtain ⟨od', J', _⟩ := J'.look
  show wpAny (model X.prog X.w) X.A (richCompare .NotEq (.ref a) (.ref b)) (EP X pins σ Q) X.xe s
  refine rich_ne hr.in1.units0 hr.units0 I.kIn J J' hn ho hm.at_ hm.fn (wpAny_mono (wpAny_call (SlX.run_at (us := [.ref a, .ref b]) (ws := [.ref a, .ref b]) F hr.in1 I.env0.in1 hx I (.cons rfl (.cons rfl .nil)) q)) (fun v s' z => ?_) fun _ _ x => x)
  obtain ⟨z', H', I', rz, r, ez, qz⟩ := z
  subst ez
  cases (show v = Value.bool r from rz)
  exact ⟨r, rfl, .bl (!r), H', I', rfl, qz⟩
end
section
variable {P : Program} {w : World} {K : PySem.W.Frag} {mg : Str → Option Value} {base : Heap}
theorem Tx.pair (Z : Tx K mg) : PySem.W.selfFirst K (ga K "Pair") = true ∧ PySem.W.findIn K (.ref (ga K "Pair")) "__ne__" = some (some (.builtin "object.__ne__")) ∧ PySem.W.subIn K (.ref (ga K "Pair")) (.type "object") = some true := by
  have h := Z.pr
  unfold pairB at h
  obtain ⟨h1, h2⟩ := ba h
  obtain ⟨h2, h3⟩ := ba h2
  exact ⟨h1, eqO_ok h2, of_decide_eq_true h3⟩
theorem fr_len (Z : Tx K mg) : FnR P w K mg base CX0 1 (ma K (ga K "Pair") "__len__") (spLenP K) := by
  obtain ⟨fd, F⟩ := Z.fn_Pair_len
  exact (ok_len (P := P) (w := w) (base := base) Z F).nodef (F.bindsN (fun _ _ _ _ _ _ us hl => match us, hl with | [_], _ => rfl))
theorem fr_iadd (Z : Tx K mg) : FnR P w K mg base (L2.CX P w) 6 (ma K (ga K "Pair") "__iadd__") (spIadd K) := by
  obtain ⟨fd, F⟩ := Z.fn_Pair_iadd
  exact (ok_iadd (P := P) (w := w) (base := base) Z F).nodef (F.bindsN (fun _ _ _ _ _ _ us hl => match us, hl with | [_, _], _ => rfl))
theorem fr_eq (Z : Tx K mg) : FnR P w K mg base CX0 1 (ma K (ga K "Pair") "__eq__") (spEqP K) := by
  obtain ⟨fd, F⟩ := Z.fn_Pair_eq
  exact (ok_eq (P := P) (w := w) (base := base) Z F).nodef (F.bindsN (fun _ _ _ _ _ _ us hl => match us, hl with | [_, _], _ => rfl))
theorem Tx.callP (Z : Tx K mg) : StX.CallO K (ga K "Pair") (ma K (ga K "Pair") "__call__") := by
  obtain ⟨fd, F⟩ := Z.fn_Pair_call
  obtain ⟨oc, od, dV, kV, doc, pm, an, cdv, ct, osl, rfl, lk, _⟩ := F.ex
  refine ⟨Z.m_call.at_, Z.m_call.fn, ?_⟩
  have lk' : K.lookup (ma K (ga K "Pair") "__call__") = _ := lk
  unfold PySem.W.fnIn
  rw [lk']
end
end K21
/-! K22D: _law_goes_on, _law_added, _law_started. -/
namespace K21
open PySem PySem.Spec PyProof.Rows L2 LamX He
/-- at most n rounds, snapshots -/
structure Few (p : Ps) (n : Nat) : Prop where
  ok : p.ok
  now : p.now.rs.length ≤ n
  past : ∀ s ∈ p.past, s.rs.length ≤ n
  sum : p.past.length + p.coming.length ≤ n
theorem Few.mono {p : Ps} {n m : Nat} (h : Few p n) (k : n ≤ m) : Few p m := ⟨h.ok, Nat.le_trans h.now k, fun s hs => Nat.le_trans (h.past s hs) k, Nat.le_trans h.sum k⟩
theorem Few.did {p : Ps} {n : Nat} {r : Rd} (h : Few p n) (hn : n < 1000) : Few (p.did [r]) (n + 1) := by
  have h1 := h.now
  have h2 := h.sum
  refine ⟨h.ok.did (by omega) (by simp only [List.length_cons, List.length_nil]; omega), ?_, fun s hs => ?_, ?_⟩
  · simp only [Ps.did, List.length_append, List.length_cons, List.length_nil]
    omega
  · simp only [Ps.did, List.mem_append, List.mem_singleton] at hs
    rcases hs with hs | rfl
    · exact Nat.le_succ_of_le (h.past s hs)
    · omega
  · simp only [Ps.did, List.length_append, List.length_cons, List.length_nil]
    omega
theorem Few.undone {p : Ps} {n : Nat} {init : List Sn} {l : Sn} (h : Few p n) (e : p.past = init ++ [l]) : Few (p.undone init l) n := by
  have h2 := h.sum
  rw [e] at h2
  simp only [List.length_append, List.length_cons, List.length_nil] at h2
  refine ⟨h.ok.undone e, h.past l (by rw [e]; simp), fun s hs => h.past s (by rw [e]; exact List.mem_append_left _ hs), ?_⟩
  simp only [Ps.undone, List.length_append, List.length_cons, List.length_nil]
  omega
theorem few_new {x : Wd} {r : List Md} {b : Int} (xo : x.ok) (ro : rOk r) (hb : -500 ≤ b ∧ b ≤ 500) : Few (newP x r b) 0 := ⟨newP_ok xo ro hb, Nat.le_refl _, by simp [newP], Nat.le_refl _⟩
theorem Kx.fresh {K : PySem.W.Frag} {M : List Addr} {H H1 H2 : Hp} {a : Addr} (k : Kx K M H H1) (ha : H a = none) (k2 : Kx K (a :: M) H1 H2) : Kx K M H H2 := by
  refine ⟨fun b o e c => k2.kp b o (k.kp b o e c) (c.imp id fun z m => ?_), fun t => k2.tab (k.tab t)⟩
  rcases List.mem_cons.mp m with rfl | m
  · rw [ha] at e
    cases e
  · exact z m
theorem Ke.fresh {K : PySem.W.Frag} {M : List Addr} {H H1 H2 : Hp} {a : Addr} (k : Ke K M H H1) (ha : H a = none) (k2 : Ke K (a :: M) H1 H2) : Ke K M H H2 := by
  refine ⟨fun b o e c => k2.kp b o (k.kp b o e c) (c.imp id fun z => ⟨fun m => ?_, z.2⟩), fun t => k2.tab (k.tab t)⟩
  rcases List.mem_cons.mp m with rfl | m
  · rw [ha] at e
    cases e
  · exact z.1 m
theorem snoc_of {α : Type} {xs : List α} (h : xs ≠ []) : ∃ init l, xs = init ++ [l] := ⟨xs.dropLast, xs.getLast h, (List.dropLast_concat_getLast h).symm⟩
section
variable {P : Program} {w : World} {K : PySem.W.Frag} {mg : Str → Option Value} {base : Heap}
def spGoes (K : PySem.W.Frag) : Sp := fun vs H Q _ => ∃ (d : Dr) (n : Nat) (a : Addr) (p : Ps) (vw : V), vs = [.ref d.d, .ref a, vw] ∧ DrawAt H d (n + 1) ∧ PairAt K H a p ∧ p.ok ∧ Dt K H vw p.w.d ∧ p.now.rs.length < 1000 ∧
  ∀ (r : Rd) i H', goodR p.w p.now.sd.ls r = true → Kx K [a, d.d] H H' → PairAt K H' a (p.did [r]) → DrawAt H' d n → Q (.int i) H'
theorem ok_goes_on (Z : Tx K mg) : Cal P w K mg base (L2.CX P w) 8 "_law_goes_on" p_law_goes_on (spGoes K) := by
  obtain ⟨fd, F⟩ := Z.fn_law_goes_on
  refine cal_of Z.g_law_goes_on F sc_law_goes_on (fun _ _ _ _ _ _ us hl => match us, hl with | [_, _, _], _ => rfl) (by intro vs H Q E h; repeat (first | (obtain ⟨rfl, _⟩ := h; rfl) | (obtain ⟨_, h⟩ := h))) fun cdv A outer s H vs Q E hr h => ?_
  have c_law_pick := ok_pick (P := P) (w := w) (base := base) Z
  have c_law_rounds := ok_rounds_ (P := P) (w := w) (base := base) Z
  have c_stand := ok_stand (P := P) (w := w) (base := base) Z
  refine ⟨_, (pss_cons (ps_set (i := 3) sc_law_goes_on.nd rfl (Or.inl rfl) (pe_cal c_law_pick hr pass0 (pa_cons (pv 0) (pa_cons (pe_cal c_law_rounds hr pass0 (pa_cons (pv 2) (pa_cons (pe_ix ix_D (pe_pcal (E := E) c_stand Z.clsP (pv 1) hr) pe_int (fun _ _ => rfl)) pa_nil))) pa_nil))))
    (pss_one (ps_ret (StX.pe_callO (pv 1) Z.callP (fr_call (P := P) (w := w) (base := base) Z) (hr.mono (by decide)) (passes_call (takes_of rfl rfl rfl rfl) (fun _ _ _ _ h => h)) (pa_cons (pe_ix ix_D (pv 3) pe_int (fun _ _ => rfl)) (pa_cons (pe_ix ix_D (pv 3) pe_int (fun _ _ => rfl)) pa_nil)))))), ?_⟩
  obtain ⟨d, n, a, p, vw, rfl, hd, hP, ok, hw, few, q⟩ := h
  obtain ⟨dx, _, _, _, _, _, ha, _⟩ := id hP
  refine ⟨_, rfl, _, rfl, _, rfl, a, dx, _, rfl, ha, a, p, rfl, hP, ok, fun v1 H1 k1 h1 => ?_⟩
  refine ⟨_, _, _, h1, rfl, rfl, fun u hu => ?_⟩
  obtain rfl := hu.int_
  refine ⟨vw, p.w, p.now.sd.ls, rfl, k1.dt hw, ok.w, fun l ys H2 k2 hl hne hlen hys => ?_⟩
  have k12 := k1.trans k2
  refine ⟨d, l, n, ys, rfl, hd.ext k12, SqL.of hl, hne, by omega, fun j v H3 hj k3 hd3 => ?_⟩
  obtain ⟨⟨dr, er⟩, hg, hv⟩ := hys v (List.mem_of_getElem? hj)
  have hv3 := k3.dt hv
  have hne : a ∉ [d.d] := fun z => hd.ne_pair hP (List.mem_singleton.mp z).symm
  have K3 : Kx K [d.d] H H3 := (Kx.ext k12).trans k3
  have hP3 := hP.kx K3 hne
  obtain ⟨dx3, _, _, _, _, _, ha3, _⟩ := id hP3
  refine ⟨_, rfl, a, rfl, _, rfl, _, _, _, hv3, rfl, rfl, fun u1 hu1 => ?_⟩
  obtain rfl := hu1.int_
  refine ⟨_, rfl, _, _, _, hv3, rfl, rfl, fun u2 hu2 => ?_⟩
  obtain rfl := hu2.opt_
  refine ⟨.inr ⟨dx3, _, ha3⟩, a, p, dr, er, rfl, hP3, ok, (fun z => by rw [hg] at z; cases z), (fun _ z => by omega), fun _ _ i H4 k4 hP4 => ?_⟩
  refine q (dr, er) i H4 hg ((K3.mono (by simp)).trans (k4.mono (by simp))) hP4 (hd3.kx k4 ?_)
  intro z
  exact hd.ne_pair hP (List.mem_singleton.mp z)
/-- the same as pair += some -/
theorem ok_added (Z : Tx K mg) : Cal P w K mg base (L2.CX P w) 7 "_law_added" p_law_added (spIadd K) := by
  obtain ⟨fd, F⟩ := Z.fn_law_added
  refine cal_of Z.g_law_added F sc_law_added (fun _ _ _ _ _ _ us hl => match us, hl with | [_, _], _ => rfl) (by intro vs H Q E h; repeat (first | (obtain ⟨rfl, _⟩ := h; rfl) | (obtain ⟨_, h⟩ := h))) fun cdv A outer s H vs Q E hr h => ?_
  refine ⟨_, (pss_cons (ps_aug (i := 0) sc_law_added.nd rfl (Or.inl rfl) (pv 1) (ip_own Z.m_iadd Z.pair.1 (fr_iadd (P := P) (w := w) (base := base) Z) hr (passes_call (takes_of rfl rfl rfl rfl) (fun _ _ _ _ h => h))))
    (pss_one (ps_ret (pv 0)))), ?_⟩
  obtain ⟨a, p, v, rs, rfl, hP, ok, hv, few, q1, q2, q3⟩ := h
  obtain ⟨dx, _, _, _, _, _, ha, _⟩ := id hP
  exact ⟨_, rfl, _, rfl, a, dx, _, rfl, ha, a, p, v, rs, rfl, hP, ok, hv, few, q1, q2, fun h1 h2 H' k h => ⟨_, rfl, q3 h1 h2 H' k h⟩⟩
def spStarted (K : PySem.W.Frag) : Sp := fun vs H Q _ => ∃ (d : Dr) (n : Nat) (vw vr : V) (b : Int) (x : Wd) (r : List Md), vs = [.ref d.d, vw, vr, .int b] ∧ DrawAt H d (n + 7) ∧ Dt K H vw x.d ∧ x.ok ∧ Dt K H vr (rD r) ∧ rOk r ∧ -500 ≤ b ∧ b ≤ 500 ∧
  ∀ a p H', Kx K [d.d] H H' → H a = none → PairAt K H' a p → Few p 5 → p.w = x → DrawAt H' d n → Q (.ref a) H'
theorem ok_started (Z : Tx K mg) : Cal P w K mg base (L2.CX P w) 12 "_law_started" p_law_started (spStarted K) := by
  obtain ⟨fd, F⟩ := Z.fn_law_started
  obtain ⟨fdI, FI⟩ := Z.fn_Pair_init
  refine cal_of Z.g_law_started F sc_law_started (fun _ _ _ _ _ _ us hl => match us, hl with | [_, _, _, _], _ => rfl) (by intro vs H Q E h; repeat (first | (obtain ⟨rfl, _⟩ := h; rfl) | (obtain ⟨_, h⟩ := h))) fun cdv A outer s H vs Q E hr h => ?_
  have GI := ok_Pair_init (P := P) (w := w) (base := base) Z FI
  have bI : Binds K fdI p_Pair_init [] := FI.bindsN (fun _ _ _ _ _ _ us hl => match us, hl with | [_, _, _, _], _ => rfl)
  have c_law_next := ok_next (P := P) (w := w) (base := base) Z
  have c_law_goes_on := ok_goes_on (P := P) (w := w) (base := base) Z
  have m_undo := m_undo1 (P := P) (w := w) (base := base) Z
  refine ⟨_, (pss_cons (ps_set (i := 4) sc_law_started.nd rfl (Or.inl rfl) (pe_make (E := E) Z.mkP GI (hr.mono (by decide)) (by rfl) Z.g_Pair bI .nil pass0 (pa_cons (pv 1) (pa_cons (pv 2) (pa_cons (pv 3) pa_nil)))))
    (pss_cons (ps_for (passes_of rfl) rfl (pi_range1 (by rfl) Z.f_range (pa_cons (pe_op op_add pe_int (pe_cal c_law_next hr pass0 (pa_cons (pv 0) (pa_cons pe_int pa_nil)))) pa_nil)) (pg_name (i := 5) sc_law_started.nd rfl (Or.inl rfl))
      (pss_one (ps_expr (pe_cal c_law_goes_on hr (passes_call (takes_of rfl rfl rfl rfl) (fun _ _ _ _ h => h)) (pa_cons (pv 0) (pa_cons (pv 4) (pa_cons (pv 1) pa_nil)))))))
    (pss_cons (ps_for (passes_of rfl) rfl (pi_range1 (by rfl) Z.f_range (pa_cons (pe_cal c_law_next hr pass0 (pa_cons (pv 0) (pa_cons pe_int pa_nil))) pa_nil)) (pg_name (i := 5) sc_law_started.nd rfl (Or.inl rfl))
      (pss_one (ps_expr (pe_mcal0 m_undo Z.clsP (pv 4) hr (passes_call (takes_of rfl rfl rfl rfl) (fun _ _ _ _ h => h))))))
    (pss_one (ps_ret (pv 4)))))), ?_⟩
  obtain ⟨d, n, vw, vr, b, x, r, rfl, hd, hw, xo, hr0, ro, b0, b1, q⟩ := h
  refine ⟨_, rfl, _, rfl, _, rfl, ?_⟩
  intro a dxa ha hda hne
  have e1 : Ext H (upd (upd H dxa (.own a)) a (.ins (ga K "Pair") dxa [])) := (Ext.new hda).trans (Ext.new (by rw [upd_ne hne.symm]; exact ha))
  refine ⟨a, dxa, vw, vr, b, x, r, rfl, upd_same, e1.dt hw, xo, e1.dt hr0, ro, b0, b1, fun H1 k1 hP => ⟨rfl, ?_⟩⟩
  have e2 : Ext H H1 := k1.since e1 (by intro c hc; rw [List.mem_singleton.mp hc]; exact ha)
  have hd1 := hd.ext e2
  have hne : d.d ≠ a := hd1.ne_pair hP
  have nm : a ∉ [d.d] := fun z => hne (List.mem_singleton.mp z).symm
  refine ⟨_, rfl, d, n + 6, 3, rfl, by decide, by decide, hd1, fun g H2 g0 g1 k2 hd2 => ?_⟩
  have K2 : Kx K [d.d] H H2 := (Kx.ext e2).trans k2
  refine ⟨_, _, rfl, rfl, _, rfl, by omega, by omega, for_range (n := (3 + g).toNat) (fun i σ H' => ∃ (p : Ps) (o5 : Option V), σ = [some (.ref d.d), some vw, some vr, some (.int b), some (.ref a), o5] ∧ Kx K [d.d] H H' ∧ PairAt K H' a p ∧ Few p i ∧ p.w = x ∧ p.past.length = i ∧ DrawAt H' d (n + 6 - i))
    ⟨_, _, rfl, K2, hP.kx k2 nm, few_new xo ro ⟨b0, b1⟩, rfl, rfl, hd2.less (by omega)⟩ ?_ ?_⟩
  · intro i σ H' hi p
    obtain ⟨p, o5, rfl, k', hP', few, hx, hl, hd'⟩ := p
    subst hx
    have i5 : i < 5 := by omega
    have f1 := few.now
    refine ⟨_, rfl, _, rfl, _, rfl, d, n + 6 - (i + 1), a, p, vw, rfl, hd'.less (by omega), hP', few.ok, k'.dt hw, by omega, fun r i2 H3 _ k3 hP3 hd3 => ?_⟩
    refine ⟨_, _, rfl, Kx.fresh k' ha k3, hP3, few.did (by omega), rfl, ?_, hd3⟩
    simp only [Ps.did, List.length_append, List.length_cons, List.length_nil]
    omega
  · intro σ H' p
    obtain ⟨p, o5, rfl, k', hP', few, hx, hl, hd'⟩ := p
    have few5 := few.mono (m := 5) (by omega)
    refine ⟨_, rfl, d, n, 3, rfl, by decide, by decide, hd'.less (by omega), fun g2 H3 h0 h1 k3 hd3 => ?_⟩
    refine ⟨_, rfl, by omega, by omega, for_range (n := g2.toNat) (fun i σ H' => ∃ (p : Ps) (o5 : Option V), σ = [some (.ref d.d), some vw, some vr, some (.int b), some (.ref a), o5] ∧ Kx K [d.d] H H' ∧ PairAt K H' a p ∧ Few p 5 ∧ p.w = x ∧ p.past.length + i = (3 + g).toNat ∧ DrawAt H' d n)
      ⟨p, _, rfl, k'.trans k3, hP'.kx k3 nm, few5, hx, hl, hd3⟩ ?_ ?_⟩
    · intro i σ H4 hi p
      obtain ⟨p, o5, rfl, k4, hP4, few4, hx4, hl4, hd4⟩ := p
      obtain ⟨dx4, _, _, _, _, _, ha4, _⟩ := id hP4
      refine ⟨_, rfl, a, dx4, _, rfl, ha4, rfl, a, p, 1, rfl, hP4, few4.ok, by decide, fun z => by omega, fun _ => ⟨rfl, fun init l H5 e5 k5 hP5 => ?_⟩⟩
      refine ⟨_, _, rfl, Kx.fresh k4 ha (k5.mono (by simp)), hP5, few4.undone e5, hx4, ?_, hd4.kx k5 (fun z => hne (List.mem_singleton.mp z))⟩
      rw [e5] at hl4
      simp only [List.length_append, List.length_cons, List.length_nil] at hl4
      simp only [Ps.undone]
      omega
    · intro σ H4 p
      obtain ⟨p, o5, rfl, k4, hP4, few4, hx4, hl4, hd4⟩ := p
      exact ⟨_, rfl, q a p H4 k4 ha hP4 few4 hx4 hd4⟩
end
end K21
/-! K22E: defs that make lambdas: their code objects' tables; _law_all. -/
namespace K21
open PySem PySem.Spec PyProof.Rows L2 LamX He NdefX
theorem code_ref {K : PySem.W.Frag} {p : Defn} {oc : Value} {od : Option Addr} {osl : Array (Option Value)} {fd : FuncData} {q : Str} (lk : K.lookup (fAd K p) = some ⟨oc, od, .func fd, osl⟩) (h : PySem.W.codeIn K fd.code q = true) : fd.code = .ref (cT K p).1 := by
  obtain ⟨c, e⟩ := codeIn_ref h
  show fd.code = .ref (codeOf K p)
  rw [codeOf_eq lk e]
  exact e
/-- FunD.ok, the code object told -/
theorem okT {P : Program} {w : World} {K : PySem.W.Frag} {mg : Str → Option Value} {base : Heap} {x qual : Str} {params : Arguments} {body : List Stmt} {scope : Scope} {dvs : List V} {kws : List (Str × V)} {fd : FuncData} {CX : CXT} {N ps : List Str} {k : Nat} {sp : Sp} (p : Defn)
    (F : FunD K x qual params body scope dvs kws (fAd K p) fd) (S : FnScope N ps scope) (len : ∀ vs H Q E, sp vs H Q E → vs.length = ps.length)
    (hbody : ∀ (A : Around) (outer : List Env) (s : Shared) (H : Hp) (vs : List V) (Q : VK) (E : XK), Room k (A.deeper (envOfC qual scope s.heap.objs.size (fAd K p) (.ref (cT K p).1))) → sp vs H Q E →
      ∃ t, PSs (cxOf CX P w K mg base N qual scope (fAd K p) (.ref (cT K p).1) A outer s H E) body t ∧ t { nx := fun _ H' => Q .non H', rt := Q } (start N vs) H) : FnOk P w K mg base CX (k + 1) (fAd K p) fd ps sp := by
  obtain ⟨oc, od, dV, kV, doc, pm, an, cdv, ct, osl, rfl, lk, hcd, _, _⟩ := F.ex
  have e : cdv = .ref (cT K p).1 := code_ref lk hcd
  subst e
  exact fn_of lk hcd S len fun A outer s H vs Q E hr hsp => hbody A outer s H vs Q E hr hsp
section
variable {P : Program} {w : World} {K : PySem.W.Frag} {mg : Str → Option Value} {base : Heap}
theorem cal_ofT {CX : CXT} {k : Nat} {x n qual : Str} {params : Arguments} {body : List Stmt} {scope : Scope} {kws : List (Str × V)} {fd : FuncData} {N ps : List Str} {sp : Sp} (p : Defn) (g : mg x = some (.ref (fAd K p))) (F : FunD K n qual params body scope [] kws (fAd K p) fd) (S : FnScope N ps scope)
    (hb : ∀ (kV doc pm : Value) (an : Option Addr) (cdv ct : Value) (us : List Value), us.length = ps.length → bindArgs (PySem.W.fnOf n qual params body scope .none kV doc pm an cdv ct) ⟨us, []⟩ = pure (ps.zip us))
    (len : ∀ vs H Q E, sp vs H Q E → vs.length = ps.length)
    (hbody : ∀ (A : Around) (outer : List Env) (s : Shared) (H : Hp) (vs : List V) (Q : VK) (E : XK), Room k (A.deeper (envOfC qual scope s.heap.objs.size (fAd K p) (.ref (cT K p).1))) → sp vs H Q E →
      ∃ t, PSs (cxOf CX P w K mg base N qual scope (fAd K p) (.ref (cT K p).1) A outer s H E) body t ∧ t { nx := fun _ H' => Q .non H', rt := Q } (start N vs) H) : Cal P w K mg base CX (k + 1) x ps sp :=
  ⟨_, fd, g, okT p F S len hbody, F.kp, F.bindsN hb⟩
theorem tk_in {p : Defn} {q : Str} (hp : p ∈ tfs) (e : q = p.1 ++ ".<locals>.<lambda>") : ((cT K p).2, q) ∈ TK K := List.mem_map.mpr ⟨p, hp, by rw [e]⟩
theorem nodup_inj {α β : Type} {f : α → β} : ∀ {xs : List α}, (xs.map f).Nodup → ∀ {a b : α}, a ∈ xs → b ∈ xs → f a = f b → a = b
  | [], _, a, _, h, _, _ => by cases h
  | x :: xs, hn, a, b, ha, hb, e => by
    rw [List.map_cons, List.nodup_cons] at hn
    rcases List.mem_cons.mp ha with ea | ha' <;> rcases List.mem_cons.mp hb with eb | hb'
    · rw [ea, eb]
    · exact (hn.1 (List.mem_map.mpr ⟨b, hb', by rw [← e, ea]⟩)).elim
    · exact (hn.1 (List.mem_map.mpr ⟨a, ha', by rw [e, eb]⟩)).elim
    · exact nodup_inj hn.2 ha' hb' e
theorem tk_u (Z : Tx K mg) {p : Defn} {q : Str} (hp : p ∈ tfs) (e : q = p.1 ++ ".<locals>.<lambda>") : ∀ r ∈ TK K, r.1 = (cT K p).2 → r.2 = q := fun r hr h => by
  obtain ⟨p', hp', rfl⟩ := List.mem_map.mp hr
  have hn := of_decide_eq_true Z.nd
  obtain rfl := nodup_inj hn hp' hp h
  exact e.symm
def freeB (sc outer : Scope) : Bool := sc.names.all fun y => !decide (y.2 = .free) || (decide (outer.names.lookup y.1 = some .cell) || decide (outer.names.lookup y.1 = some .free))
theorem free_by {sc outer : Scope} (h : freeB sc outer = true) : FreeIn sc outer := fun y hy e => by
  have := List.all_eq_true.mp h y hy
  simp only [e, decide_true, Bool.not_true, Bool.false_or, Bool.or_eq_true, decide_eq_true_eq] at this
  exact this
theorem LamNew.ke {M : List Addr} {H H1 : Hp} {f c' : Addr} {L : LF} (h : LamNew (TK K) H H1 f c' L) : Ke K M H H1 := by
  refine ⟨fun b o e c => h.1 b o e fun ps z => ?_, fun _ => h.2.2.1⟩
  subst z
  rcases c with c | c
  · cases c
  · cases c.2
theorem sh_word {x : Str} {d : PyData} {n : Nat} (h : PyData.strOk x = true) (hd : Sh n d) : Sh (n + 1) (.tuple [.str x, d]) := Sh.tup fun e he => by
  simp only [List.mem_cons, List.not_mem_nil, or_false] at he
  rcases he with rfl | rfl
  · exact Sh.str h
  · exact hd
/-- what is free now was free or a table -/
theorem Ke.old {M : List Addr} {H H1 : Hp} {a : Addr} (k : Ke K M H H1) (h : H1 a = none) (hM : a ∉ M := by simp) : ∀ x, H a = some x → isTbl x = true := fun x e => by
  cases q : isTbl x with
  | true => rfl
  | false => rw [k.kp a x e (.inr ⟨hM, q⟩)] at h; cases h
theorem Ke.freshT {M : List Addr} {H H1 H2 : Hp} {a : Addr} (k : Ke K M H H1) (ha : ∀ x, H a = some x → isTbl x = true) (k2 : Ke K (a :: M) H1 H2) : Ke K M H H2 := by
  refine ⟨fun b o e c => k2.kp b o (k.kp b o e c) (c.imp id fun z => ⟨fun m => ?_, z.2⟩), fun t => k2.tab (k.tab t)⟩
  rcases List.mem_cons.mp m with rfl | m
  · rw [ha _ e] at z
    cases z.2
  · exact z.1 m
theorem tabs_lstw {D : Addr} {xs ys : List V} {H1 : Hp} (t1 : Tabs (TK K) H1) (h1 : H1 D = some (.lst xs)) : Tabs (TK K) (upd H1 D (.lst ys)) := by
  intro q hq
  obtain ⟨ps, a1, a2, a3⟩ := t1 q hq
  refine ⟨ps, (upd_ne (ne_of a1 h1 (by intro z; cases z))).trans a1, a2, fun pos cv hc => ?_⟩
  obtain ⟨c, e1, e2⟩ := a3 pos cv hc
  exact ⟨c, e1, (upd_ne (ne_of e2 h1 (by intro z; unfold CodeO at z; cases z))).trans e2⟩
theorem Ke.lstw {M : List Addr} {D : Addr} {xs ys : List V} {H H1 : Hp} (k : Ke K M H H1) (h : H D = none) (h1 : H1 D = some (.lst xs)) : Ke K M H (upd H1 D (.lst ys)) :=
  ⟨fun b o e c => (upd_ne (ne_of_none e h)).trans (k.kp b o e c), fun t => tabs_lstw (k.tab t) h1⟩
theorem PairAt.lstw {D a : Addr} {xs ys : List V} {H1 : Hp} {p : Ps} (h : PairAt K H1 a p) (h1 : H1 D = some (.lst xs)) : PairAt K (upd H1 D (.lst ys)) a p := by
  obtain ⟨dx, vw, vr, vn, vp, vc, e0, e1, e2, e3, e4, e5⟩ := h
  have t : TupK H1 (upd H1 D (.lst ys)) := tk_lst h1
  exact ⟨dx, vw, vr, vn, vp, vc, (upd_ne (ne_of e0 h1 (by intro z; cases z))).trans e0, Dt.tk t _ _ e1, Dt.tk t _ _ e2, Dt.tk t _ _ e3, Dt.tk t _ _ e4, Dt.tk t _ _ e5⟩
theorem lamAt_new {X : Cx} {T : List (Addr × Str)} {H H0 H1 : Hp} {f : Addr} {σ : L2.St} {ps : Arguments} {e : Expr} {sc : Scope} {dV : Value} {c' : Addr} (hn : LamNew T H H1 f c' (mkLF X ps e sc dV c')) (N lps fr : List Str) (js : List Nat) (n k : Nat) {D : Hp → Prop} {full : List V → List V} {t : XK → TE} (S : NScope N lps fr sc) (hfree : FreeIn sc X.env.scope)
    (hfr : ∀ y ∈ fr, (y, NameKind.free) ∈ sc.names) (hjs : js.map (fun j => X.N[j]?) = fr.map some) (hfull : ∀ vs : List V, vs.length = n → (full vs).length = lps.length)
    (hb : ∀ (pm ctv : Value) (s : Shared) (H : Hp) (us : List Value) (vs : List V), HOk X.prog X.w H s.heap → D H → Vals vs us → vs.length = n → ∃ us2, Vals (full vs) us2 ∧ BindsTo s (lamFd (X.env.qual ++ "<lambda>") ps e sc (cloFrom X.env.cells sc.names []) dV pm (.ref c') ctv) ⟨us, []⟩ (lps.zip us2))
    (hbody : ∀ (pins : List (Addr × Obj)) (s0 : Shared), Inv X pins σ H0 s0 → ∀ (A : Around) (outer : List Env) (s : Shared) (H : Hp) (E : XK), Room k (A.deeper (envF (mkLF X ps e sc dV c').nf f s.heap.objs.size)) → NewFr X.stack outer s0.heap → Un (frs X.stack) [] H0 H s0.heap s.heap →
      PE (ncx (L2.CX X.prog X.w) X.prog X.w X.K X.mg X.base N (mkLF X ps e sc dV c').nf f A outer s H E) e (t E)) :
    LamAt X (k + 1) σ H0 f (lamTl f (mkLF X ps e sc dV c') n D full N (js.map (slotAt σ)) t) := lamAt_of S hfree hfr hjs hfull hb hbody
/-- the tables of the defs that make lambdas -/
abbrev TBs (K : PySem.W.Frag) (mg : Str → Option Value) (base : Heap) : Prop := ∀ p ∈ tfs, TabB base mg (cT K p).1 (cT K p).2
theorem q_all : (d_law_all.qual ++ ".<locals>.") ++ "<lambda>" = (("_law_all", none) : Defn).1 ++ ".<locals>.<lambda>" := by decide +kernel
theorem in_all : (("_law_all", none) : Defn) ∈ tfs := by decide +kernel
def rsD (s : Sn) : PyData := .tuple (s.rs.map Rd.d)
def unD (xs : List Sn) : List PyData := xs.reverse.map rsD
theorem unD_snoc (xs : List Sn) (l : Sn) : unD (xs ++ [l]) = rsD l :: unD xs := by simp [unD]
def sixD (p : Ps) : List PyData := [p.w.d, rD p.r, p.now.sd.d, rsD p.now, p.now.far, .int p.now.rs.length]
def allD (p : Ps) : List PyData := sixD p ++ unD p.past ++ unD p.coming
def spAll (K : PySem.W.Frag) : Sp := fun vs H Q _ => ∃ (a : Addr) (p : Ps), vs = [.ref a] ∧ PairAt K H a p ∧ p.ok ∧ Tabs (TK K) H ∧ ∀ l us H', Ke K [] H H' → H l = none → H' l = some (.lst us) → DtAll K H' us (allD p) → Q (.ref l) H'
theorem ok_all (Z : Tx K mg) (TB : TBs K mg base) : Cal P w K mg base (L2.CX P w) 13 "_law_all" p_law_all (spAll K) := by
  obtain ⟨fd, F⟩ := Z.fn_law_all
  refine cal_ofT ("_law_all", none) Z.g_law_all F sc_law_all (fun _ _ _ _ _ _ us hl => match us, hl with | [_], _ => rfl) (by intro vs H Q E h; repeat (first | (obtain ⟨rfl, _⟩ := h; rfl) | (obtain ⟨_, h⟩ := h))) fun A outer s H vs Q E hr h => ?_
  have m_copy := ok_copy (P := P) (w := w) (base := base) Z
  have m_undo := m_undo1 (P := P) (w := w) (base := base) Z
  have m_redo := m_redo1 (P := P) (w := w) (base := base) Z
  have c_world := ok_world (P := P) (w := w) (base := base) Z
  have c_rule := ok_rule (P := P) (w := w) (base := base) Z
  have c_stand := ok_stand (P := P) (w := w) (base := base) Z
  have c_rounds := ok_rounds (P := P) (w := w) (base := base) Z
  have c_far := ok_farthest (P := P) (w := w) (base := base) Z
  have c_said := ok_said (P := P) (w := w) (base := base) Z 10 (by decide)
  refine ⟨_, (pss_cons (ps_asg (pe_tup (pa_cons (pe_mcal0 (E := E) m_copy Z.clsP (pv 0) hr pass0) (pa_cons (pe_lst (pa_cons (pe_pcal (E := E) c_world Z.clsP (pv 0) hr) (pa_cons (pe_pcal (E := E) c_rule Z.clsP (pv 0) hr) (pa_cons (pe_pcal (E := E) c_stand Z.clsP (pv 0) hr) (pa_cons (pe_pcal (E := E) c_rounds Z.clsP (pv 0) hr) (pa_cons (pe_pcal (E := E) c_far Z.clsP (pv 0) hr) (pa_cons (pe_callB (call_lenO (E := E) Z.m_len (fr_len (P := P) (w := w) (base := base) Z) (hr.mono (by decide)) pass0) (by rfl) Z.f_len bt_len (pa_cons (pv 0) pa_nil)) pa_nil))))))) pa_nil))) (pg_tup rfl (pgs_cons (pg_name (i := 1) sc_law_all.nd rfl (Or.inr rfl)) (pgs_cons (pg_name (i := 2) sc_law_all.nd rfl (Or.inl rfl)) pgs_nil))))
    (pss_cons (ps_while (passes_of rfl) (pt_cmpR (op_eqD hr.units) (pe_calC c_said hr (passes_call (takes_of rfl rfl rfl rfl) (fun _ _ _ _ h => h)) (pa_cons (pe_lam0 (T := TK K) (TB _ in_all) rfl (tk_in in_all q_all) (tk_u Z in_all q_all) (free_by (outer := defScope s_law_all) (by decide +kernel))) pa_nil)) (pe_lst (pa_cons pe_non pa_nil)) (nomark _))
      (pss_one (ps_expr (pe_bm PySem.F.plainAttrs_list PySem.F.slot_list_append PySem.F.type_list_append mt_append (pv 2) (pa_cons (pe_pcal (E := E) c_rounds Z.clsP (pv 1) hr) pa_nil)))))
    (pss_cons (ps_set (i := 1) sc_law_all.nd rfl (Or.inr rfl) (pe_mcal0 (E := E) m_copy Z.clsP (pv 0) hr pass0))
    (pss_cons (ps_while (passes_of rfl) (pt_cmpR (op_eqD hr.units) (pe_calC c_said hr (passes_call (takes_of rfl rfl rfl rfl) (fun _ _ _ _ h => h)) (pa_cons (pe_lam1 (T := TK K) (TB _ in_all) rfl (tk_in in_all q_all) (tk_u Z in_all q_all) (free_by (outer := defScope s_law_all) (by decide +kernel))) pa_nil)) (pe_lst (pa_cons pe_non pa_nil)) (nomark _))
      (pss_one (ps_expr (pe_bm PySem.F.plainAttrs_list PySem.F.slot_list_append PySem.F.type_list_append mt_append (pv 2) (pa_cons (pe_pcal (E := E) c_rounds Z.clsP (pv 1) hr) pa_nil)))))
    (pss_one (ps_ret (pv 2))))))), ?_⟩
  obtain ⟨a, p, rfl, hP, ok, hT, q⟩ := h
  obtain ⟨dx, _, _, _, _, _, ha, _⟩ := id hP
  refine ⟨_, rfl, a, dx, _, rfl, ha, rfl, a, p, rfl, hP, ok, fun o H1 k1 ho hO => ?_⟩
  refine ⟨_, rfl, a, dx, _, rfl, k1 _ _ ha, a, p, rfl, hP.ext k1, ok, fun v1 H2 k2 h1 => ?_⟩
  have j2 := k1.trans k2
  refine ⟨_, rfl, a, dx, _, rfl, j2 _ _ ha, a, p, rfl, hP.ext j2, ok, fun v2 H3 k3 h2 => ?_⟩
  have j3 := j2.trans k3
  refine ⟨_, rfl, a, dx, _, rfl, j3 _ _ ha, a, p, rfl, hP.ext j3, ok, fun v3 H4 k4 h3 => ?_⟩
  have j4 := j3.trans k4
  refine ⟨_, rfl, a, dx, _, rfl, j4 _ _ ha, a, p, rfl, hP.ext j4, ok, fun v4 H5 k5 h4 => ?_⟩
  have j5 := j4.trans k5
  refine ⟨_, rfl, a, dx, _, rfl, j5 _ _ ha, a, p, rfl, hP.ext j5, ok, fun v5 H6 k6 h5 => ?_⟩
  have j6 := j5.trans k6
  refine ⟨_, rfl, a, dx, _, rfl, j6 _ _ ha, a, p, rfl, hP.ext j6, p.now.rs.length, rfl, ok.now.few, ?_⟩
  refine ⟨sm 6, fun l hl => ⟨sm 2, fun g hg => ?_⟩⟩
  refine ⟨g, _, rfl, SqT.of upd_same, rfl, _, _, rfl, _, _, rfl, rfl, ?_⟩
  have hlH : H l = none := by
    cases e : H l with
    | none => rfl
    | some x => rw [j6 _ _ e] at hl; cases hl
  have jl : Ext H6 (upd H6 l (.lst [v1, v2, v3, v4, v5, .int p.now.rs.length])) := Ext.new hl
  have jg := Ext.new (o := .tup [.ref o, .ref l]) hg
  have hl7 := jg _ _ (upd_same (H := H6) (a := l) (o := .lst [v1, v2, v3, v4, v5, .int p.now.rs.length]))
  have j7 := jl.trans jg
  generalize upd (upd H6 l (.lst [v1, v2, v3, v4, v5, .int p.now.rs.length])) g (.tup [.ref o, .ref l]) = H7 at hl7 j7
  clear jl jg hl hg
  have hus : DtAll K H7 [v1, v2, v3, v4, v5, .int p.now.rs.length] (sixD p) := .cons ((k3.trans (k4.trans (k5.trans (k6.trans j7)))).dt h1) (.cons ((k4.trans (k5.trans (k6.trans j7))).dt h2) (.cons ((k5.trans (k6.trans j7)).dt h3) (.cons ((k6.trans j7).dt h4) (.cons (j7.dt h5) (.cons (.int _) .nil)))))
  have hO7 : PairAt K H7 o p := hO.ext (k2.trans (k3.trans (k4.trans (k5.trans (k6.trans j7)))))
  have K7 : Ke K [] H H7 := .ext (j6.trans j7)
  refine ⟨fun m σ H' => ∃ (r : Ps) (us : List V) (done : List PyData), σ = [some (.ref a), some (.ref o), some (.ref l)] ∧ Ke K [] H H' ∧ H' l = some (.lst us) ∧ DtAll K H' us (sixD p ++ done) ∧ PairAt K H' o r ∧ r.ok ∧ r.past.length = m ∧ done ++ unD r.past = unD p.past ∧ Tabs (TK K) H',
    ⟨p.past.length, p, _, [], rfl, K7, hl7, by rw [List.append_nil]; exact hus, hO7, ok, rfl, rfl, K7.tab hT⟩, fun m σ H8 w8 => ?_⟩
  obtain ⟨r, us, done, rfl, k8, hl8, hus8, hO8, rok, hm, hd, hT8⟩ := w8
  refine ⟨hT8, fun f c' H9 n9 => ?_⟩
  refine fun C hC => ⟨f, _, rfl, hC f _ (lamAt_new n9 ["_law_other"] [] ["_law_other"] [1] 0 9 (nscope_by (by decide +kernel)) (free_by (outer := defScope s_law_all) (by decide +kernel)) (by decide +kernel) rfl (fun vs h => h) (lam_bind0 (lps := []) (fun pm ctv us hl => match us, hl with | [], _ => rfl)) (fun pins s0 I A2 outer2 s2 H2 E2 hr2 nf un => pe_mcal0 m_undo Z.clsP (pv 0) hr2 (passes_call (takes_of rfl rfl rfl rfl) (fun _ _ _ _ h => h)))), fun H10 k10 => ?_⟩
  refine ⟨k10 _ _ n9.2.2.2.2.1, k10 _ _ n9.2.2.2.2.2, rfl, trivial, ?_⟩
  have K9 : Ke K [] H8 H9 := n9.ke
  have K10 : Ke K [] H8 H10 := K9.trans (.ext k10)
  have hO10 := hO8.ke K10 (by simp)
  obtain ⟨dxo, _, _, _, _, _, ho10, _⟩ := id hO10
  refine ⟨_, rfl, o, dxo, _, rfl, ho10, rfl, o, r, 1, rfl, hO10, rok, by decide, fun hm0 => ?_, fun hm1 => ⟨rfl, fun init l' H11 e11 k11 hO11 => ?_⟩⟩
  rotate_left
  · intro p0 hp0
    refine ⟨sm 1, fun D hD => ?_⟩
    have hO12 := (hO11.ext (Ext.new (o := .lst [.non]) hp0)).ext (Ext.new (o := .lst [.non]) hD)
    have hl12 := ((Ext.new (o := .lst [.non]) hp0).trans (Ext.new (o := .lst [.non]) hD)) _ _ (k11.lst (K10.lst hl8))
    have K12 : Ke K [] H (upd (upd H11 p0 (.lst [.non])) D (.lst [.non])) := (Ke.freshT (k8.trans K10) (fun x e => by rw [ho] at e; cases e) k11.ke).trans (.ext ((Ext.new hp0).trans (Ext.new hD)))
    have hus12 := DtAll.tk ((((K10.mono (M' := [o]) (by simp)).trans k11.ke).trans (.ext ((Ext.new (o := .lst [.non]) hp0).trans (Ext.new (o := .lst [.non]) hD)))) : Ke K [o] H8 _).tk _ _ hus8
    refine ⟨.list [.none], .list [.none], .lst (SqL.of ((Ext.new hD) _ _ upd_same)) (.cons .non .nil), .lst (SqL.of upd_same) (.cons .non .nil), (Sh.lst (n := 0) (by simp [Sh.non])).shaped, (Sh.lst (n := 0) (by simp [Sh.non])).shaped, _, rfl, ifT (Sh.lst (n := 0) (by simp [Sh.non])).eqv ⟨_, fun _ _ h => h, ?_⟩⟩
    generalize upd (upd H11 p0 (.lst [.non])) D (.lst [.non]) = H12 at hO12 hl12 K12 hus12
    obtain ⟨dxo2, _, _, _, _, _, ho12, _⟩ := id hO12
    have rok2 := rok.undone e11
    refine ⟨_, rfl, .inl ⟨rfl, _, SqL.of hl12⟩, _, rfl, o, dxo2, _, rfl, ho12, o, _, rfl, hO12, rok2, fun v13 H13 k13 h13 => ?_⟩
    have hd2 : done ++ [rsD l'] ++ unD init = unD p.past := by
      rw [← hd, e11, unD_snoc, List.append_assoc] <;> rfl
    have few : us.length ≤ 2010 := by
      have e1 := congrArg List.length hd
      have e2 := hus8.length
      have e3 := ok.few
      simp only [unD, sixD, List.length_append, List.length_map, List.length_reverse, List.length_cons, List.length_nil] at e1 e2
      omega
    have hl13 := k13 _ _ hl12
    have hus13 := DtAll.tk (Ke.ext (K := K) (M := []) k13).tk _ _ hus12
    refine ⟨l, _, _, rfl, rfl, hl13, Nat.lt_of_le_of_lt few (by show (2010 : Nat) < sizeLine; decide), ?_⟩
    refine ⟨init.length, ?_, _, us ++ [v13], done ++ [rsD l'], rfl, Ke.lstw (K12.trans (.ext k13)) hlH hl13, upd_same, ?_, (hO12.ext k13).lstw hl13, rok2, rfl, hd2, tabs_lstw ((K12.trans (.ext k13)).tab hT) hl13⟩
    · rw [← hm, e11, List.length_append]
      exact Nat.lt_succ_self _
    · rw [← List.append_assoc]
      exact DtAll.tk (tk_lst hl13) _ _ (hus13.append (.cons h13 .nil))
  · intro x v H11 k11 hx hx11 hv
    refine ⟨eLeft, "left", x, v, _, by simp [four], rfl, rfl, hx11, hv, fun u H12 k12 hu => ⟨sm 1, fun D hD => ?_⟩⟩
    have k13 := Ext.new (o := .lst [.non]) hD
    have j13 := k11.trans (k12.trans k13)
    refine ⟨_, .list [.none], Dt.dp _ _ (k13.dt hu), .lst (SqL.of upd_same) (.cons .non .nil), (sh_word (by decide +kernel) (Sh.int (n := 0) 1)).shaped, (Sh.lst (n := 0) (by simp [Sh.non])).shaped, _, rfl, ifN (by rfl) ?_⟩
    have K13 : Ke K [] H (upd H12 D (.lst [.non])) := (k8.trans K10).trans (.ext j13)
    have hl13 := j13 _ _ (K10.lst hl8)
    have hus13 := DtAll.tk (K10.trans (.ext j13)).tk _ _ hus8
    generalize upd H12 D (.lst [.non]) = H13 at K13 hl13 hus13
    have hnil : r.past = [] := List.length_eq_zero_iff.mp (by omega)
    rw [hnil] at hd
    have hd : done = unD p.past := by rw [← hd]; simp [unD]
    subst hd
    clear j13 k13 hD hu k12 hx11 hv hx k11 hm0 ho10 hO10 hus8 hl8 hO8 hT8
    have haE := K13.kp _ _ ha (.inr ⟨by simp, rfl⟩)
    have hPE := hP.ke K13 (by simp)
    refine ⟨_, rfl, a, dx, _, rfl, haE, rfl, a, p, rfl, hPE, ok, fun o2 H7 k7 ho2 hO7 => ?_⟩
    have K7 : Ke K [] H H7 := K13.trans (.ext k7)
    have ho2H := K13.old ho2
    have hl7 := k7 _ _ hl13
    have hus7 := DtAll.tk (Ke.ext (K := K) (M := []) k7).tk _ _ hus13
    clear k7 haE hPE hus13 hl13 K13 hm rok
    refine ⟨fun m σ H' => ∃ (r : Ps) (us : List V) (done : List PyData), σ = [some (.ref a), some (.ref o2), some (.ref l)] ∧ Ke K [] H H' ∧ H' l = some (.lst us) ∧ DtAll K H' us (sixD p ++ unD p.past ++ done) ∧ PairAt K H' o2 r ∧ r.ok ∧ r.coming.length = m ∧ done ++ unD r.coming = unD p.coming ∧ Tabs (TK K) H',
      ⟨p.coming.length, p, _, [], rfl, K7, hl7, by rw [List.append_nil]; exact hus7, hO7, ok, rfl, rfl, K7.tab hT⟩, fun m σ H8 w8 => ?_⟩
    obtain ⟨r, us, done, rfl, k8, hl8, hus8, hO8, rok, hm, hd, hT8⟩ := w8
    refine ⟨hT8, fun dd hdd f c' H9 n9 => ?_⟩
    refine fun C hC => ⟨f, _, rfl, hC f _ (lamAt_new n9 ["_law_n", "_law_other"] ["_law_n"] ["_law_other"] [1] 0 9 (nscope_by (by decide +kernel)) (free_by (outer := defScope s_law_all) (by decide +kernel)) (by decide +kernel) rfl (fun vs h => rfl) (lam_bind1 (x := "_law_n") (d := dd) (i := 0) (fun pm ctv u => ⟨_, rfl, rfl⟩)) (fun pins s0 I A2 outer2 s2 H2 E2 hr2 nf un => pe_mcal0 m_redo Z.clsP (pv 1) hr2 (passes_call (takes_of rfl rfl rfl rfl) (fun _ _ _ _ h => h)))), fun H10 k10 => ?_⟩
    refine ⟨k10 _ _ n9.2.2.2.2.1, k10 _ _ n9.2.2.2.2.2, rfl, k10 _ _ (n9.1 _ _ upd_same (by intro ps z; cases z)), ?_⟩
    have K9 : Ke K [] H8 H9 := (Ke.new hdd).trans n9.ke
    have K10 : Ke K [] H8 H10 := K9.trans (.ext k10)
    have hO10 := hO8.ke K10 (by simp)
    obtain ⟨dxo, _, _, _, _, _, ho10, _⟩ := id hO10
    refine ⟨_, rfl, o2, dxo, _, rfl, ho10, rfl, o2, r, 1, rfl, hO10, rok, by decide, fun hm0 => ?_, fun hm1 => ⟨rfl, fun init l' H11 e11 k11 hO11 => ?_⟩⟩
    rotate_left
    · intro p0 hp0
      refine ⟨sm 1, fun D hD => ?_⟩
      have hO12 := (hO11.ext (Ext.new (o := .lst [.non]) hp0)).ext (Ext.new (o := .lst [.non]) hD)
      have hl12 := ((Ext.new (o := .lst [.non]) hp0).trans (Ext.new (o := .lst [.non]) hD)) _ _ (k11.lst (K10.lst hl8))
      have K12 : Ke K [] H (upd (upd H11 p0 (.lst [.non])) D (.lst [.non])) := (Ke.freshT (k8.trans K10) ho2H k11.ke).trans (.ext ((Ext.new hp0).trans (Ext.new hD)))
      have hus12 := DtAll.tk ((((K10.mono (M' := [o2]) (by simp)).trans k11.ke).trans (.ext ((Ext.new (o := .lst [.non]) hp0).trans (Ext.new (o := .lst [.non]) hD)))) : Ke K [o2] H8 _).tk _ _ hus8
      refine ⟨.list [.none], .list [.none], .lst (SqL.of ((Ext.new hD) _ _ upd_same)) (.cons .non .nil), .lst (SqL.of upd_same) (.cons .non .nil), (Sh.lst (n := 0) (by simp [Sh.non])).shaped, (Sh.lst (n := 0) (by simp [Sh.non])).shaped, _, rfl, ifT (Sh.lst (n := 0) (by simp [Sh.non])).eqv ⟨_, fun _ _ h => h, ?_⟩⟩
      generalize upd (upd H11 p0 (.lst [.non])) D (.lst [.non]) = H12 at hO12 hl12 K12 hus12
      obtain ⟨dxo2, _, _, _, _, _, ho12, _⟩ := id hO12
      have rok2 := rok.redone e11
      refine ⟨_, rfl, .inl ⟨rfl, _, SqL.of hl12⟩, _, rfl, o2, dxo2, _, rfl, ho12, o2, _, rfl, hO12, rok2, fun v13 H13 k13 h13 => ?_⟩
      have hd2 : done ++ [rsD l'] ++ unD init = unD p.coming := by
        rw [← hd, e11, unD_snoc, List.append_assoc] <;> rfl
      have few : us.length ≤ 2010 := by
        have e1 := congrArg List.length hd
        have e2 := hus8.length
        have e3 := ok.few
        simp only [unD, sixD, List.length_append, List.length_map, List.length_reverse, List.length_cons, List.length_nil] at e1 e2
        omega
      have hl13 := k13 _ _ hl12
      have hus13 := DtAll.tk (Ke.ext (K := K) (M := []) k13).tk _ _ hus12
      refine ⟨l, _, _, rfl, rfl, hl13, Nat.lt_of_le_of_lt few (by show (2010 : Nat) < sizeLine; decide), ?_⟩
      refine ⟨init.length, ?_, _, us ++ [v13], done ++ [rsD l'], rfl, Ke.lstw (K12.trans (.ext k13)) hlH hl13, upd_same, ?_, (hO12.ext k13).lstw hl13, rok2, rfl, hd2, tabs_lstw ((K12.trans (.ext k13)).tab hT) hl13⟩
      · rw [← hm, e11, List.length_append]
        exact Nat.lt_succ_self _
      · rw [← List.append_assoc]
        exact DtAll.tk (tk_lst hl13) _ _ (hus13.append (.cons h13 .nil))
    · intro x v H11 k11 hx hx11 hv
      refine ⟨eLeft, "left", x, v, _, by simp [four], rfl, rfl, hx11, hv, fun u H12 k12 hu => ⟨sm 1, fun D hD => ?_⟩⟩
      have k13 := Ext.new (o := .lst [.non]) hD
      have j13 := k11.trans (k12.trans k13)
      refine ⟨_, .list [.none], Dt.dp _ _ (k13.dt hu), .lst (SqL.of upd_same) (.cons .non .nil), (sh_word (by decide +kernel) (Sh.int (n := 0) 1)).shaped, (Sh.lst (n := 0) (by simp [Sh.non])).shaped, _, rfl, ifN (by rfl) ?_⟩
      have K13 : Ke K [] H (upd H12 D (.lst [.non])) := (k8.trans K10).trans (.ext j13)
      have hl13 := j13 _ _ (K10.lst hl8)
      have hus13 := DtAll.tk (K10.trans (.ext j13)).tk _ _ hus8
      generalize upd H12 D (.lst [.non]) = H13 at K13 hl13 hus13
      have hnil : r.coming = [] := List.length_eq_zero_iff.mp (by omega)
      rw [hnil] at hd
      have hd : done = unD p.coming := by rw [← hd]; simp [unD]
      subst hd
      clear j13 k13 hD hu k12 hx11 hv hx k11 hm0 ho10 hO10 hus8 hl8 hO8 hT8
      exact ⟨_, rfl, q l _ H13 K13 hlH hl13 hus13⟩
end
end K21
/-! K22F: _law_inside, _law_within, _law_ended. -/
namespace K21
open PySem PySem.Spec PyProof.Rows L2 LamX He NdefX
theorem gone_nil (p : Ps) : (p.gone []).1 = none := rfl
section
variable {P : Program} {w : World} {K : PySem.W.Frag} {mg : Str → Option Value} {base : Heap}
def spInside (K : PySem.W.Frag) : Sp := fun vs H Q _ => ∃ (d : Dr) (n m : Nat) (a : Addr) (p : Ps) (vw : V), vs = [.ref d.d, .ref a, .ref a, vw] ∧ DrawAt H d (n + 6) ∧ PairAt K H a p ∧ Few p m ∧ m ≤ 500 ∧ Dt K H vw p.w.d ∧
  ∀ i p' H', Kx K [a, d.d] H H' → PairAt K H' a p' → p'.w = p.w → p'.r = p.r → p'.b = p.b → DrawAt H' d n → Q (.int i) H'
theorem ok_inside (Z : Tx K mg) : Cal P w K mg base (L2.CX P w) 10 "_law_inside" p_law_inside (spInside K) := by
  obtain ⟨fd, F⟩ := Z.fn_law_inside
  refine cal_of Z.g_law_inside F sc_law_inside (fun _ _ _ _ _ _ us hl => match us, hl with | [_, _, _, _], _ => rfl) (by intro vs H Q E h; repeat (first | (obtain ⟨rfl, _⟩ := h; rfl) | (obtain ⟨_, h⟩ := h))) fun cdv A outer s H vs Q E hr h => ?_
  have c_law_next := ok_next (P := P) (w := w) (base := base) Z
  have c_law_goes_on := ok_goes_on (P := P) (w := w) (base := base) Z
  have c_rounds := ok_rounds (P := P) (w := w) (base := base) Z
  have m_undo := m_undo1 (P := P) (w := w) (base := base) Z
  refine ⟨_, (pss_cons (ps_for (passes_of rfl) rfl (pi_range1 (by rfl) Z.f_range (pa_cons (pe_op op_add pe_int (pe_cal c_law_next hr pass0 (pa_cons (pv 0) (pa_cons pe_int pa_nil)))) pa_nil)) (pg_name (i := 4) sc_law_inside.nd rfl (Or.inl rfl))
      (pss_one (ps_expr (pe_cal c_law_goes_on hr (passes_call (takes_of rfl rfl rfl rfl) (fun _ _ _ _ h => h)) (pa_cons (pv 0) (pa_cons (pv 1) (pa_cons (pv 3) pa_nil)))))))
    (pss_cons (ps_if (PW.pt (pw_or (pt_cmpR (op_neO (E := E) Z.m_eq Z.pair.2.1 Z.pair.2.2 (fr_eq (P := P) (w := w) (base := base) Z) (hr.mono (by decide)) pass0) (pv 1) (pv 2) (nomark _)) (pw_or1 (pt_cmpR (op_neT hr.units) (pe_pcal (E := E) c_rounds Z.clsP (pv 1) hr) (pe_pcal (E := E) c_rounds Z.clsP (pv 2) hr) (nomark _)))))
      (pss_one (ps_ret pe_non))
      pss_nil)
    (pss_cons (ps_mid (ps_if (pt_cmpR op_eq (pe_cal c_law_next hr pass0 (pa_cons (pv 0) (pa_cons pe_int pa_nil))) pe_int (nomark _))
      (pss_one (ps_expr (pe_mcal0 m_undo Z.clsP (pv 1) hr (passes_call (takes_of rfl rfl rfl rfl) (fun _ _ _ _ h => h)))))
      pss_nil))
    (pss_cons (ps_mid (ps_if (pt_cmpR op_eq (pe_cal c_law_next hr pass0 (pa_cons (pv 0) (pa_cons pe_int pa_nil))) pe_int (nomark _))
      (pss_one (ps_aug (i := 1) sc_law_inside.nd rfl (Or.inl rfl) (pe_tupD pa_nil) (ip_own Z.m_iadd Z.pair.1 (fr_iadd (P := P) (w := w) (base := base) Z) (hr.mono (by decide)) (passes_call (takes_of rfl rfl rfl rfl) (fun _ _ _ _ h => h)))))
      pss_nil))
    (pss_one (ps_ret (pe_callB (call_lenO (E := E) Z.m_len (fr_len (P := P) (w := w) (base := base) Z) (hr.mono (by decide)) pass0) (by rfl) Z.f_len bt_len (pa_cons (pv 1) pa_nil)))))))), ?_⟩
  obtain ⟨d, n, m, a, p, vw, rfl, hd, hP, few, hm, hw, q⟩ := h
  have hda := hd.ne_pair hP
  have nda : d.d ∉ [a] := fun z => hda (List.mem_singleton.mp z)
  have nad : a ∉ [d.d] := fun z => hda (List.mem_singleton.mp z).symm
  refine ⟨_, rfl, d, n + 5, 3, rfl, by decide, by decide, hd, fun g H1 g0 g1 k1 hd1 => ?_⟩
  refine ⟨_, _, rfl, rfl, _, rfl, by omega, by omega, for_range (n := (1 + g).toNat) (fun i σ H' => ∃ (r : Ps) (o5 : Option V), σ = [some (.ref d.d), some (.ref a), some (.ref a), some vw, o5] ∧ Kx K [a, d.d] H H' ∧ PairAt K H' a r ∧ Few r (m + i) ∧ r.w = p.w ∧ r.r = p.r ∧ r.b = p.b ∧ r.past.length ≥ i ∧ DrawAt H' d (n + 5 - i))
    ⟨p, _, rfl, k1.mono (by simp), hP.kx k1 nad, few, rfl, rfl, rfl, Nat.zero_le _, hd1.less (by omega)⟩ ?_ ?_⟩
  · intro i σ H' hi w8
    obtain ⟨r, o5, rfl, k', hP', few', w1, w2, w3, hl, hd'⟩ := w8
    have i3 : i < 3 := by omega
    have f1 := few'.now
    refine ⟨_, rfl, _, rfl, _, rfl, d, n + 5 - (i + 1), a, r, vw, rfl, hd'.less (by omega), hP', few'.ok, by rw [w1]; exact k'.dt hw, by omega, fun one i2 H3 _ k3 hP3 hd3 => ?_⟩
    refine ⟨_, _, rfl, k'.trans k3, hP3, few'.did (by omega), w1, w2, w3, ?_, hd3⟩
    simp only [Ps.did, List.length_append, List.length_cons, List.length_nil]
    omega
  · intro σ H2 w8
    obtain ⟨r, o5, rfl, k2, hP2, few2, w1, w2, w3, hl, hd2⟩ := w8
    obtain ⟨dx, _, _, _, _, _, ha, _⟩ := id hP2
    refine ⟨_, rfl, _, rfl, a, a, dx, dx, _, _, rfl, rfl, ha, ha, a, a, r, rfl, hP2, hP2, true, rfl, _, rfl, ifN rfl ?_⟩
    refine ⟨_, rfl, a, dx, _, rfl, ha, a, r, rfl, hP2, few2.ok, fun v3 H3 k3 h3 => ?_⟩
    refine ⟨_, rfl, a, dx, _, rfl, k3 _ _ ha, a, r, rfl, hP2.ext k3, few2.ok, fun v4 H4 k4 h4 => ?_⟩
    refine ⟨_, _, k4.dt h3, h4, (sh_rds _).shaped, (sh_rds _).shaped, _, rfl, ifN ?_ ?_⟩
    · rw [(sh_rds r.now.rs).eqv] <;> rfl
    have hP4 := (hP2.ext k3).ext k4
    have ha4 := k4 _ _ (k3 _ _ ha)
    have K4 : Kx K [a, d.d] H H4 := k2.trans ((Kx.ext k3).trans (.ext k4))
    have hd4 : DrawAt H4 d (n + 2) := ((hd2.ext k3).ext k4).less (by omega)
    refine ⟨fun σ H' => σ = [some (.ref d.d), some (.ref a), some (.ref a), some vw, o5] ∧ ∃ r2 : Ps, Kx K [a, d.d] H H' ∧ PairAt K H' a r2 ∧ Few r2 (m + 3) ∧ r2.w = p.w ∧ r2.r = p.r ∧ r2.b = p.b ∧ DrawAt H' d (n + 1), ?_, ?_⟩
    · refine ⟨_, rfl, d, n + 1, 2, rfl, by decide, by decide, hd4, fun g5 H5 _ _ k5 hd5 => ?_⟩
      have hP5 := hP4.kx k5 nad
      obtain ⟨dx5, _, _, _, _, _, ha5, _⟩ := id hP5
      refine ⟨rfl, _, rfl, ifC (fun _ => ?_) fun _ => ?_⟩
      · refine ⟨_, rfl, a, dx5, _, rfl, ha5, rfl, a, r, 1, rfl, hP5, few2.ok, by decide, fun z => by omega, fun _ => ⟨rfl, fun init l H6 e6 k6 hP6 => ?_⟩⟩
        exact ⟨rfl, _, (K4.trans (k5.mono (by simp))).trans (k6.mono (by simp)), hP6, (few2.undone e6).mono (by omega), w1, w2, w3, hd5.kx k6 nda⟩
      · exact ⟨rfl, r, K4.trans (k5.mono (by simp)), hP5, few2.mono (by omega), w1, w2, w3, hd5⟩
    rintro σ H5 ⟨rfl, r2, k5, hP5, few5, x1, x2, x3, hd5⟩
    refine ⟨fun σ H' => σ = [some (.ref d.d), some (.ref a), some (.ref a), some vw, o5] ∧ ∃ r2 : Ps, Kx K [a, d.d] H H' ∧ PairAt K H' a r2 ∧ r2.now.rs.length ≤ 1000 ∧ r2.w = p.w ∧ r2.r = p.r ∧ r2.b = p.b ∧ DrawAt H' d n, ?_, ?_⟩
    · refine ⟨_, rfl, d, n, 3, rfl, by decide, by decide, hd5, fun g6 H6 _ _ k6 hd6 => ?_⟩
      have hP6 := hP5.kx k6 nad
      have f5 := few5.now
      refine ⟨rfl, _, rfl, ifC (fun _ => ?_) fun _ => ?_⟩
      · refine ⟨_, rfl, [], .nil, sm 0, fun v7 H7 k7 h7 => ?_⟩
        have hP7 := hP6.ext k7
        obtain ⟨dx7, _, _, _, _, _, ha7, _⟩ := id hP7
        refine ⟨a, dx7, _, rfl, ha7, a, r2, v7, [], rfl, hP7, few5.ok, h7, by simp, (fun n hn => by rw [gone_nil] at hn; cases hn), (fun _ z => by simp at z; omega), fun _ _ H8 k8 hP8 => ?_⟩
        refine ⟨rfl, _, (k5.trans (k6.mono (by simp))).trans ((Kx.ext k7).trans (k8.mono (by simp))), hP8, ?_, x1, x2, x3, (hd6.ext k7).kx k8 nda⟩
        simp only [Ps.did, List.append_nil]
        omega
      · exact ⟨rfl, r2, k5.trans (k6.mono (by simp)), hP6, by omega, x1, x2, x3, hd6⟩
    rintro σ H6 ⟨rfl, r3, k6, hP6, f6, x1, x2, x3, hd6⟩
    obtain ⟨dx6, _, _, _, _, _, ha6, _⟩ := id hP6
    exact ⟨_, rfl, a, dx6, _, rfl, ha6, a, r3, rfl, hP6, r3.now.rs.length, rfl, f6, q _ r3 H6 k6 hP6 x1 x2 x3 hd6⟩
theorem q_within : (d_law_within.qual ++ ".<locals>.") ++ "<lambda>" = (("_law_within", none) : Defn).1 ++ ".<locals>.<lambda>" := by decide +kernel
theorem in_within : (("_law_within", none) : Defn) ∈ tfs := by decide +kernel
theorem sh_allD (p : Ps) : Sh 6 (.list (allD p)) := Sh.lst fun d hd => by
  unfold allD sixD unD at hd
  simp only [List.mem_append, List.mem_cons, List.not_mem_nil, or_false, List.mem_map] at hd
  rcases hd with (hd | ⟨s, _, rfl⟩) | ⟨s, _, rfl⟩
  · rcases hd with rfl | rfl | rfl | rfl | rfl | rfl
    · exact (sh_wd _).mono (by decide)
    · exact sh_rD _
    · exact (sh_sd _).mono (by decide)
    · exact (sh_rds _).mono (by decide)
    · exact (sh_far _).mono (by decide)
    · exact Sh.int _
  · exact (sh_rds _).mono (by decide)
  · exact (sh_rds _).mono (by decide)
theorem lmO_at2 {H : Hp} {f t C dx : Addr} {L : LF} {fs : List (Str × V)} (hf : H f = some (LmO f L)) (ht : H t = some (.ins C dx fs)) : f ≠ t := ne_of hf ht (by intro z; unfold LmO at z; cases z)
theorem codeO_at2 {H : Hp} {c t C dx : Addr} {q : Str} {fs : List (Str × V)} (hf : H c = some (CodeO c q)) (ht : H t = some (.ins C dx fs)) : c ≠ t := ne_of hf ht (by intro z; unfold CodeO at z; cases z)
theorem dpAll {K : PySem.W.Frag} {H : Hp} {us : List V} {ds : List PyData} (h : DtAll K H us ds) : DpAll K H us ds := DtAll.dp ds us h
def spWithin (K : PySem.W.Frag) : Sp := fun vs H Q _ => ∃ (d : Dr) (n m : Nat) (a : Addr) (p : Ps) (vw : V), vs = [.ref d.d, .ref a, vw] ∧ DrawAt H d (n + 2) ∧ PairAt K H a p ∧ Few p m ∧ m ≤ 500 ∧ Dt K H vw p.w.d ∧ Tabs (TK K) H ∧
  ∀ p' H', Ke K [a, d.d] H H' → PairAt K H' a p' → p'.w = p.w → p'.r = p.r → p'.b = p.b → DrawAt H' d n → Q (.bl true) H'
theorem ok_within (Z : Tx K mg) (TB : TBs K mg base) : Cal P w K mg base (L2.CX P w) 23 "_law_within" p_law_within (spWithin K) := by
  obtain ⟨fd, F⟩ := Z.fn_law_within
  refine cal_ofT ("_law_within", none) Z.g_law_within F sc_law_within (fun _ _ _ _ _ _ us hl => match us, hl with | [_, _, _], _ => rfl) (by intro vs H Q E h; repeat (first | (obtain ⟨rfl, _⟩ := h; rfl) | (obtain ⟨_, h⟩ := h))) fun A outer s H vs Q E hr h => ?_
  have c_law_goes_on := ok_goes_on (P := P) (w := w) (base := base) Z
  have c_law_all := ok_all (P := P) (w := w) (base := base) Z TB
  have c_under := ok_under (P := P) (w := w) (base := base) Z 20 (by decide)
  have m_trial := ok_trial (P := P) (w := w) (base := base) Z
  refine ⟨_, (pss_cons (ps_expr (pe_cal c_law_goes_on hr (passes_call (takes_of rfl rfl rfl rfl) (fun _ _ _ _ h => h)) (pa_cons (pv 0) (pa_cons (pv 1) (pa_cons (pv 2) pa_nil)))))
    (pss_cons (ps_set (i := 3) sc_law_within.nd rfl (Or.inl rfl) (pe_cal c_law_all hr (passes_call (takes_of rfl rfl rfl rfl) (fun _ _ _ _ h => h)) (pa_cons (pv 1) pa_nil)))
    (pss_cons (ps_expr (pe_calC c_under hr (passes_call (takes_of rfl rfl rfl rfl) (fun _ _ _ _ h => h)) (pa_cons (pe_mcal0 (E := E) m_trial Z.clsP (pv 1) hr pass0) (pa_cons (pe_lam0 (T := TK K) (TB _ in_within) rfl (tk_in in_within q_within) (tk_u Z in_within q_within) (free_by (outer := defScope s_law_within) (by decide +kernel))) pa_nil))))
    (pss_one (ps_ret (pe_cmpR (op_eqD hr.units) (pe_cal c_law_all hr (passes_call (takes_of rfl rfl rfl rfl) (fun _ _ _ _ h => h)) (pa_cons (pv 1) pa_nil)) (pv 3) (nomark _))))))), ?_⟩
  obtain ⟨d, n, m, a, p, vw, rfl, hd, hP, few, hm, hw, hT, q⟩ := h
  have hda := hd.ne_pair hP
  have nda : d.d ∉ [a] := fun z => hda (List.mem_singleton.mp z)
  have f1 := few.now
  refine ⟨_, rfl, _, rfl, _, rfl, d, n + 1, a, p, vw, rfl, hd, hP, few.ok, hw, by omega, fun one i H1 _ k1 hP1 hd1 => ?_⟩
  have few1 := few.did (r := one) (by omega)
  have w1 : (p.did [one]).w = p.w := rfl
  have w2 : (p.did [one]).r = p.r := rfl
  have w3 : (p.did [one]).b = p.b := rfl
  generalize p.did [one] = r at hP1 few1 w1 w2 w3
  refine ⟨_, rfl, a, r, rfl, hP1, few1.ok, k1.tab hT, fun l us H2 k2 hl hl2 hus => ?_⟩
  have hP2 := hP1.ke k2 (by simp)
  have hd2 := hd1.ke k2 (by simp)
  obtain ⟨dx, _, _, _, _, _, ha2, _⟩ := id hP2
  refine ⟨_, rfl, a, dx, _, rfl, ha2, rfl, a, r, rfl, hP2, fun t H3 k3 ht hT3 => ?_⟩
  refine ⟨(k2.tab (k1.tab hT)).ext k3, fun f c' H4 n4 => ?_⟩
  obtain ⟨dt, _, _, _, ht3, _⟩ := id hT3
  have K4 : Ke K [] H2 H4 := (Ke.ext k3).trans n4.ke
  have hT4 := hT3.ke (M := []) n4.ke (by simp)
  have ht4 := (n4.ke (M := [])).kp _ _ ht3 (.inr ⟨by simp, rfl⟩)
  have hP4 := hP2.ke K4 (by simp)
  have hd4 := hd2.ke K4 (by simp)
  have nat : a ≠ t := fun z => by rw [z, ht] at ha2; cases ha2
  have ndt : d.d ≠ t := hd4.ne_trial hT4
  refine fun C hC => ⟨t, a, f, r.now, r.past, r.coming, r, _, rfl, hT4, hP4, hC f _ (lamAt_new n4 ["_law_two", "_law_draw", "_law_world_here"] ["_law_two"] ["_law_draw", "_law_world_here"] [0, 2] 1 19 (nscope_by (by decide +kernel)) (free_by (outer := defScope s_law_within) (by decide +kernel)) (by decide +kernel) rfl (fun vs h => h) (lam_bind0 (lps := ["_law_two"]) (fun pm ctv us hl => match us, hl with | [_], _ => rfl)) (fun pins s0 I A2 outer2 s2 H2 E2 hr2 nf un => pe_cal c_law_goes_on hr2 (passes_call (takes_of rfl rfl rfl rfl) (fun _ _ _ _ h => h)) (pa_cons (pv 1) (pa_cons (pv 0) (pa_cons (pv 2) pa_nil))))), fun H5 k5 hT5 hP5 => ?_⟩
  refine ⟨k5.kp _ _ n4.2.2.2.2.1 (.inr fun z => lmO_at2 n4.2.2.2.2.1 ht4 (List.mem_singleton.mp z)), k5.kp _ _ n4.2.2.2.2.2 (.inr fun z => codeO_at2 n4.2.2.2.2.2 ht4 (List.mem_singleton.mp z)), rfl, trivial, ?_⟩
  have K25 : Ke K [t] H2 H5 := (K4.mono (by simp)).trans k5.ke
  have hd5 := hd4.kx k5 (fun z => ndt (List.mem_singleton.mp z))
  have f2 := few1.now
  have K05 : Ke K [t, a, d.d] H H5 := ((k1.ke.trans (k2.mono (by simp))).mono (by simp)).trans (K25.mono (by simp))
  refine ⟨_, rfl, _, rfl, _, rfl, d, n, a, r, vw, rfl, hd5, hP5, few1.ok, by rw [w1]; exact K05.dt hw, by omega, fun one2 i2 H6 _ k6 hP6 hd6 => ?_⟩
  refine ⟨hT5.ke k6.ke (by simp; exact ⟨nat.symm, ndt.symm⟩), ⟨_, hP6, rfl, rfl, rfl⟩, fun H7 k7 hP7 => ?_⟩
  have K27 : Ke K [t, a, d.d] H2 H7 := ((K25.mono (by simp)).trans (k6.ke.mono (by simp))).trans (k7.ke.mono (by simp))
  have hT7 := K27.tab (k2.tab (k1.tab hT))
  refine ⟨_, rfl, a, r, rfl, hP7, few1.ok, hT7, fun l2 us2 H8 k8 _ hl8 hus8 => ?_⟩
  have K28 : Ke K [t, a, d.d] H2 H8 := K27.trans (k8.mono (by simp))
  refine ⟨_, rfl, .list (allD r), .list (allD r), .lst (SqL.of hl8) (dpAll hus8), .lst (SqL.of (K28.lst hl2)) (dpAll (DtAll.tk K28.tk _ _ hus)), (sh_allD r).shaped, (sh_allD r).shaped, ?_⟩
  rw [(sh_allD r).eqv]
  have K02 : Ke K [a, d.d] H H2 := k1.ke.trans (k2.mono (by simp))
  refine q r H8 (K02.freshT (K02.old ht (by simp; exact ⟨nat.symm, ndt.symm⟩)) K28) (hP7.ke k8 (by simp)) w1 w2 w3 ((hd6.kx k7 nda).ke k8 (by simp))
end
/-- a def that is handed callables, called in a lambda: the callables are known from its maker's frame -/
def tCalCA (CA : Addr → Tl → Prop) (sp : (Addr → Tl → Prop) → Sp) (E : XK) (t : TA) : TE := fun σ H Q => t σ H fun vs H1 => sp CA vs H1 Q E
section
variable {X : Cx} {j k i : Nat} {ps : List Str} {sp : (Addr → Tl → Prop) → Sp} {E : XK} {x : Str} {p pos : Pos} {e : Expr} {es : List Expr} {t : TA}
theorem pe_calCA (CA : Addr → Tl → Prop) (c : CalC X.prog X.w X.K X.mg X.base j i x ps sp) (mono : ∀ (C C' : Addr → Tl → Prop) vs H Q E, (∀ g tl, C g tl → C' g tl) → sp C vs H Q E → sp C' vs H Q E) (pl : Plain X) (hCA : ∀ g tl, CA g tl → CallAt X j g tl) (hr : Room k X.A) (hx : Passes (L2.CX X.prog X.w) X E)
    (ha : PA X (e :: es) t) (hk : i ≤ k := by decide) (hg : Gl X x := by rfl) (hdb : (x == ("__debug__" : Str)) = false := by decide) (he : starEach (e :: es) X.env = (false, eval e X.env) :: starEach es X.env := by rfl) (hpl : (backTo pos (starEach es X.env)).any (·.1) = false := by rfl) :
    PE X (.Call (.Name x p) (e :: es) [] pos) (tCalCA CA sp E t) := by
  obtain ⟨f, fd, hm, F, hkp, hb, _⟩ := c.ex
  refine ⟨fun pins s σ H Q I h => ?_⟩
  refine wpAny_Call_Name_kw (ld_glob I hg hm ?_ hdb)
  refine PySem.W.callWith_K (h₀ := X.base) I.ok.mod.kin hkp (thn (ha.run pos pins s σ H _ I h) fun us s1 ⟨vs, H1, I1, r1, q1⟩ => ⟨I1.kIn, ?_⟩) he hpl
  have hC : ∀ C : Addr → Tl → Prop, (∀ g tl, LamAt X j σ H1 g tl → C g tl) → sp C vs H1 Q E := fun C hC => mono _ _ _ _ _ _ (fun g tl h => hC g tl (lamAt_callAt pl (hCA g tl h))) q1
  have hl : us.length = ps.length := by rw [← r1.length]; exact F.len _ _ _ _ _ (hC (fun _ _ => True) fun _ _ _ => trivial)
  have hb2 : BindsTo s1 fd ⟨us, []⟩ (ps.zip us) := by
    have := hb s1 us I1.kIn (by simpa using hl)
    simpa using this
  exact run_fnc (args := ⟨us, []⟩) (F.mono hk) hr hx I1 hb2 r1 hC
end
theorem ix_listK {X : Cx} (K : PySem.W.Frag) (hK : X.K = K := by rfl) : IxR X (rIxL K) := by
  subst hK
  exact ix_list
/-- o(..), o an instance of C with an own __call__ -/
def tCallI (C : Addr) (sp : Sp) (E : XK) (tf : TE) (t : TA) : TE := fun σ H Q => tf σ H fun y H1 => ∃ a, y = V.ref a ∧ t σ H1 fun vs H2 => (∃ dx fs, H2 a = some (.ins C dx fs)) ∧ sp (V.ref a :: vs) H2 Q E
theorem pe_callI {X : Cx} {CX : CXT} {k : Nat} {C g : Addr} {sp : Sp} {E : XK} {fe e : Expr} {es : List Expr} {tf : TE} {t : TA} {pos : Pos} (hf : PE X fe tf) (c : StX.CallO X.K C g) (F : FnR X.prog X.w X.K X.mg X.base CX k g sp) (hr : Room k X.A) (hx : Passes CX X E) (ha : PA X (e :: es) t)
    (ht : eval (.Call fe (e :: es) [] pos) X.env = (do callWith pos (← eval fe X.env) [] (backTo pos (starEach (e :: es) X.env)) (backToKw pos (keywordEach [] X.env))) := by rfl)
    (he : starEach (e :: es) X.env = (false, eval e X.env) :: starEach es X.env := by rfl) (hpl : (backTo pos (starEach es X.env)).any (·.1) = false := by rfl) : PE X (.Call fe (e :: es) [] pos) (tCallI C sp E tf t) := by
  refine ⟨fun pins s σ H Q I h => ?_⟩
  refine Call_ (thn (hf.run pins s σ H _ I h) fun u s1 ⟨y, H1, I1, ry, a, ey, q⟩ => ?_) ht
  subst ey
  obtain rfl : u = Value.ref a := ry
  refine StX.callO_with (thn (ha.run pos pins s1 σ H1 _ I1 q) fun us s2 ⟨vs, H2, I2, r, hi, q2⟩ => ?_) he hpl
  obtain ⟨ox, od, J, hd⟩ := StX.insC_at (X := X) I2 (.inr hi)
  exact ⟨⟨C, ox, od, J, hd⟩, StX.run_callO c F hr hx I2 (.inr hi) r q2⟩
theorem under_mono {K : PySem.W.Frag} (C C' : Addr → Tl → Prop) (vs : List V) (H : Hp) (Q : VK) (E : XK) (h : ∀ g tl, C g tl → C' g tl) (q : spUnder K C vs H Q E) : spUnder K C' vs H Q E := by
  obtain ⟨t, a, g, n, pa, co, p, tl, h1, h2, h3, h4, h5⟩ := q
  exact ⟨t, a, g, n, pa, co, p, tl, h1, h2, h3, h g tl h4, h5⟩
section
variable {P : Program} {w : World} {K : PySem.W.Frag} {mg : Str → Option Value} {base : Heap}
theorem q_ended : (d_law_ended.qual ++ ".<locals>.") ++ "<lambda>" = (("_law_ended", none) : Defn).1 ++ ".<locals>.<lambda>" := by decide +kernel
theorem in_ended : (("_law_ended", none) : Defn) ∈ tfs := by decide +kernel
def KeepL (H H' : Hp) : Prop := (∀ f L, H f = some (LmO f L) → H' f = some (LmO f L)) ∧ ∀ c q, H c = some (CodeO c q) → H' c = some (CodeO c q)
theorem lm_ke {M : List Addr} {H H' : Hp} {f : Addr} {L : LF} (k : Ke K M H H') (hM : f ∉ M) (h : H f = some (LmO f L)) : H' f = some (LmO f L) := k.kp _ _ h (.inr ⟨hM, rfl⟩)
theorem co_ke {M : List Addr} {H H' : Hp} {c : Addr} {q : Str} (k : Ke K M H H') (hM : c ∉ M) (h : H c = some (CodeO c q)) : H' c = some (CodeO c q) := k.kp _ _ h (.inr ⟨hM, rfl⟩)
theorem keepL_lst {H : Hp} {l : Addr} {xs ys : List V} (h : H l = some (.lst xs)) : KeepL H (upd H l (.lst ys)) :=
  ⟨fun f L e => (upd_ne (ne_of e h (by intro z; unfold LmO at z; cases z))).trans e, fun c q e => (upd_ne (ne_of e h (by intro z; unfold CodeO at z; cases z))).trans e⟩
theorem keepL_ext {H H' : Hp} (k : Ext H H') : KeepL H H' := ⟨fun _ _ e => k _ _ e, fun _ _ e => k _ _ e⟩
theorem KeepL.trans {H H1 H2 : Hp} (a : KeepL H H1) (b : KeepL H1 H2) : KeepL H H2 := ⟨fun _ _ e => b.1 _ _ (a.1 _ _ e), fun _ _ e => b.2 _ _ (a.2 _ _ e)⟩
theorem keepL_ins {H H' : Hp} {t C dx : Addr} {fs : List (Str × V)} (k : Kx K [t] H H') (ht : H t = some (.ins C dx fs)) : KeepL H H' :=
  ⟨fun _ _ e => k.kp _ _ e (.inr fun z => lmO_at2 e ht (List.mem_singleton.mp z)), fun _ _ e => k.kp _ _ e (.inr fun z => codeO_at2 e ht (List.mem_singleton.mp z))⟩
theorem not_61 {x : Wd} {ls : Int} (h : x.ok) : goodR x ls (61, some 0) = false := by
  have := h.c
  have e : decide (x.lo ≤ 61 ∧ (61 : Int) ≤ x.hi) = false := decide_eq_false (by omega)
  unfold goodR
  rw [e, Bool.false_and]
def endD (kind : Nat) : PyData := if kind = 0 then .tuple [.str "left", .int 2000] else .tuple [.str "round", .tuple [.int 61, .int 0]]
def spEnded (K : PySem.W.Frag) : Sp := fun vs H Q _ => ∃ (d : Dr) (n m kind : Nat) (a : Addr) (p : Ps) (vw : V), vs = [.ref d.d, .ref a, vw, .int kind] ∧ kind < 2 ∧ DrawAt H d (n + 1) ∧ PairAt K H a p ∧ Few p m ∧ m ≤ 500 ∧ Dt K H vw p.w.d ∧ Tabs (TK K) H ∧
  ∀ u H', Ke K [a, d.d] H H' → PairAt K H' a p → DrawAt H' d n → Dt K H' u (endD kind) → Q u H'
theorem ok_ended (Z : Tx K mg) (TB : TBs K mg base) : Cal P w K mg base (L2.CX P w) 33 "_law_ended" p_law_ended (spEnded K) := by
  obtain ⟨fd, F⟩ := Z.fn_law_ended
  refine cal_ofT ("_law_ended", none) Z.g_law_ended F sc_law_ended (fun _ _ _ _ _ _ us hl => match us, hl with | [_, _, _, _], _ => rfl) (by intro vs H Q E h; repeat (first | (obtain ⟨rfl, _⟩ := h; rfl) | (obtain ⟨_, h⟩ := h))) fun A outer s H vs Q E hr h => ?_
  have c_law_goes_on := ok_goes_on (P := P) (w := w) (base := base) Z
  have c_under := ok_under (P := P) (w := w) (base := base) Z 20 (by decide)
  have c_said := ok_said (P := P) (w := w) (base := base) Z 30 (by decide)
  have m_trial := ok_trial (P := P) (w := w) (base := base) Z
  have m_undoA := m_undo (P := P) (w := w) (base := base) Z
  refine ⟨_, (pss_cons (ps_set (i := 4) sc_law_ended.nd rfl (Or.inr rfl) (pe_lst (pa_cons (pe_lam0 (T := TK K) (TB _ in_ended) rfl (tk_in in_ended q_ended) (tk_u Z in_ended q_ended) (free_by (outer := defScope s_law_ended) (by decide +kernel))) pa_nil)))
    (pss_cons (ps_expr (pe_bm PySem.F.plainAttrs_list PySem.F.slot_list_append PySem.F.type_list_append mt_append (pv 4) (pa_cons (pe_lam0 (T := TK K) (TB _ in_ended) rfl (tk_in in_ended q_ended) (tk_u Z in_ended q_ended) (free_by (outer := defScope s_law_ended) (by decide +kernel))) pa_nil)))
    (pss_one (ps_ret (pe_calC c_said hr (passes_call (takes_of rfl rfl rfl rfl) (fun _ _ _ _ h => h)) (pa_cons (pe_lam1 (T := TK K) (TB _ in_ended) rfl (tk_in in_ended q_ended) (tk_u Z in_ended q_ended) (free_by (outer := defScope s_law_ended) (by decide +kernel))) pa_nil)))))), ?_⟩
  obtain ⟨d, n, m, kind, a, p, vw, rfl, hkind, hd, hP, few, hm, hw, hT, q⟩ := h
  refine ⟨hT, fun f1 c1 H1 n1 => ⟨sm 1, fun l hl => ?_⟩⟩
  have hl2 : (upd H1 l (.lst [.ref f1])) l = some (.lst [.ref f1]) := upd_same
  have K2 : Ke K [] H (upd H1 l (.lst [.ref f1])) := n1.ke.trans (Ke.new hl)
  have e12 : Ext H1 (upd H1 l (.lst [.ref f1])) := Ext.new hl
  generalize upd H1 l (.lst [.ref f1]) = H2 at hl2 K2 e12
  refine ⟨_, rfl, .inl ⟨rfl, _, SqL.of hl2⟩, K2.tab hT, fun f2 c2 H3 n2 => ?_⟩
  have hl3 : H3 l = some (.lst [.ref f1]) := (n2.ke (M := [])).lst hl2
  refine ⟨l, _, _, rfl, rfl, hl3, (by show (1 : Nat) < sizeLine; decide), ?_⟩
  have hlH : H l = none := n1.2.1 _ hl
  have hl4 : (upd H3 l (.lst ([.ref f1] ++ [.ref f2]))) l = some (.lst ([.ref f1] ++ [.ref f2])) := upd_same
  have K4 : Ke K [] H (upd H3 l (.lst ([.ref f1] ++ [.ref f2]))) := Ke.lstw (K2.trans n2.ke) hlH hl3
  have L4 : KeepL H3 (upd H3 l (.lst ([.ref f1] ++ [.ref f2]))) := keepL_lst hl3
  have hf1 := L4.1 _ _ (lm_ke (n2.ke (M := [])) (by simp) (e12 _ _ n1.2.2.2.2.1))
  have hc1 := L4.2 _ _ (co_ke (n2.ke (M := [])) (by simp) (e12 _ _ n1.2.2.2.2.2))
  have hf2 := L4.1 _ _ n2.2.2.2.2.1
  have hc2 := L4.2 _ _ n2.2.2.2.2.2
  generalize upd H3 l (.lst ([.ref f1] ++ [.ref f2])) = H4 at hl4 K4 hf1 hc1 hf2 hc2
  refine ⟨K4.tab hT, fun dd hdd f3 c3 H5 n3 => ?_⟩
  have K45 : Ke K [] H4 H5 := (Ke.new hdd).trans n3.ke
  have K5 : Ke K [] H H5 := K4.trans K45
  have hl5 := K45.lst hl4
  have hf1 := lm_ke K45 (by simp) hf1
  have hc1 := co_ke K45 (by simp) hc1
  have hf2 := lm_ke K45 (by simp) hf2
  have hc2 := co_ke K45 (by simp) hc2
  have f0 := few.now
  have key : ∃ (gK : Addr) (tlK : Tl), [V.ref f1, V.ref f2][kind]? = some (.ref gK) ∧ LamAt (cxOf (L2.CX P w) P w K mg base n_law_ended d_law_ended.qual (defScope s_law_ended) (fAd K ("_law_ended", none)) (.ref (cT K ("_law_ended", none)).1) A outer s H E) 20 (List.set (L2.start n_law_ended [.ref d.d, .ref a, vw, .int kind]) 4 (some (.ref l))) H5 gK tlK ∧
      ∃ (ec : EC) (wd : Str) (dat : PyData), (ec, wd) ∈ four ∧ endD kind = .tuple [.str wd, dat] ∧ ∀ (H6 : Hp) (E' : XK) (Q' : VK), KeepL H5 H6 → DrawAt H6 d (n + 1) → PairAt K H6 a p → Dt K H6 vw p.w.d →
        (∀ p' v H7 x, PairAt K H7 a p' → p'.w = p.w → p'.r = p.r → p'.b = p.b → Kx K [a, d.d] H6 H7 → DrawAt H7 d n → H7 x = some (.xd [(ec.fld, v)]) → Dt K H7 v dat → E' (.ref (ga K ec.nm)) (some x) H7) → tlK [.ref a] E' H6 Q' := by
    rcases (show kind = 0 ∨ kind = 1 by omega) with rfl | rfl
    · refine ⟨f1, _, rfl, lamAt_new n1 ["_law_one", "_law_draw", "_law_world_here"] ["_law_one"] ["_law_draw", "_law_world_here"] [0, 2] 1 19 (nscope_by (by decide +kernel)) (free_by (outer := defScope s_law_ended) (by decide +kernel)) (by decide +kernel) rfl (fun vs h => h) (lam_bind0 (lps := ["_law_one"]) (fun pm ctv us hl => match us, hl with | [_], _ => rfl)) (fun pins s0 I A2 outer2 s2 H2 E2 hr2 nf un => pe_lst (pa_cons (pe_cal c_law_goes_on hr2 (passes_call (takes_of rfl rfl rfl rfl) (fun _ _ _ _ h => h)) (pa_cons (pv 1) (pa_cons (pv 0) (pa_cons (pv 2) pa_nil)))) (pa_cons (pe_mcal m_undoA Z.clsP (pv 0) hr2 (passes_call (takes_of rfl rfl rfl rfl) (fun _ _ _ _ h => h)) (pa_cons pe_int pa_nil)) pa_nil))), eLeft, "left", .int 2000, by simp [four], rfl, fun H6 E' Q' kl hd6 hP6 hw6 hE => ⟨kl.1 _ _ hf1, kl.2 _ _ hc1, rfl, trivial, ?_⟩⟩
      refine ⟨_, rfl, _, rfl, _, rfl, d, n, a, p, vw, rfl, hd6, hP6, few.ok, hw6, by omega, fun one i H7 _ k7 hP7 hd7 => ?_⟩
      have few1 := few.did (r := one) (by omega)
      have f2 := few1.sum
      obtain ⟨dx7, _, _, _, _, _, ha7, _⟩ := id hP7
      exact ⟨_, rfl, a, dx7, _, rfl, ha7, rfl, a, _, 2000, rfl, hP7, few1.ok, by decide, fun _ x v H8 k8 hx hx8 hv => hE _ v H8 x (hP7.ext k8) rfl rfl rfl (k7.trans (.ext k8)) (hd7.ext k8) hx8 hv, fun z => by omega⟩
    · refine ⟨f2, _, rfl, lamAt_new n2 ["_law_one", "_law_draw", "_law_world_here"] ["_law_one"] ["_law_draw", "_law_world_here"] [0, 2] 1 19 (nscope_by (by decide +kernel)) (free_by (outer := defScope s_law_ended) (by decide +kernel)) (by decide +kernel) rfl (fun vs h => h) (lam_bind0 (lps := ["_law_one"]) (fun pm ctv us hl => match us, hl with | [_], _ => rfl)) (fun pins s0 I A2 outer2 s2 H2 E2 hr2 nf un => pe_lst (pa_cons (pe_cal c_law_goes_on hr2 (passes_call (takes_of rfl rfl rfl rfl) (fun _ _ _ _ h => h)) (pa_cons (pv 1) (pa_cons (pv 0) (pa_cons (pv 2) pa_nil)))) (pa_cons (pe_callI (pv 0) Z.callP (fr_call (P := P) (w := w) (base := base) Z) (hr2.mono (by decide)) (passes_call (takes_of rfl rfl rfl rfl) (fun _ _ _ _ h => h)) (pa_cons pe_int (pa_cons pe_int pa_nil))) pa_nil))), eRound, "round", .tuple [.int 61, .int 0], by simp [four], rfl, fun H6 E' Q' kl hd6 hP6 hw6 hE => ⟨kl.1 _ _ hf2, kl.2 _ _ hc2, rfl, trivial, ?_⟩⟩
      refine ⟨_, rfl, _, rfl, _, rfl, d, n, a, p, vw, rfl, hd6, hP6, few.ok, hw6, by omega, fun one i H7 _ k7 hP7 hd7 => ?_⟩
      have few1 := few.did (r := one) (by omega)
      obtain ⟨dx7, _, _, _, _, _, ha7, _⟩ := id hP7
      have bad : goodR (p.did [one]).w (p.did [one]).now.sd.ls (61, some 0) = false := not_61 few1.ok.w
      refine ⟨_, rfl, a, rfl, ⟨dx7, _, ha7⟩, a, _, 61, some 0, rfl, hP7, few1.ok, fun _ x v H8 k8 hx hx8 hv => hE _ v H8 x (hP7.ext k8) rfl rfl rfl (k7.trans (.ext k8)) (hd7.ext k8) hx8 hv, (fun z => by rw [bad] at z; cases z), (fun z => by rw [bad] at z; cases z)⟩
  obtain ⟨gK, tlK, hg, hL, ec, wd, dat, hec, he, hrun⟩ := key
  refine fun C hC => ⟨f3, _, rfl, hC f3 _ (lamAt_new n3 ["_law_n", "_law_pair", "_law_calls", "_law_kind"] ["_law_n"] ["_law_pair", "_law_calls", "_law_kind"] [1, 4, 3] 0 29 (nscope_by (by decide +kernel)) (free_by (outer := defScope s_law_ended) (by decide +kernel)) (by decide +kernel) rfl (fun vs h => rfl) (lam_bind1 (x := "_law_n") (d := dd) (i := 0) (fun pm ctv u => ⟨_, rfl, rfl⟩))
    (fun pins s0 I A2 outer2 s2 H2 E2 hr2 nf un => pe_calCA (fun g tl => g = gK ∧ tl = tlK) c_under under_mono ⟨rfl, rfl, rfl⟩ (fun g tl h => by obtain ⟨rfl, rfl⟩ := h; exact (hL pins s0 I).shift nf un) hr2 (passes_call (takes_of rfl rfl rfl rfl) (fun _ _ _ _ h => h)) (pa_cons (pe_mcal0 (E := E2) m_trial Z.clsP (pv 1) hr2 pass0) (pa_cons (pe_ix (ix_listK K) (pv 2) (pv 3) (fun _ _ => rfl)) pa_nil)))), fun H6 k6 => ?_⟩
  refine ⟨k6 _ _ n3.2.2.2.2.1, k6 _ _ n3.2.2.2.2.2, rfl, k6 _ _ (n3.1 _ _ upd_same (by intro ps z; cases z)), ?_⟩
  have K06 : Ke K [] H H6 := K5.trans (.ext k6)
  have hP6 := hP.ke K06 (by simp)
  have hd6 := hd.ke K06 (by simp)
  obtain ⟨dx6, _, _, _, _, _, ha6, _⟩ := id hP6
  have hda := hd.ne_pair hP
  have nda : d.d ∉ [a] := fun z => hda (List.mem_singleton.mp z)
  refine ⟨_, rfl, a, dx6, _, rfl, ha6, rfl, a, p, rfl, hP6, fun t H7 k7 ht hT7 => ?_⟩
  obtain ⟨dt, _, _, _, ht7, _⟩ := id hT7
  have hP7 := hP6.ext k7
  have hd7 := hd6.ext k7
  have nat : a ≠ t := fun z => by rw [z, ht] at ha6; cases ha6
  have ndt : d.d ≠ t := hd7.ne_trial hT7
  refine ⟨_, rfl, _, rfl, l, [.ref f1, .ref f2], kind, .ref gK, rfl, rfl, SqL.of (k7 _ _ (k6 _ _ hl5)), atI_nat hg, ?_⟩
  refine ⟨t, a, gK, p.now, p.past, p.coming, p, tlK, rfl, hT7, hP7, ⟨rfl, rfl⟩, fun H8 k8 hT8 hP8 => hrun H8 _ _ (((keepL_ext k6).trans (keepL_ext k7)).trans (keepL_ins k8 ht7)) (hd7.kx k8 (fun z => ndt (List.mem_singleton.mp z))) hP8 (k8.dt (k7.dt (K06.dt hw))) fun p' v H9 x hP9 s1 s2 s3 k9 hd9 hx9 hv9 => ?_⟩
  refine ⟨⟨_, rfl⟩, hT8.ke k9.ke (by simp; exact ⟨nat.symm, ndt.symm⟩), ⟨p', hP9, s1, s2, s3⟩, fun H10 k10 hP10 => ⟨ec, wd, x, v, dat, hec, rfl, rfl, ?_, k10.dt hv9, fun u H11 k11 hu => ?_⟩⟩
  · obtain ⟨dx9, _, _, _, _, _, ha9, _⟩ := id hP9
    exact k10.kp _ _ hx9 (.inr fun z => ne_of hx9 ha9 (by intro z; cases z) (List.mem_singleton.mp z))
  · have K6 : Ke K [t, a, d.d] H6 H11 := (((Ke.ext k7).trans (k8.ke.mono (by simp))).trans (k9.ke.mono (by simp))).trans ((k10.ke.mono (by simp)).trans (.ext k11))
    refine q u H11 ((K06.mono (M' := [a, d.d]) (by simp)).freshT (K06.old ht) K6) (hP10.ext k11) ((hd9.kx k10 nda).ext k11) (by rw [he]; exact hu)
end
end K21
/-! K22G: _law_thousand_right. -/
namespace K21
open PySem PySem.Spec PyProof.Rows L2 LamX He NdefX
def thW : Wd := ⟨-1, 1, 0, 0, 0⟩
def thM : Md := ⟨[], [⟨.hold, 0⟩], ⟨.hold, 0⟩⟩
def thRs (n : Nat) : List Rd := (List.replicate n [((1 : Int), some (0 : Int)), (-1, some 0)]).flatten
def thDf (n : Nat) : List Int := (List.replicate n [(1 : Int), 1, 0, 0]).flatten
theorem thRs_succ (n : Nat) : thRs (n + 1) = (1, some 0) :: (-1, some 0) :: thRs n := rfl
theorem thDf_succ (n : Nat) : thDf (n + 1) = 1 :: 1 :: 0 :: 0 :: thDf n := rfl
theorem thRs_len : ∀ n, (thRs n).length = 2 * n
  | 0 => rfl
  | n + 1 => by
    rw [thRs_succ, List.length_cons, List.length_cons, thRs_len n]
    omega
theorem th_gone : ∀ (n i : Nat) (acc : List Int), goneP thW [thM] i ⟨0, 0, 0⟩ acc (thRs n) = (none, acc ++ thDf n, ⟨0, 0, 0⟩)
  | 0, i, acc => by
    show (none, acc, (⟨0, 0, 0⟩ : Sd)) = _
    simp [thDf]
  | n + 1, i, acc => by
    have s1 : stp [thM] ⟨0, 0, 0⟩ 1 (some 0) = (1, 0, ⟨0, 0, 1⟩) := rfl
    have s2 : stp [thM] ⟨0, 0, 1⟩ (-1) (some 0) = (0, 0, ⟨0, 0, 0⟩) := rfl
    rw [thRs_succ, goneP_cons, if_pos (by decide), goneP_cons, if_pos (by decide)]
    simp only [s1, s2]
    rw [th_gone n, thDf_succ]
    simp
def thP : Ps := (newP thW [thM] 0).did (thRs 500)
theorem thR_ok : rOk [thM] := ⟨by decide, by decide, fun m hm => by
  rw [List.mem_singleton.mp hm]
  have e : ∀ e : En, e = ⟨.hold, 0⟩ → e.ok [thM].length := fun e h => by
    subst h
    exact ⟨by first | trivial | decide | constructor, by decide, by decide⟩
  exact ⟨by decide, by simp [thM], by simp [thM], rfl, fun x hx => e x (by simpa [thM] using hx), e _ rfl, by simp [thM, Deed.still]⟩⟩
theorem thW_ok : thW.ok := by constructor <;> decide
theorem th_none : ((newP thW [thM] 0).gone (thRs 500)) = (none, [0] ++ thDf 500, ⟨0, 0, 0⟩) := th_gone 500 0 [0]
theorem thP_ok : thP.ok := (newP_ok thW_ok thR_ok (by decide)).did (by decide) (by rw [thRs_len]; decide)
theorem thP_len : thP.now.rs.length = 1000 := by
  show ([] ++ thRs 500).length = 1000
  rw [List.nil_append, thRs_len]
theorem thDf_mem : ∀ n x, x ∈ thDf n → x = 0 ∨ x = 1
  | 0, x, h => by simp [thDf] at h
  | n + 1, x, h => by
    rw [thDf_succ] at h
    simp only [List.mem_cons] at h
    rcases h with h | h | h | h | h
    · exact .inr h
    · exact .inr h
    · exact .inl h
    · exact .inl h
    · exact thDf_mem n x h
theorem thP_df : thP.now.df = 0 :: thDf 500 := by
  show [(0 : Int)] ++ ((newP thW [thM] 0).gone (thRs 500)).2.1.drop 1 = _
  rw [th_none] <;> rfl
theorem thP_far : thP.now.far = .tuple [.int 0, .int 1] := by
  unfold Sn.far
  rw [thP_df]
  obtain ⟨a1, a2⟩ := minL_spec (ns := 0 :: thDf 500) (by simp)
  obtain ⟨b1, b2⟩ := maxL_spec (ns := 0 :: thDf 500) (by simp)
  have h0 := a2 0 List.mem_cons_self
  have h1 := b2 1 (List.mem_cons_of_mem _ (by rw [thDf_succ 499]; exact List.mem_cons_self))
  have c : ∀ x, x ∈ (0 : Int) :: thDf 500 → x = 0 ∨ x = 1 := fun x h => (List.mem_cons.mp h).elim .inl (thDf_mem _ _)
  have e1 : minL (0 :: thDf 500) = 0 := by rcases c _ a1 with h | h <;> omega
  have e2 : maxL (0 :: thDf 500) = 1 := by rcases c _ b1 with h | h <;> omega
  rw [e1, e2]
theorem th_good (ls : Int) : goodR thW ls (0, some 0) = true := rfl
theorem th_bad (ls : Int) : goodR thW ls (5, some 0) = false := rfl
theorem thP_w : thP.w = thW := rfl
theorem thP_two : (thP.gone [(0, some 0), (5, some 0)]).1 = some 1 := by
  unfold Ps.gone
  rw [goneP_cons, if_pos (show goodR thP.w thP.now.sd.ls (0, some 0) = true from th_good _), goneP_cons, if_neg (fun z => by rw [thP_w, th_bad] at z; cases z)]
theorem said_err {K : PySem.W.Frag} {ec : EC} {wd : Str} (h : (ec, wd) ∈ four) {d : PyData} {Q : VK} {H : Hp} (q : ∀ u H', Ext H H' → Dt K H' u (.tuple [.str wd, d]) → Q u H') : Err K (saidE K Q) ec.nm ec.fld d H :=
  fun x v H' k hx hxx hv => ⟨ec, wd, x, v, d, h, rfl, rfl, hxx, hv, fun u H'' k2 hu => q u H'' (k.trans k2) hu⟩
theorem th_dt {K : PySem.W.Frag} {H : Hp} {y1 y2 : V} (h1 : Dt K H y1 (.tuple [.int 1, .int 0])) (h2 : Dt K H y2 (.tuple [.int (-1), .int 0])) : ∀ n, DtAll K H (List.replicate n [y1, y2]).flatten ((thRs n).map Rd.d)
  | 0 => .nil
  | n + 1 => .cons h1 (.cons h2 (th_dt h1 h2 n))
theorem sh_told : Sh 2 (.list [.int 1000, .tuple [.str "great", .int 1000], .tuple [.str "great", .int 1000], .tuple [.int 0, .int 1]]) := Sh.lst fun d hd => by
  simp only [List.mem_cons, List.not_mem_nil, or_false] at hd
  rcases hd with rfl | rfl | rfl | rfl
  · exact Sh.int _
  · exact sh_word (by decide +kernel) (Sh.int _)
  · exact sh_word (by decide +kernel) (Sh.int _)
  · exact Sh.tup fun e he => by
      simp only [List.mem_cons, List.not_mem_nil, or_false] at he
      rcases he with rfl | rfl <;> exact Sh.int _
section
variable {P : Program} {w : World} {K : PySem.W.Frag} {mg : Str → Option Value} {base : Heap}
theorem q_th : (d_law_thousand_right.qual ++ ".<locals>.") ++ "<lambda>" = (("_law_thousand_right", none) : Defn).1 ++ ".<locals>.<lambda>" := by decide +kernel
theorem in_th : (("_law_thousand_right", none) : Defn) ∈ tfs := by decide +kernel
def spThousand (K : PySem.W.Frag) : Sp := fun vs H Q _ => vs = [] ∧ Tabs (TK K) H ∧ ∀ H', Q (.bl true) H'
theorem ok_thousand (Z : Tx K mg) (TB : TBs K mg base) : Cal P w K mg base (L2.CX P w) 33 "_law_thousand_right" p_law_thousand_right (spThousand K) := by
  obtain ⟨fd, F⟩ := Z.fn_law_thousand_right
  obtain ⟨fdI, FI⟩ := Z.fn_Pair_init
  refine cal_ofT ("_law_thousand_right", none) Z.g_law_thousand_right F sc_law_thousand_right (fun _ _ _ _ _ _ us hl => match us, hl with | [], _ => rfl) (by intro vs H Q E h; repeat (first | (obtain ⟨rfl, _⟩ := h; rfl) | (obtain ⟨_, h⟩ := h))) fun A outer s H vs Q E hr h => ?_
  have GI := ok_Pair_init (P := P) (w := w) (base := base) Z FI
  have bI : Binds K fdI p_Pair_init [] := FI.bindsN (fun _ _ _ _ _ _ us hl => match us, hl with | [_, _, _, _], _ => rfl)
  have c_added := ok_added (P := P) (w := w) (base := base) Z
  have c_said := ok_said (P := P) (w := w) (base := base) Z 30 (by decide)
  have c_far := ok_farthest (P := P) (w := w) (base := base) Z
  refine ⟨_, (pss_cons (ps_set (i := 0) sc_law_thousand_right.nd rfl (Or.inl rfl) (pe_tupD (pa_cons (pe_tupD (pa_cons (pe_tupD pa_nil) (pa_cons (pe_tupD (pa_cons (pe_tupD (pa_cons (pe_tupD (pa_cons pe_str pa_nil)) (pa_cons pe_int pa_nil))) pa_nil)) (pa_cons (pe_tupD (pa_cons (pe_tupD (pa_cons pe_str pa_nil)) (pa_cons pe_int pa_nil))) pa_nil)))) pa_nil)))
    (pss_cons (ps_set (i := 1) sc_law_thousand_right.nd rfl (Or.inr rfl) (pe_make (E := E) Z.mkP GI (hr.mono (by decide)) (by rfl) Z.g_Pair bI .nil pass0 (pa_cons (pe_tupD (pa_cons (pe_un un_neg pe_int) (pa_cons pe_int (pa_cons pe_int (pa_cons pe_int (pa_cons pe_int pa_nil)))))) (pa_cons (pv 0) (pa_cons pe_int pa_nil)))))
    (pss_cons (ps_aug (i := 1) sc_law_thousand_right.nd rfl (Or.inr rfl) (pe_op op_repT (pe_tupD (pa_cons (pe_tupD (pa_cons pe_int (pa_cons pe_int pa_nil))) (pa_cons (pe_tupD (pa_cons (pe_un un_neg pe_int) (pa_cons pe_int pa_nil))) pa_nil))) pe_int) (ip_own Z.m_iadd Z.pair.1 (fr_iadd (P := P) (w := w) (base := base) Z) (hr.mono (by decide)) (passes_call (takes_of rfl rfl rfl rfl) (fun _ _ _ _ h => h))))
    (pss_cons (ps_set (i := 2) sc_law_thousand_right.nd rfl (Or.inl rfl) (pe_lst (pa_cons (pe_callB (call_lenO (E := E) Z.m_len (fr_len (P := P) (w := w) (base := base) Z) (hr.mono (by decide)) pass0) (by rfl) Z.f_len bt_len (pa_cons (pv 1) pa_nil)) (pa_cons (pe_calC c_said hr (passes_call (takes_of rfl rfl rfl rfl) (fun _ _ _ _ h => h)) (pa_cons (pe_lam0 (T := TK K) (TB _ in_th) rfl (tk_in in_th q_th) (tk_u Z in_th q_th) (free_by (outer := defScope s_law_thousand_right) (by decide +kernel))) pa_nil)) (pa_cons (pe_calC c_said hr (passes_call (takes_of rfl rfl rfl rfl) (fun _ _ _ _ h => h)) (pa_cons (pe_lam1 (T := TK K) (TB _ in_th) rfl (tk_in in_th q_th) (tk_u Z in_th q_th) (free_by (outer := defScope s_law_thousand_right) (by decide +kernel))) pa_nil)) pa_nil)))))
    (pss_cons (ps_set (i := 2) sc_law_thousand_right.nd rfl (Or.inl rfl) (pe_op op_cat (pv 2) (pe_lst (pa_cons (pe_pcal (E := E) c_far Z.clsP (pv 1) hr) pa_nil))))
    (pss_cons (ps_if (pt_cmpR (op_neD hr.units) (pv 2) (pe_lst (pa_cons pe_int (pa_cons (pe_tupD (pa_cons pe_str (pa_cons pe_int pa_nil))) (pa_cons (pe_tupD (pa_cons pe_str (pa_cons pe_int pa_nil))) (pa_cons (pe_tupD (pa_cons pe_int (pa_cons pe_int pa_nil))) pa_nil))))) (nomark _))
      (pss_one (ps_ret pe_bl))
      pss_nil)
    (pss_cons (ps_if (pt_cmpR (op_neD hr.units) (pe_calC c_said hr (passes_call (takes_of rfl rfl rfl rfl) (fun _ _ _ _ h => h)) (pa_cons (pe_lam0 (T := TK K) (TB _ in_th) rfl (tk_in in_th q_th) (tk_u Z in_th q_th) (free_by (outer := defScope s_law_thousand_right) (by decide +kernel))) pa_nil)) (pe_tupD (pa_cons pe_str (pa_cons pe_int pa_nil))) (nomark _))
      (pss_one (ps_ret pe_bl))
      pss_nil)
    (pss_one (ps_ret (pe_cmpR (op_eqD hr.units) (pe_calC c_said hr (passes_call (takes_of rfl rfl rfl rfl) (fun _ _ _ _ h => h)) (pa_cons (pe_lam0 (T := TK K) (TB _ in_th) rfl (tk_in in_th q_th) (tk_u Z in_th q_th) (free_by (outer := defScope s_law_thousand_right) (by decide +kernel))) pa_nil)) (pe_tupD (pa_cons pe_str (pa_cons (pe_tupD (pa_cons pe_int (pa_cons pe_int pa_nil))) pa_nil))) (nomark _))))))))))), ?_⟩
  obtain ⟨rfl, hT, q⟩ := h
  refine ⟨[], .nil, sm 0, fun u1 H1 k1 h1 => ?_⟩
  refine ⟨[.str "hold"], .cons (.str _) .nil, sm 1, fun u2 H2 k2 h2 => ⟨[_, .int 0], .cons h2 (.cons (.int _) .nil), sm 2, fun u3 H3 k3 h3 => ⟨[_], .cons h3 .nil, sm 1, fun u4 H4 k4 h4 => ?_⟩⟩⟩
  refine ⟨[.str "hold"], .cons (.str _) .nil, sm 1, fun u5 H5 k5 h5 => ⟨[_, .int 0], .cons h5 (.cons (.int _) .nil), sm 2, fun u6 H6 k6 h6 => ?_⟩⟩
  refine ⟨[_, _, _], .cons ((k2.trans (k3.trans (k4.trans (k5.trans k6)))).dt h1) (.cons ((k5.trans k6).dt h4) (.cons h6 .nil)), sm 3, fun u7 H7 k7 h7 => ⟨[_], .cons h7 .nil, sm 1, fun vr H8 k8 hvr => ?_⟩⟩
  have j8 : Ext H H8 := ((k1.trans (k2.trans (k3.trans k4))).trans (k5.trans k6)).trans (k7.trans k8)
  have hT8 := hT.ext j8
  have hr8 : Dt K H8 vr (rD [thM]) := hvr
  refine ⟨_, rfl, [.int (-1), .int 1, .int 0, .int 0, .int 0], DtAll.ofInts [-1, 1, 0, 0, 0], sm 5, fun vw H9 k9 hw => ?_⟩
  have hw9 : Dt K H9 vw thW.d := hw
  refine ⟨_, rfl, ?_⟩
  intro a dxa ha hda hne
  have e1 : Ext H9 (upd (upd H9 dxa (.own a)) a (.ins (ga K "Pair") dxa [])) := (Ext.new hda).trans (Ext.new (by rw [upd_ne hne.symm]; exact ha))
  refine ⟨a, dxa, vw, vr, 0, thW, [thM], rfl, upd_same, e1.dt hw9, thW_ok, e1.dt (k9.dt hr8), thR_ok, by decide, by decide, fun H10 k10 hP => ⟨rfl, ?_⟩⟩
  have e2 : Ext H9 H10 := k10.since e1 (by intro c hc; rw [List.mem_singleton.mp hc]; exact ha)
  have hT10 := (hT8.ext k9).ext e2
  refine ⟨_, rfl, [.int 1, .int 0], DtAll.ofInts [1, 0], sm 2, fun x1 H11 k11 hx1 => ?_⟩
  refine ⟨_, rfl, [.int (-1), .int 0], DtAll.ofInts [-1, 0], sm 2, fun x2 H12 k12 hx2 => ⟨[_, _], .cons (k12.dt hx1) (.cons hx2 .nil), sm 2, fun u H13 k13 hu => ?_⟩⟩
  obtain ⟨b, y1, y2, rfl, hb, hy1, hy2⟩ := hu.tup2
  refine ⟨b, 500, [y1, y2], rfl, rfl, hb, by simp, by decide, by decide, (by show (2 : Nat) ≤ 1000; decide), fun p0 hp0 => ?_⟩
  have kp := Ext.new (o := .tup (List.replicate (500 : Int).toNat [y1, y2]).flatten) hp0
  have hrs := Dt.tup (SqT.of (upd_same (H := H13) (a := p0) (o := .tup (List.replicate (500 : Int).toNat [y1, y2]).flatten))) (th_dt (kp.dt hy1) (kp.dt hy2) 500)
  have j14 := (k11.trans (k12.trans k13)).trans kp
  generalize upd H13 p0 (.tup (List.replicate (500 : Int).toNat [y1, y2]).flatten) = H14 at kp hrs j14
  have hP14 := hP.ext j14
  have hT14 := hT10.ext j14
  obtain ⟨dx, _, _, _, _, _, ha14, _⟩ := id hP14
  refine ⟨a, dx, _, rfl, ha14, a, newP thW [thM] 0, .ref p0, thRs 500, rfl, hP14, newP_ok thW_ok thR_ok (by decide), hrs, by rw [thRs_len]; decide, (fun n hn => by rw [th_none] at hn; cases hn), (fun _ z => by rw [thRs_len] at z; exact absurd z (by decide)), fun _ _ H15 k15 hP15 => ?_⟩
  have hT15 := k15.tab hT14
  have hP15 : PairAt K H15 a thP := hP15
  obtain ⟨dx, _, _, _, _, _, ha15, _⟩ := id hP15
  refine ⟨_, rfl, a, dx, _, rfl, ha15, a, thP, rfl, hP15, thP.now.rs.length, rfl, by rw [thP_len]; decide, ?_⟩
  rw [thP_len]
  refine ⟨hT15, fun f c' H16 n16 C hC => ⟨f, _, rfl, hC f _ (lamAt_new n16 ["_law_pair"] [] ["_law_pair"] [1] 0 29 (nscope_by (by decide +kernel)) (free_by (outer := defScope s_law_thousand_right) (by decide +kernel)) (by decide +kernel) rfl (fun vs h => h) (lam_bind0 (lps := []) (fun pm ctv us hl => match us, hl with | [], _ => rfl)) (fun pins s0 I A2 outer2 s2 H2 E2 hr2 nf un => pe_callI (pv 0) Z.callP (fr_call (P := P) (w := w) (base := base) Z) (hr2.mono (by decide)) (passes_call (takes_of rfl rfl rfl rfl) (fun _ _ _ _ h => h)) (pa_cons pe_int (pa_cons pe_int pa_nil)))), fun H17 k17 => ⟨k17 _ _ n16.2.2.2.2.1, k17 _ _ n16.2.2.2.2.2, rfl, trivial, ?_⟩⟩⟩
  have hP17 := (hP15.ke (n16.ke (M := [])) (by simp)).ext k17
  have hT17 := n16.2.2.1.ext k17
  obtain ⟨dx, _, _, _, _, _, ha17, _⟩ := id hP17
  refine ⟨_, rfl, a, rfl, ⟨dx, _, ha17⟩, a, thP, 0, some 0, rfl, hP17, thP_ok, (fun z => by rw [thP_w, th_good] at z; cases z), (fun _ _ => said_err (ec := eGreat) (wd := "great") (by simp [four]) fun w1 H18 k18 hw1 => ?_), (fun _ z => by rw [thP_len] at z; exact absurd z (by decide))⟩
  have hP18 := hP17.ext k18
  have hT18 := hT17.ext k18
  refine ⟨hT18, fun dd hdd f c' H19 n19 C hC => ⟨f, _, rfl, hC f _ (lamAt_new n19 ["_law_n", "_law_pair"] ["_law_n"] ["_law_pair"] [1] 0 29 (nscope_by (by decide +kernel)) (free_by (outer := defScope s_law_thousand_right) (by decide +kernel)) (by decide +kernel) rfl (fun vs h => rfl) (lam_bind1 (x := "_law_n") (d := dd) (i := 0) (fun pm ctv u => ⟨_, rfl, rfl⟩)) (fun pins s0 I A2 outer2 s2 H2 E2 hr2 nf un => pe_cal c_added hr2 (passes_call (takes_of rfl rfl rfl rfl) (fun _ _ _ _ h => h)) (pa_cons (pv 1) (pa_cons (pe_tupK K (pa_cons (pe_tupK K (pa_cons pe_int (pa_cons pe_int pa_nil))) pa_nil)) pa_nil)))), fun H20 k20 => ⟨k20 _ _ n19.2.2.2.2.1, k20 _ _ n19.2.2.2.2.2, rfl, k20 _ _ (n19.1 _ _ upd_same (by intro ps z; cases z)), ?_⟩⟩⟩
  have K20 : Ke K [] H18 H20 := ((Ke.new hdd).trans n19.ke).trans (.ext k20)
  have hP20 := hP18.ke K20 (by simp)
  refine ⟨_, rfl, [.int 0, .int 0], DtAll.ofInts [0, 0], sm 2, fun z1 H21 k21 hz1 => ⟨[_], .cons hz1 .nil, sm 1, fun z2 H22 k22 hz2 => ?_⟩⟩
  refine ⟨a, thP, z2, [(0, some 0)], rfl, (hP20.ext k21).ext k22, thP_ok, hz2, by decide, (fun n hn => by rw [gone_one (th_good _)] at hn; cases hn), (fun _ _ => said_err (ec := eGreat) (wd := "great") (by simp [four]) fun w2 H23 k23 hw2 => ?_), (fun _ z => by rw [thP_len] at z; exact absurd z (by decide))⟩
  have K23 : Ke K [] H18 H23 := K20.trans (.ext (k21.trans (k22.trans k23)))
  have hw1 := K23.dt hw1
  have hP23 := hP18.ke K23 (by simp)
  have hT23 := K23.tab hT18
  refine ⟨sm 3, fun l hl => ?_⟩
  have hl24 : (upd H23 l (.lst [.int (1000 : Nat), w1, w2])) l = _ := upd_same
  have k24 := Ext.new (o := .lst [.int (1000 : Nat), w1, w2]) hl
  generalize upd H23 l (.lst [.int (1000 : Nat), w1, w2]) = H24 at hl24 k24
  have hP24 := hP23.ext k24
  obtain ⟨dx, _, _, _, _, _, ha24, _⟩ := id hP24
  refine ⟨_, rfl, _, rfl, a, dx, _, rfl, ha24, a, thP, rfl, hP24, thP_ok, fun w3 H25 k25 hw3 => ⟨sm 1, fun l2 hl2 => ?_⟩⟩
  have k26 := Ext.new (o := .lst [w3]) hl2
  refine ⟨l, l2, _, _, rfl, rfl, k26 _ _ (k25 _ _ hl24), upd_same, sm 4, fun g hg => ?_⟩
  have k27 := Ext.new (o := .lst ([.int (1000 : Nat), w1, w2] ++ [w3])) hg
  have hg27 : (upd (upd H25 l2 (.lst [w3])) g (.lst ([.int (1000 : Nat), w1, w2] ++ [w3]))) g = _ := upd_same
  have j27 := (k24.trans k25).trans (k26.trans k27)
  have hw3 : Dt K _ w3 thP.now.far := (k26.trans k27).dt hw3
  rw [thP_far] at hw3
  have hw1 := j27.dt hw1
  have hw2 := j27.dt hw2
  generalize upd (upd H25 l2 (.lst [w3])) g (.lst ([.int (1000 : Nat), w1, w2] ++ [w3])) = H27 at hg27 j27 hw3 hw1 hw2
  refine ⟨_, rfl, [.str "great", .int 1000], .cons (.str _) (.cons (.int _) .nil), sm 2, fun a1 H28 k28 ha1 => ⟨[.str "great", .int 1000], .cons (.str _) (.cons (.int _) .nil), sm 2, fun a2 H29 k29 ha2 => ⟨[.int 0, .int 1], DtAll.ofInts [0, 1], sm 2, fun a3 H30 k30 ha3 => ⟨sm 4, fun l3 hl3 => ?_⟩⟩⟩⟩
  have k31 := Ext.new (o := .lst [.int 1000, a1, a2, a3]) hl3
  have j31 := (k28.trans (k29.trans k30)).trans k31
  refine ⟨.list [.int 1000, .tuple [.str "great", .int 1000], .tuple [.str "great", .int 1000], .tuple [.int 0, .int 1]], .list [.int 1000, .tuple [.str "great", .int 1000], .tuple [.str "great", .int 1000], .tuple [.int 0, .int 1]],
    .lst (SqL.of (j31 _ _ hg27)) (dpAll (.cons (.int _) (.cons (j31.dt hw1) (.cons (j31.dt hw2) (.cons (j31.dt hw3) .nil))))), .lst (SqL.of upd_same) (dpAll (.cons (.int _) (.cons ((k29.trans (k30.trans k31)).dt ha1) (.cons ((k30.trans k31).dt ha2) (.cons (k31.dt ha3) .nil))))), sh_told.shaped, sh_told.shaped, _, rfl, ifN (by rw [sh_told.eqv] <;> rfl) ?_⟩
  have hP31 := (hP23.ext j27).ext j31
  have hT31 := (hT23.ext j27).ext j31
  generalize upd H30 l3 (.lst [.int 1000, a1, a2, a3]) = H31 at hP31 hT31
  clear hw1 hw2 hw3 ha1 ha2 ha3 hg27 hP24 hP23 hP20 hP18 hP17 hP15 hP14 hP
  refine ⟨hT31, fun f c' H32 n32 C hC => ⟨f, _, rfl, hC f _ (lamAt_new n32 ["_law_pair"] [] ["_law_pair"] [1] 0 29 (nscope_by (by decide +kernel)) (free_by (outer := defScope s_law_thousand_right) (by decide +kernel)) (by decide +kernel) rfl (fun vs h => h) (lam_bind0 (lps := []) (fun pm ctv us hl => match us, hl with | [], _ => rfl)) (fun pins s0 I A2 outer2 s2 H2 E2 hr2 nf un => pe_cal c_added hr2 (passes_call (takes_of rfl rfl rfl rfl) (fun _ _ _ _ h => h)) (pa_cons (pv 0) (pa_cons (pe_tupK K (pa_cons (pe_tupK K (pa_cons pe_int (pa_cons pe_int pa_nil))) (pa_cons (pe_tupK K (pa_cons pe_int (pa_cons pe_int pa_nil))) pa_nil))) pa_nil)))), fun H33 k33 => ⟨k33 _ _ n32.2.2.2.2.1, k33 _ _ n32.2.2.2.2.2, rfl, trivial, ?_⟩⟩⟩
  have hP33 := (hP31.ke (n32.ke (M := [])) (by simp)).ext k33
  have hT33 := n32.2.2.1.ext k33
  refine ⟨_, rfl, [.int 0, .int 0], DtAll.ofInts [0, 0], sm 2, fun z1 H34 k34 hz1 => ⟨[.int 5, .int 0], DtAll.ofInts [5, 0], sm 2, fun z2 H35 k35 hz2 => ⟨[_, _], .cons (k35.dt hz1) (.cons hz2 .nil), sm 2, fun z3 H36 k36 hz3 => ?_⟩⟩⟩
  have j36 := k34.trans (k35.trans k36)
  refine ⟨a, thP, z3, [(0, some 0), (5, some 0)], rfl, hP33.ext j36, thP_ok, hz3, by decide, (fun n hn => ?_), (fun z => by rw [thP_two] at z; cases z), (fun z => by rw [thP_two] at z; cases z)⟩
  rw [thP_two] at hn
  cases hn
  refine said_err (ec := eRun) (wd := "run") (by simp [four]) fun w4 H37 k37 hw4 => ?_
  have hP37 := (hP33.ext j36).ext k37
  have hT37 := (hT33.ext j36).ext k37
  refine ⟨[.str "run", .int 1], .cons (.str _) (.cons (.int _) .nil), sm 2, fun b1 H38 k38 hb1 => ?_⟩
  refine ⟨.tuple [.str "run", .int 1], .tuple [.str "run", .int 1], Dt.dp _ _ (k38.dt hw4), Dt.dp _ _ hb1, (sh_word (n := 0) (by decide +kernel) (Sh.int _)).shaped, (sh_word (n := 0) (by decide +kernel) (Sh.int _)).shaped, _, rfl, ifN (by rw [(sh_word (n := 0) (x := "run") (by decide +kernel) (Sh.int 1)).eqv] <;> rfl) ?_⟩
  have hP38 := hP37.ext k38
  have hT38 := hT37.ext k38
  refine ⟨hT38, fun f c' H39 n39 C hC => ⟨f, _, rfl, hC f _ (lamAt_new n39 ["_law_pair"] [] ["_law_pair"] [1] 0 29 (nscope_by (by decide +kernel)) (free_by (outer := defScope s_law_thousand_right) (by decide +kernel)) (by decide +kernel) rfl (fun vs h => h) (lam_bind0 (lps := []) (fun pm ctv us hl => match us, hl with | [], _ => rfl)) (fun pins s0 I A2 outer2 s2 H2 E2 hr2 nf un => pe_callI (pv 0) Z.callP (fr_call (P := P) (w := w) (base := base) Z) (hr2.mono (by decide)) (passes_call (takes_of rfl rfl rfl rfl) (fun _ _ _ _ h => h)) (pa_cons pe_int (pa_cons pe_int pa_nil)))), fun H40 k40 => ⟨k40 _ _ n39.2.2.2.2.1, k40 _ _ n39.2.2.2.2.2, rfl, trivial, ?_⟩⟩⟩
  have hP40 := (hP38.ke (n39.ke (M := [])) (by simp)).ext k40
  obtain ⟨dx, _, _, _, _, _, ha40, _⟩ := id hP40
  refine ⟨_, rfl, a, rfl, ⟨dx, _, ha40⟩, a, thP, 5, some 0, rfl, hP40, thP_ok, (fun _ => said_err (ec := eRound) (wd := "round") (by simp [four]) fun w5 H41 k41 hw5 => ?_), (fun z => by rw [thP_w, th_bad] at z; cases z), (fun z => by rw [thP_w, th_bad] at z; cases z)⟩
  refine ⟨[.int 5, .int 0], DtAll.ofInts [5, 0], sm 2, fun d1 H42 k42 hd1 => ⟨[.str "round", _], .cons (.str _) (.cons hd1 .nil), sm 2, fun d2 H43 k43 hd2 => ?_⟩⟩
  have sh5 : Sh 2 (.tuple [.str "round", .tuple [.int 5, .int 0]]) := sh_word (by decide +kernel) (Sh.tup fun e he => by
    simp only [List.mem_cons, List.not_mem_nil, or_false] at he
    rcases he with rfl | rfl <;> exact Sh.int _)
  refine ⟨.tuple [.str "round", .tuple [.int 5, .int 0]], .tuple [.str "round", .tuple [.int 5, .int 0]], Dt.dp _ _ ((k42.trans k43).dt hw5), Dt.dp _ _ hd2, sh5.shaped, sh5.shaped, ?_⟩
  rw [sh5.eqv]
  exact q _
end
end K21
/-! K22H: _law_begin. -/
namespace K21
open PySem PySem.Spec PyProof.Rows L2 LamX He NdefX
def rCatS (K : PySem.W.Frag) : R2 := fun x y H Q => ∃ l b xs zs, x = .ref l ∧ y = .ref b ∧ SqL K H l xs ∧ H b = some (.lst zs) ∧ xs.length + zs.length ≤ sizeLine ∧ ∀ p, H p = none → Q (.ref p) (upd H p (.lst (xs ++ zs)))
theorem op_catS {X : Cx} : OpR X (binaryOp .Add) (rCatS X.K) := by
  intro pins s σ H x y v u Q I rx ry h
  obtain ⟨l, b, xs, zs, rfl, rfl, hH, hB, hz, q⟩ := h
  cases rx
  cases ry
  obtain ⟨its, r, ⟨⟨cls, dd, data, sl⟩, n, ho, hc, hdd, hd⟩, z⟩ := I.list hH
  obtain ⟨z2, its2, n2, r2, hl2, e2⟩ := I.lstM hB
  simp only at hc hd hdd
  subst hc hd hdd
  have l1 := r.length
  refine concat_meets ⟨_, ho, rfl⟩ ⟨_, e2, rfl⟩ noFill_list_add seq_list_add PySem.F.slot_list_add PySem.F.entry_list_add (PySem.F.args_list_add_2 _ _) (list_addW l b its.toArray its2.toArray n n2 none none sl #[] (by rw [List.size_toArray, List.size_toArray]; omega)) ⟨ho, e2, ?_⟩
  have ea : its.toArray ++ its2.toArray = (its ++ its2).toArray := by simp
  rw [ea]
  exact ⟨.ref _, _, I.lnew (t' := s.toks) (r.append r2) (by rw [List.length_append]; omega), rfl, q _ I.fresh⟩
section
variable {P : Program} {w : World} {K : PySem.W.Frag} {mg : Str → Option Value} {base : Heap}
def spBegin (K : PySem.W.Frag) : Sp := fun vs H Q _ => ∃ (a : Addr) (ns : List Int), vs = [.ref a] ∧ SqL K H a (ns.map V.int) ∧ ns.length ≤ 900 ∧ ∀ d H', Ext H H' → H d.d = none → DrawAt H' d 100000000 → Q (.ref d.d) H'
theorem ok_begin (Z : Tx K mg) : Cal P w K mg base CX0 1 "_law_begin" p_law_begin (spBegin K) := by
  obtain ⟨fd, F⟩ := Z.fn_law_begin
  refine cal_of Z.g_law_begin F sc_law_begin (fun _ _ _ _ _ _ us hl => match us, hl with | [_], _ => rfl) (by intro vs H Q E h; repeat (first | (obtain ⟨rfl, _⟩ := h; rfl) | (obtain ⟨_, h⟩ := h))) fun cdv A outer s H vs Q E hr h => ?_
  refine ⟨_, PSs.nox (pss_one (ps_ret (pe_disp (pps_cons pe_str (pe_op op_catS (pv 0) (pe_lst (pa_cons pe_int pa_nil))) (pps_cons pe_str pe_int (pps_cons pe_str pe_int (pps_cons pe_str pe_int pps_nil)))) rfl rfl (by simp) (by decide)))), ?_⟩
  obtain ⟨a, ns, rfl, ha, hl, q⟩ := h
  intro p hp
  have k1 : Ext H (upd H p (.dK [])) := Ext.new hp
  have hp1 : (upd H p (.dK [])) p = some (.dK []) := upd_same
  generalize upd H p (.dK []) = H1 at k1 hp1
  refine ⟨_, rfl, sm 1, fun D hD => ?_⟩
  have k2 := Ext.new (o := .lst [.int 0]) hD
  have hD2 : (upd H1 D (.lst [.int 0])) D = some (.lst [.int 0]) := upd_same
  generalize upd H1 D (.lst [.int 0]) = H2 at k2 hD2
  refine ⟨a, D, ns.map V.int, [.int 0], rfl, rfl, (ha.ext k1).ext k2, hD2, ?_, fun g hg => ?_⟩
  · rw [List.length_map]
    exact Nat.le_trans (by simp; omega : _ ≤ 1000) (sm 1000)
  have k3 := Ext.new (o := .lst (ns.map V.int ++ [.int 0])) hg
  have hg3 : (upd H2 g (.lst (ns.map V.int ++ [.int 0]))) g = some (.lst (ns.map V.int ++ [.int 0])) := upd_same
  have hp3 := k3 _ _ (k2 _ _ hp1)
  generalize upd H2 g (.lst (ns.map V.int ++ [.int 0])) = H3 at k3 hg3 hp3
  have hgp : g ≠ p := ne_of hg3 hp3 (by intro z; cases z)
  have em : mergeK [] (dkv g 0 0 0) = dkv g 0 0 0 := rfl
  refine ⟨hp3, dkv g 0 0 0, rfl, by show (4 : Nat) ≤ 15; decide, ?_⟩
  rw [em]
  refine q ⟨p, g⟩ _ (fun b o e => ?_) hp ⟨0, 0, 0, ns ++ [0], upd_same, ?_, by simp, by simp; omega, by decide, by decide, by decide, by decide, by decide⟩
  · exact (upd_ne (ne_of_none e hp)).trans (k3 _ _ (k2 _ _ (k1 _ _ e)))
  · rw [List.map_append]
    exact (upd_ne hgp).trans hg3
end
end K21
/-! K22I: law. -/
namespace K21
open PySem PySem.Spec PyProof.Rows L2 LamX He NdefX
/-- what the walk of a turn holds -/
structure Sit (K : PySem.W.Frag) (H : Hp) (d : Dr) (n : Nat) (a : Addr) (p : Ps) (vw : V) (x : Wd) (l : Addr) (us : List V) (q : Ps) : Prop where
  dr : DrawAt H d n
  pr : PairAt K H a p
  tb : Tabs (TK K) H
  wd : Dt K H vw x.d
  ls : H l = some (.lst us)
  ds : DtAll K H us (allD q)
section
variable {K : PySem.W.Frag} {M : List Addr} {H H' : Hp} {d : Dr} {n n' : Nat} {a a' l : Addr} {p p' q : Ps} {vw : V} {x : Wd} {us : List V}
theorem Sit.to (h : Sit K H d n a p vw x l us q) (k : Ke K M H H') (hd : DrawAt H' d n') (hP : PairAt K H' a' p') : Sit K H' d n' a' p' vw x l us q := ⟨hd, hP, k.tab h.tb, k.dt h.wd, k.lst h.ls, DtAll.tk k.tk _ _ h.ds⟩
theorem Sit.ke (h : Sit K H d n a p vw x l us q) (k : Ke K M H H') (hd : d.d ∉ M := by simp) (ha : a ∉ M := by simp) : Sit K H' d n a p vw x l us q := h.to k (h.dr.ke k hd) (h.pr.ke k ha)
theorem Sit.ne (h : Sit K H d n a p vw x l us q) : d.d ≠ a := h.dr.ne_pair h.pr
end
theorem sh_end (k : Nat) : Sh 2 (endD k) := by
  unfold endD
  split
  · exact sh_word (by decide +kernel) (Sh.int _)
  · exact sh_word (by decide +kernel) (Sh.tup fun e he => by
      simp only [List.mem_cons, List.not_mem_nil, or_false] at he
      rcases he with rfl | rfl <;> exact Sh.int _)
section
variable {P : Program} {w : World} {K : PySem.W.Frag} {mg : Str → Option Value} {base : Heap}
theorem q_law : (d_law.qual ++ ".<locals>.") ++ "<lambda>" = (("law", none) : Defn).1 ++ ".<locals>.<lambda>" := by decide +kernel
theorem in_law : (("law", none) : Defn) ∈ tfs := by decide +kernel
def spLaw (K : PySem.W.Frag) : Sp := fun vs H Q _ => ∃ (a : Addr) (ns : List Int), vs = [.ref a] ∧ SqL K H a (ns.map V.int) ∧ ns.length ≤ 900 ∧ Tabs (TK K) H ∧ ∀ H', Q (.bl true) H'
theorem ok_law (Z : Tx K mg) (TB : TBs K mg base) {fd : FuncData} (F : FunD K d_law.name d_law.qual (defArgs s_law) (defBody s_law) (defScope s_law) (d_law.dfl.map (Dv.v K)) [] (d_law.at_ K) fd) : FnOk P w K mg base (L2.CX P w) 40 (ga K "law") fd p_law (spLaw K) := by
  refine okT ("law", none) F sc_law (by intro vs H Q E h; repeat (first | (obtain ⟨rfl, _⟩ := h; rfl) | (obtain ⟨_, h⟩ := h))) fun A outer s H vs Q E hr h => ?_
  have c_law_begin := ok_begin (P := P) (w := w) (base := base) Z
  have c_law_world := ok_world_ (P := P) (w := w) (base := base) Z
  have c_law_rule := ok_rule_ (P := P) (w := w) (base := base) Z
  have c_law_next := ok_next (P := P) (w := w) (base := base) Z
  have c_law_started := ok_started (P := P) (w := w) (base := base) Z
  have c_law_all := ok_all (P := P) (w := w) (base := base) Z TB
  have c_law_inside := ok_inside (P := P) (w := w) (base := base) Z
  have c_law_within := ok_within (P := P) (w := w) (base := base) Z TB
  have c_law_ended := ok_ended (P := P) (w := w) (base := base) Z TB
  have c_law_goes_on := ok_goes_on (P := P) (w := w) (base := base) Z
  have c_law_thousand_right := ok_thousand (P := P) (w := w) (base := base) Z TB
  have c_under := ok_under (P := P) (w := w) (base := base) Z 30 (by decide)
  have m_trial := ok_trial (P := P) (w := w) (base := base) Z
  have m_copy := ok_copy (P := P) (w := w) (base := base) Z
  refine ⟨_, (pss_cons (ps_set (i := 1) sc_law.nd rfl (Or.inr rfl) (pe_cal c_law_begin hr pass0 (pa_cons (pv 0) pa_nil)))
    (pss_cons (ps_for (passes_of rfl) rfl (pi_range1 (by rfl) Z.f_range (pa_cons pe_int pa_nil)) (pg_name (i := 2) sc_law.nd rfl (Or.inl rfl))
      (pss_cons (ps_asg (pe_tup (pa_cons (pe_cal c_law_world hr pass0 (pa_cons (pv 1) (pa_cons pe_int pa_nil))) (pa_cons (pe_cal c_law_rule hr pass0 (pa_cons (pv 1) (pa_cons pe_int (pa_cons pe_int pa_nil)))) (pa_cons (pe_op op_sub (pe_cal c_law_next hr pass0 (pa_cons (pv 1) (pa_cons pe_int pa_nil))) pe_int) pa_nil)))) (pg_tup rfl (pgs_cons (pg_name (i := 3) sc_law.nd rfl (Or.inr rfl)) (pgs_cons (pg_name (i := 4) sc_law.nd rfl (Or.inl rfl)) (pgs_cons (pg_name (i := 5) sc_law.nd rfl (Or.inl rfl)) pgs_nil)))))
        (pss_cons (ps_set (i := 6) sc_law.nd rfl (Or.inr rfl) (pe_cal c_law_started hr (passes_call (takes_of rfl rfl rfl rfl) (fun _ _ _ _ h => h)) (pa_cons (pv 1) (pa_cons (pv 3) (pa_cons (pv 4) (pa_cons (pv 5) pa_nil))))))
        (pss_cons (ps_set (i := 7) sc_law.nd rfl (Or.inl rfl) (pe_cal c_law_all hr (passes_call (takes_of rfl rfl rfl rfl) (fun _ _ _ _ h => h)) (pa_cons (pv 6) pa_nil)))
        (pss_cons (ps_if (pt_not (pt_val (pe_callB call_isD (by rfl) Z.f_isinstance bt_isinstance (pa_cons (pe_calCk c_under hr (passes_call (takes_of rfl rfl rfl rfl) (fun _ _ _ _ h => h)) (pk_cons (pe_mcal0 (E := E) m_trial Z.clsP (pv 6) hr pass0) (pk_cons (pe_lam0 (T := TK K) (TB _ in_law) rfl (tk_in in_law q_law) (tk_u Z in_law q_law) (free_by (outer := defScope s_law) (by decide +kernel))) pk_nil))) (pa_cons (pe_bltn (v := .ty "int") (by rfl) Z.f_int bt_int rfl) pa_nil)))))
          (pss_one (ps_ret pe_bl))
          pss_nil)
        (pss_cons (ps_if (pt_cmpR (op_neD hr.units) (pe_cal c_law_all hr (passes_call (takes_of rfl rfl rfl rfl) (fun _ _ _ _ h => h)) (pa_cons (pv 6) pa_nil)) (pv 7) (nomark _))
          (pss_one (ps_ret pe_bl))
          pss_nil)
        (pss_cons (ps_if (pt_cmpR (op_neT hr.units) (pe_cal c_law_ended hr (passes_call (takes_of rfl rfl rfl rfl) (fun _ _ _ _ h => h)) (pa_cons (pv 1) (pa_cons (pv 6) (pa_cons (pv 3) (pa_cons pe_int pa_nil))))) (pe_tupD (pa_cons pe_str (pa_cons pe_int pa_nil))) (nomark _))
          (pss_one (ps_ret pe_bl))
          pss_nil)
        (pss_cons (ps_if (pt_cmpR (op_neT hr.units) (pe_cal c_law_ended hr (passes_call (takes_of rfl rfl rfl rfl) (fun _ _ _ _ h => h)) (pa_cons (pv 1) (pa_cons (pv 6) (pa_cons (pv 3) (pa_cons pe_int pa_nil))))) (pe_tupD (pa_cons pe_str (pa_cons (pe_tupD (pa_cons pe_int (pa_cons pe_int pa_nil))) pa_nil))) (nomark _))
          (pss_one (ps_ret pe_bl))
          pss_nil)
        (pss_cons (ps_if (pt_cmpR (op_neD hr.units) (pe_cal c_law_all hr (passes_call (takes_of rfl rfl rfl rfl) (fun _ _ _ _ h => h)) (pa_cons (pv 6) pa_nil)) (pv 7) (nomark _))
          (pss_one (ps_ret pe_bl))
          pss_nil)
        (pss_cons (ps_if (pt_not (pt_val (pe_calC c_under hr (passes_call (takes_of rfl rfl rfl rfl) (fun _ _ _ _ h => h)) (pa_cons (pe_mcal0 (E := E) m_trial Z.clsP (pv 6) hr pass0) (pa_cons (pe_lam0 (T := TK K) (TB _ in_law) rfl (tk_in in_law q_law) (tk_u Z in_law q_law) (free_by (outer := defScope s_law) (by decide +kernel))) pa_nil)))))
          (pss_one (ps_ret pe_bl))
          pss_nil)
        (pss_cons (ps_if (pt_cmpR (op_neD hr.units) (pe_cal c_law_all hr (passes_call (takes_of rfl rfl rfl rfl) (fun _ _ _ _ h => h)) (pa_cons (pv 6) pa_nil)) (pv 7) (nomark _))
          (pss_one (ps_ret pe_bl))
          pss_nil)
        (pss_cons (ps_par (i := 8) (j := 9) rfl sc_law.nd rfl rfl (by decide) rfl rfl (pa_cons (pe_mcal0 (E := E) m_trial Z.clsP (pv 6) hr pass0) (pa_cons (pe_mcal0 (E := E) m_copy Z.clsP (pv 6) hr pass0) pa_nil)) (by rfl))
        (pss_cons (ps_expr (pe_cal c_law_goes_on hr (passes_call (takes_of rfl rfl rfl rfl) (fun _ _ _ _ h => h)) (pa_cons (pv 1) (pa_cons (pv 6) (pa_cons (pv 3) pa_nil)))))
        (pss_cons (ps_set (i := 10) sc_law.nd rfl (Or.inl rfl) (pe_cal c_law_all hr (passes_call (takes_of rfl rfl rfl rfl) (fun _ _ _ _ h => h)) (pa_cons (pv 6) pa_nil)))
        (pss_cons (ps_expr (pe_calC c_under hr (passes_call (takes_of rfl rfl rfl rfl) (fun _ _ _ _ h => h)) (pa_cons (pv 8) (pa_cons (pe_lam0 (T := TK K) (TB _ in_law) rfl (tk_in in_law q_law) (tk_u Z in_law q_law) (free_by (outer := defScope s_law) (by decide +kernel))) pa_nil))))
        (pss_cons (ps_if (PW.pt (pw_or (pt_cmpR (op_neD hr.units) (pe_cal c_law_all hr (passes_call (takes_of rfl rfl rfl rfl) (fun _ _ _ _ h => h)) (pa_cons (pv 6) pa_nil)) (pv 10) (nomark _)) (pw_or1 (pt_cmpR (op_neD hr.units) (pe_cal c_law_all hr (passes_call (takes_of rfl rfl rfl rfl) (fun _ _ _ _ h => h)) (pa_cons (pv 9) pa_nil)) (pv 7) (nomark _)))))
          (pss_one (ps_ret pe_bl))
          pss_nil)
        (pss_cons (ps_expr (pe_cal c_law_goes_on hr (passes_call (takes_of rfl rfl rfl rfl) (fun _ _ _ _ h => h)) (pa_cons (pv 1) (pa_cons (pv 9) (pa_cons (pv 3) pa_nil)))))
        (pss_one (ps_if (PW.pt (pw_or (pt_cmpR (op_neD hr.units) (pe_cal c_law_all hr (passes_call (takes_of rfl rfl rfl rfl) (fun _ _ _ _ h => h)) (pa_cons (pv 6) pa_nil)) (pv 10) (nomark _)) (pw_or (pt_cmpR (op_neO (E := E) Z.m_eq Z.pair.2.1 Z.pair.2.2 (fr_eq (P := P) (w := w) (base := base) Z) (hr.mono (by decide)) pass0) (pe_mcal0 (E := E) m_copy Z.clsP (pv 9) hr pass0) (pv 9) (nomark _)) (pw_or1 (pt_cmpR (op_neD hr.units) (pe_cal c_law_all hr (passes_call (takes_of rfl rfl rfl rfl) (fun _ _ _ _ h => h)) (pa_cons (pe_mcal0 (E := E) m_copy Z.clsP (pv 9) hr pass0) pa_nil)) (pe_cal c_law_all hr (passes_call (takes_of rfl rfl rfl rfl) (fun _ _ _ _ h => h)) (pa_cons (pv 9) pa_nil)) (nomark _))))))
          (pss_one (ps_ret pe_bl))
          pss_nil)))))))))))))))))))
    (pss_one (ps_ret (pe_cal0 c_law_thousand_right hr (passes_call (takes_of rfl rfl rfl rfl) (fun _ _ _ _ h => h))))))), ?_⟩
  obtain ⟨a0, ns, rfl, ha, hl, hT, q⟩ := h
  refine ⟨_, rfl, a0, ns, rfl, ha, hl, fun d H0 k0 _ hd0 => ?_⟩
  refine ⟨5, rfl, by decide, by decide, for_range (n := 5) (fun i σ H' => ∃ o2 o3 o4 o5 o6 o7 o8 o9 o10 : Option V, σ = [some (.ref a0), some (.ref d.d), o2, o3, o4, o5, o6, o7, o8, o9, o10] ∧ Tabs (TK K) H' ∧ DrawAt H' d (1000 * (5 - i)))
    ⟨_, _, _, _, _, _, _, _, _, rfl, hT.ext k0, hd0.less (by omega)⟩ ?_ ?_⟩
  rotate_left
  · rintro σ H' ⟨o2, o3, o4, o5, o6, o7, o8, o9, o10, rfl, hT', _⟩
    exact ⟨rfl, hT', fun H' => q H'⟩
  rintro i σ H1 hi ⟨o2, o3, o4, o5, o6, o7, o8, o9, o10, rfl, hT1, hd1⟩
  obtain ⟨n, hn⟩ : ∃ n, n = 1000 * (5 - (i + 1)) := ⟨_, rfl⟩
  have hd1 : DrawAt H1 d (n + 1000) := hd1.less (by omega)
  refine ⟨_, rfl, d, n + 990, rfl, hd1.less (by omega), fun vw x H2 xo k2 hd2 hw2 => ?_⟩
  refine ⟨_, rfl, d, n + 900, rfl, hd2.less (by omega), fun vr r H3 ro k3 hd3 hr3 => ?_⟩
  refine ⟨_, rfl, d, n + 899, 9, rfl, by decide, by decide, hd3, fun b H4 b0 b1 k4 hd4 => ⟨_, _, rfl, rfl, sm 3, fun g hg => ?_⟩⟩
  have k5 := Ext.new (o := .tup [vw, vr, .int (b - 4)]) hg
  have hg5 : (upd H4 g (.tup [vw, vr, .int (b - 4)])) g = _ := upd_same
  have hT5 := (k4.tab (k3.tab (k2.tab hT1))).ext k5
  have hd5 := hd4.ext k5
  have hw5 := k5.dt (k4.dt (k3.dt hw2))
  have hr5 := k5.dt (k4.dt hr3)
  generalize upd H4 g (.tup [vw, vr, .int (b - 4)]) = H5 at hg5 hT5 hd5 hw5 hr5
  refine ⟨g, _, rfl, SqT.of hg5, rfl, _, _, rfl, _, _, rfl, _, _, rfl, rfl, ?_⟩
  refine ⟨_, rfl, _, rfl, _, rfl, _, rfl, d, n + 890, vw, vr, b - 4, x, r, rfl, hd5.less (by omega), hw5, xo, hr5, ro, by omega, by omega, fun a p H6 k6 ha hP few hpw hd6 => ?_⟩
  subst hpw
  refine ⟨_, rfl, a, p, rfl, hP, few.ok, k6.tab hT5, fun l us H7 k7 _ hl7 hus7 => ?_⟩
  have S7 : Sit K H7 d (n + 890) a p vw p.w l us p := ⟨hd6.ke k7 (by simp), hP.ke k7 (by simp), k7.tab (k6.tab hT5), k7.dt (k6.dt hw5), hl7, hus7⟩
  clear hT5 hd5 hw5 hr5 hd4 hd3 hd2 hd1 hw2 hr3 hT1 k7 k6 k4 k3 k2 k5 hg5
  have hda := S7.ne
  have nda : d.d ∉ [a] := fun z => hda (List.mem_singleton.mp z)
  have nad : a ∉ [d.d] := fun z => hda (List.mem_singleton.mp z).symm
  obtain ⟨dx, _, _, _, _, _, ha7, _⟩ := id S7.pr
  refine ⟨_, rfl, a, dx, _, rfl, ha7, rfl, a, p, rfl, S7.pr, fun t H8 k8 ht hT8 => ?_⟩
  have S8 := S7.ke (M := []) (.ext k8)
  refine ⟨S8.tb, fun f c' H9 n9 C hC => ?_⟩
  have S9 := S8.ke (M := []) n9.ke
  have hT9 := hT8.ke (M := []) n9.ke (by simp)
  obtain ⟨dt, _, _, _, ht9, _⟩ := id hT9
  have nat : a ≠ t := fun z => by rw [z, ht] at ha7; cases ha7
  have ndt : d.d ≠ t := S9.dr.ne_trial hT9
  refine ⟨t, a, f, p.now, p.past, p.coming, p, _, rfl, hT9, S9.pr, hC f _ (lamAt_new n9 ["_law_one", "_law_draw", "_law_pair", "_law_world_here"] ["_law_one"] ["_law_draw", "_law_pair", "_law_world_here"] [1, 6, 3] 1 29 (nscope_by (by decide +kernel)) (free_by (outer := defScope s_law) (by decide +kernel)) (by decide +kernel) rfl (fun vs h => h) (lam_bind0 (lps := ["_law_one"]) (fun pm ctv us hl => match us, hl with | [_], _ => rfl)) (fun pins s0 I A2 outer2 s2 H2 E2 hr2 nf un => pe_cal c_law_inside hr2 (passes_call (takes_of rfl rfl rfl rfl) (fun _ _ _ _ h => h)) (pa_cons (pv 1) (pa_cons (pv 0) (pa_cons (pv 2) (pa_cons (pv 3) pa_nil)))))), fun H10 k10 hT10 hP10 => ?_⟩
  have S10 := S9.ke k10.ke (by simp [ndt]) (by simp [nat])
  refine ⟨k10.kp _ _ n9.2.2.2.2.1 (.inr fun z => lmO_at2 n9.2.2.2.2.1 ht9 (List.mem_singleton.mp z)), k10.kp _ _ n9.2.2.2.2.2 (.inr fun z => codeO_at2 n9.2.2.2.2.2 ht9 (List.mem_singleton.mp z)), rfl, trivial, ?_⟩
  refine ⟨_, rfl, _, rfl, _, rfl, _, rfl, d, n + 884, 5, a, p, vw, rfl, S10.dr, S10.pr, few, by decide, S10.wd, fun i2 p' H11 k11 hP11 s1 s2 s3 hd11 => ⟨hT10.ke k11.ke (by simp [nat.symm, ndt.symm]), ⟨p', hP11, s1, s2, s3⟩, fun H12 k12 hP12 => ?_⟩⟩
  have S12 := S10.to ((k11.ke (K := K)).trans (k12.ke.mono (by simp))) (hd11.kx k12 nda) hP12
  refine ⟨.int i2, "int", .int i2, true, rfl, .int _, rfl, _, rfl, ifN rfl ?_⟩
  clear hT10 hT9 hT8 ht9 ht nat ndt hC n9 S7 S8 S9 S10 ha7 hP10 hP11 hP12 k10 k11 k12
  refine ⟨_, rfl, a, p, rfl, S12.pr, few.ok, S12.tb, fun l2 us2 H13 k2 _ hl2 hus2 => ?_⟩
  have S13 := S12.ke (M := []) k2
  refine ⟨_, rfl, .list (allD p), .list (allD p), .lst (SqL.of hl2) (dpAll hus2), .lst (SqL.of S13.ls) (dpAll S13.ds), (sh_allD p).shaped, (sh_allD p).shaped, _, rfl, ifN (by rw [(sh_allD p).eqv] <;> rfl) ?_⟩
  clear hl2 hus2 k2
  refine ⟨_, rfl, _, rfl, _, rfl, d, n + 883, 5, 0, a, p, vw, rfl, by decide, S13.dr, S13.pr, few, by decide, S13.wd, S13.tb, fun u H14 k14 hP14 hd14 hu14 => ?_⟩
  have S14 := S13.to k14 hd14 hP14
  refine ⟨[.str "left", .int 2000], .cons (.str _) (.cons (.int _) .nil), sm 2, fun w1 H15 k15 hw1 => ?_⟩
  have S15 := S14.ke (M := []) (.ext k15)
  refine ⟨endD 0, endD 0, k15.dt hu14, hw1, (sh_end 0).shaped, (sh_end 0).shaped, _, rfl, ifN (by rw [(sh_end 0).eqv] <;> rfl) ?_⟩
  refine ⟨_, rfl, _, rfl, _, rfl, d, n + 882, 5, 1, a, p, vw, rfl, by decide, S15.dr, S15.pr, few, by decide, S15.wd, S15.tb, fun u2 H16 k16 hP16 hd16 hu16 => ?_⟩
  have S16 := S15.to k16 hd16 hP16
  refine ⟨[.int 61, .int 0], DtAll.ofInts [61, 0], sm 2, fun w2 H17 k17 hw2 => ⟨[.str "round", _], .cons (.str _) (.cons hw2 .nil), sm 2, fun w3 H18 k18 hw3 => ?_⟩⟩
  have S18 := S16.ke (M := []) (.ext (k17.trans k18))
  refine ⟨endD 1, endD 1, (k17.trans k18).dt hu16, hw3, (sh_end 1).shaped, (sh_end 1).shaped, _, rfl, ifN (by rw [(sh_end 1).eqv] <;> rfl) ?_⟩
  clear hu14 hu16 hw1 hw2 hw3 k14 k15 k16 k17 k18 hP14 hP16 hd14 hd16 hd11 S12 S13 S14 S15 S16
  refine ⟨_, rfl, a, p, rfl, S18.pr, few.ok, S18.tb, fun l2 us2 H19 k2 _ hl2 hus2 => ?_⟩
  have S19 := S18.ke (M := []) k2
  refine ⟨_, rfl, .list (allD p), .list (allD p), .lst (SqL.of hl2) (dpAll hus2), .lst (SqL.of S19.ls) (dpAll S19.ds), (sh_allD p).shaped, (sh_allD p).shaped, _, rfl, ifN (by rw [(sh_allD p).eqv] <;> rfl) ?_⟩
  clear hl2 hus2 k2
  obtain ⟨dx, _, _, _, _, _, ha19, _⟩ := id S19.pr
  refine ⟨_, rfl, a, dx, _, rfl, ha19, rfl, a, p, rfl, S19.pr, fun t2 H20 k20 ht2 hT20 => ?_⟩
  have S20 := S19.ke (M := []) (.ext k20)
  refine ⟨S20.tb, fun f c' H21 n21 C hC => ?_⟩
  have S21 := S20.ke (M := []) n21.ke
  have hT21 := hT20.ke (M := []) n21.ke (by simp)
  obtain ⟨dt, _, _, _, ht21, _⟩ := id hT21
  have nat : a ≠ t2 := fun z => by rw [z, ht2] at ha19; cases ha19
  have ndt : d.d ≠ t2 := S21.dr.ne_trial hT21
  refine ⟨t2, a, f, p.now, p.past, p.coming, p, _, rfl, hT21, S21.pr, hC f _ (lamAt_new n21 ["_law_one", "_law_draw", "_law_world_here"] ["_law_one"] ["_law_draw", "_law_world_here"] [1, 3] 1 29 (nscope_by (by decide +kernel)) (free_by (outer := defScope s_law) (by decide +kernel)) (by decide +kernel) rfl (fun vs h => h) (lam_bind0 (lps := ["_law_one"]) (fun pm ctv us hl => match us, hl with | [_], _ => rfl)) (fun pins s0 I A2 outer2 s2 H2 E2 hr2 nf un => pe_cal c_law_within hr2 (passes_call (takes_of rfl rfl rfl rfl) (fun _ _ _ _ h => h)) (pa_cons (pv 1) (pa_cons (pv 0) (pa_cons (pv 2) pa_nil))))), fun H22 k22 hT22 hP22 => ?_⟩
  have S22 := S21.ke k22.ke (by simp [ndt]) (by simp [nat])
  refine ⟨k22.kp _ _ n21.2.2.2.2.1 (.inr fun z => lmO_at2 n21.2.2.2.2.1 ht21 (List.mem_singleton.mp z)), k22.kp _ _ n21.2.2.2.2.2 (.inr fun z => codeO_at2 n21.2.2.2.2.2 ht21 (List.mem_singleton.mp z)), rfl, trivial, ?_⟩
  refine ⟨_, rfl, _, rfl, _, rfl, d, n + 880, 5, a, p, vw, rfl, S22.dr, S22.pr, few, by decide, S22.wd, S22.tb, fun p' H23 k23 hP23 s1 s2 s3 hd23 => ⟨hT22.ke k23 (by simp [nat.symm, ndt.symm]), ⟨p', hP23, s1, s2, s3⟩, fun H24 k24 hP24 => ?_⟩⟩
  have S24 := S22.to (k23.trans (k24.ke.mono (by simp))) (hd23.kx k24 nda) hP24
  refine ⟨_, rfl, ifN rfl ?_⟩
  clear hT20 hT21 hT22 ht21 ht2 nat ndt hC n21 S18 S19 S20 S21 S22 ha19 hP22 hP23 hP24 k20 k22 k23 k24 hd23
  refine ⟨_, rfl, a, p, rfl, S24.pr, few.ok, S24.tb, fun l2 us2 H25 k2 _ hl2 hus2 => ?_⟩
  have S25 := S24.ke (M := []) k2
  refine ⟨_, rfl, .list (allD p), .list (allD p), .lst (SqL.of hl2) (dpAll hus2), .lst (SqL.of S25.ls) (dpAll S25.ds), (sh_allD p).shaped, (sh_allD p).shaped, _, rfl, ifN (by rw [(sh_allD p).eqv] <;> rfl) ?_⟩
  clear hl2 hus2 k2
  obtain ⟨dx, _, _, _, _, _, ha25, _⟩ := id S25.pr
  refine ⟨_, rfl, a, dx, _, rfl, ha25, rfl, a, p, rfl, S25.pr, fun t H26 k26 ht hT26 => ?_⟩
  have S26 := S25.ke (M := []) (.ext k26)
  refine ⟨_, rfl, a, dx, _, rfl, k26 _ _ ha25, rfl, a, p, rfl, S26.pr, few.ok, fun o H27 k27 ho hO27 => ?_⟩
  have S27 := S26.ke (M := []) (.ext k27)
  have hT27 := hT26.ke (M := []) (.ext k27) (by simp)
  refine ⟨.ref t, .ref o, rfl, ?_⟩
  obtain ⟨dt, _, _, _, ht26, _⟩ := id hT26
  have f5 := few.now
  have nat : a ≠ t := fun z => by rw [z, ht] at ha25; cases ha25
  have ndt : d.d ≠ t := S27.dr.ne_trial hT27
  have noa : o ≠ a := fun z => by rw [z, k26 _ _ ha25] at ho; cases ho
  have not_ : o ≠ t := fun z => by rw [z, ht26] at ho; cases ho
  have ndo : d.d ≠ o := S27.dr.ne_pair hO27
  clear ht26 ht ho ha25 k26 k27 hT26 S24 S25 S26
  refine ⟨_, rfl, _, rfl, _, rfl, d, n + 879, a, p, vw, rfl, S27.dr, S27.pr, few.ok, S27.wd, by omega, fun r1 i1 H28 _ k28 hP28 hd28 => ?_⟩
  have S28 := S27.to k28.ke hd28 hP28
  have hO28 := hO27.kx k28 (by simp [noa, ndo.symm])
  have hT28 := hT27.ke k28.ke (by simp [nat.symm, ndt.symm])
  have few1 := few.did (r := r1) (by decide)
  refine ⟨_, rfl, a, p.did [r1], rfl, S28.pr, few1.ok, S28.tb, fun ln un H29 k29 _ hln hun => ?_⟩
  have S29 := S28.ke (M := []) k29
  have hO29 := hO28.ke (M := []) k29 (by simp)
  have hT29 := hT28.ke (M := []) k29 (by simp)
  clear hO27 hO28 hT27 hT28 S27 S28 hP28 k28 k29 hd28
  refine ⟨_, rfl, S29.tb, fun f c' H30 n30 C hC => ?_⟩
  have S30 := S29.ke (M := []) n30.ke
  have hO30 := hO29.ke (M := []) n30.ke (by simp)
  have hT30 := hT29.ke (M := []) n30.ke (by simp)
  have hln30 := (n30.ke (M := [])).lst hln
  have hun30 := DtAll.tk (n30.ke (M := [])).tk _ _ hun
  obtain ⟨dt, _, _, _, ht30, _⟩ := id hT30
  have f6 := few1.now
  refine ⟨t, a, f, p.now, p.past, p.coming, p.did [r1], _, rfl, hT30, S30.pr, hC f _ (lamAt_new n30 ["_law_one", "_law_draw", "_law_world_here"] ["_law_one"] ["_law_draw", "_law_world_here"] [1, 3] 1 29 (nscope_by (by decide +kernel)) (free_by (outer := defScope s_law) (by decide +kernel)) (by decide +kernel) rfl (fun vs h => h) (lam_bind0 (lps := ["_law_one"]) (fun pm ctv us hl => match us, hl with | [_], _ => rfl)) (fun pins s0 I A2 outer2 s2 H2 E2 hr2 nf un => pe_cal c_law_goes_on hr2 (passes_call (takes_of rfl rfl rfl rfl) (fun _ _ _ _ h => h)) (pa_cons (pv 1) (pa_cons (pv 0) (pa_cons (pv 2) pa_nil))))), fun H31 k31 hT31 hP31 => ?_⟩
  have S31 := S30.ke k31.ke (by simp [ndt]) (by simp [nat])
  refine ⟨k31.kp _ _ n30.2.2.2.2.1 (.inr fun z => lmO_at2 n30.2.2.2.2.1 ht30 (List.mem_singleton.mp z)), k31.kp _ _ n30.2.2.2.2.2 (.inr fun z => codeO_at2 n30.2.2.2.2.2 ht30 (List.mem_singleton.mp z)), rfl, trivial, ?_⟩
  refine ⟨_, rfl, _, rfl, _, rfl, d, n + 878, a, p.did [r1], vw, rfl, S31.dr, S31.pr, few1.ok, S31.wd, by omega, fun r2 i2 H32 _ k32 hP32 hd32 => ⟨hT31.ke k32.ke (by simp [nat.symm, ndt.symm]), ⟨_, hP32, rfl, rfl, rfl⟩, fun H33 k33 hP33 => ?_⟩⟩
  have K33 : Ke K [a, d.d] H31 H33 := k32.ke.trans (k33.ke.mono (by simp))
  have S33 := S31.to K33 (hd32.kx k33 nda) hP33
  have hO33 := (hO30.kx k31 (by simp [not_])).ke K33 (by simp [noa, ndo.symm])
  have hln33 := K33.lst (k31.lst hln30)
  have hun33 := DtAll.tk K33.tk _ _ (DtAll.tk k31.tk _ _ hun30)
  clear hO29 hO30 hT29 hT30 hT31 ht30 S29 S30 S31 hP31 hP32 hP33 k31 k32 k33 K33 hd32 hln30 hun30 hln hun hC n30 nat ndt not_
  refine ⟨_, rfl, a, p.did [r1], rfl, S33.pr, few1.ok, S33.tb, fun l2 us2 H34 k34 _ hl2 hus2 => ?_⟩
  have S34 := S33.ke (M := []) k34
  have hO34 := hO33.ke (M := []) k34 (by simp)
  have hln34 := k34.lst hln33
  have hun34 := DtAll.tk k34.tk _ _ hun33
  refine ⟨_, rfl, .list (allD (p.did [r1])), .list (allD (p.did [r1])), .lst (SqL.of hl2) (dpAll hus2), .lst (SqL.of hln34) (dpAll hun34), (sh_allD _).shaped, (sh_allD _).shaped, _, rfl, ifN (by rw [(sh_allD (p.did [r1])).eqv] <;> rfl) ?_⟩
  clear hl2 hus2 k34 S33 hO33 hln33 hun33
  refine ⟨_, rfl, o, p, rfl, hO34, few.ok, S34.tb, fun l2 us2 H35 k35 _ hl2 hus2 => ?_⟩
  have S35 := S34.ke (M := []) k35
  have hO35 := hO34.ke (M := []) k35 (by simp)
  have hln35 := k35.lst hln34
  have hun35 := DtAll.tk k35.tk _ _ hun34
  refine ⟨_, rfl, .list (allD p), .list (allD p), .lst (SqL.of hl2) (dpAll hus2), .lst (SqL.of S35.ls) (dpAll S35.ds), (sh_allD p).shaped, (sh_allD p).shaped, _, rfl, ifN (by rw [(sh_allD p).eqv] <;> rfl) ?_⟩
  clear hl2 hus2 k35 S34 hO34 hln34 hun34
  refine ⟨_, rfl, _, rfl, _, rfl, d, n + 877, o, p, vw, rfl, S35.dr, hO35, few.ok, S35.wd, by omega, fun r3 i3 H36 _ k36 hO36 hd36 => ?_⟩
  have S36 := S35.to k36.ke hd36 (S35.pr.kx k36 (by simp [noa.symm, hda.symm]))
  have hln36 := k36.lst hln35
  have hun36 := DtAll.tk k36.tk _ _ hun35
  have few2 := few.did (r := r3) (by decide)
  clear S35 hO35 hln35 hun35 k36 hd36
  refine ⟨_, rfl, a, p.did [r1], rfl, S36.pr, few1.ok, S36.tb, fun l2 us2 H37 k37 _ hl2 hus2 => ?_⟩
  have S37 := S36.ke (M := []) k37
  have hO37 := hO36.ke (M := []) k37 (by simp)
  have hln37 := k37.lst hln36
  have hun37 := DtAll.tk k37.tk _ _ hun36
  refine ⟨_, rfl, .list (allD (p.did [r1])), .list (allD (p.did [r1])), .lst (SqL.of hl2) (dpAll hus2), .lst (SqL.of hln37) (dpAll hun37), (sh_allD _).shaped, (sh_allD _).shaped, _, rfl, ifN (by rw [(sh_allD (p.did [r1])).eqv] <;> rfl) ?_⟩
  obtain ⟨dxo, _, _, _, _, _, ho37, _⟩ := id hO37
  refine ⟨_, rfl, o, dxo, _, rfl, ho37, rfl, o, p.did [r3], rfl, hO37, few2.ok, fun o5 H38 k38 ho5 hO5 => ?_⟩
  have S38 := S37.ke (M := []) (.ext k38)
  have hO38 := hO37.ext k38
  obtain ⟨dx5, _, _, _, _, _, ho538, _⟩ := id hO5
  refine ⟨_, rfl, o5, o, dx5, dxo, _, _, rfl, rfl, ho538, k38 _ _ ho37, o5, o, p.did [r3], rfl, hO5, hO38, true, rfl, _, rfl, ifN rfl ?_⟩
  refine ⟨_, rfl, o, dxo, _, rfl, k38 _ _ ho37, rfl, o, p.did [r3], rfl, hO38, few2.ok, fun o6 H39 k39 _ hO6 => ?_⟩
  have S39 := S38.ke (M := []) (.ext k39)
  have hO39 := hO38.ext k39
  refine ⟨o6, p.did [r3], rfl, hO6, few2.ok, S39.tb, fun l3 us3 H40 k40 _ hl3 hus3 => ?_⟩
  have S40 := S39.ke (M := []) k40
  have hO40 := hO39.ke (M := []) k40 (by simp)
  refine ⟨_, rfl, o, p.did [r3], rfl, hO40, few2.ok, S40.tb, fun l4 us4 H41 k41 _ hl4 hus4 => ?_⟩
  have S41 := S40.ke (M := []) k41
  refine ⟨.list (allD (p.did [r3])), .list (allD (p.did [r3])), .lst (SqL.of (k41.lst hl3)) (dpAll (DtAll.tk k41.tk _ _ hus3)), .lst (SqL.of hl4) (dpAll hus4), (sh_allD _).shaped, (sh_allD _).shaped, _, rfl, ifN (by rw [(sh_allD (p.did [r3])).eqv] <;> rfl) ?_⟩
  exact ⟨_, _, _, _, _, _, _, _, _, rfl, S41.tb, S41.dr.less (by omega)⟩
end
end K21
namespace K21
open PySem PySem.W PySem.Calls PyProof.Rows
abbrev qv : Program := view R.prog [71]
def nms0 : List PySem.Str := ["_wall", "SetError", "BadWorld", "BadRule", "BadStart", "BadBound", "BadStand", "BadRound", "BadRun", "BadRanges", "BadPaper", "BadRow", "BadText", "BadNumber"]
def nms1 : List PySem.Str := ["TooGreat", "NothingLeft", "is_integer", "is_whole", "MOST_DRIFT", "MOST_ERROR", "MOST_LOSSES", "MOST_RUN", "MOST_PARTS", "MOST_MODES", "MOST_CUTS", "MOST_CUT", "MOST_BEGIN", "HOLD"]
def nms2 : List PySem.Str := ["SHIFT", "RUN", "JUMP", "is_world", "need_world", "is_deed", "is_entry", "are_cuts", "is_mode", "need_rule", "taken_by", "is_round", "entry_at", "stepped"]
def nms3 : List PySem.Str := ["gone_through", "MOST_DONE", "Trial", "under", "Pair", "need_many", "_law_begin", "_law_next", "_law_pick", "_law_deed", "_law_mode", "_law_rule", "_law_world", "_law_rounds"]
def nms4 : List PySem.Str := ["_law_fault", "_law_said", "_law_all", "_law_started", "_law_goes_on", "_law_inside", "_law_ended", "_law_within", "_law_added", "_law_thousand_right"]
def names : List PySem.Str := nms0 ++ nms1 ++ nms2 ++ nms3 ++ nms4
def ob (s : PySem.W.SharedT) : AlK := obsK (HandSHeadRun.getT s)
theorem ob_eq (s : PySem.W.SharedT) : ob s = hookK.obs s.abs := obsK_eq (HandSHeadRun.getT_eq s)
theorem run (w : World) : HandSHeadRun.RunEq R qv hookK ob 8000 names w := by
  intro os
  kernel_rfl
end K21
/-! K22Z: the row. -/
namespace K21
open PySem PySem.Spec PyProof.Rows L2 LamX He
theorem tabs_empty {K : PySem.W.Frag} {H : Hp} (h : ∀ p ∈ tfs.map (cT K), H p.2 = some (.tbl #[])) : Tabs (TK K) H := fun r hr => by
  obtain ⟨p, hp, rfl⟩ := List.mem_map.mp hr
  exact ⟨#[], h _ (List.mem_map_of_mem hp), by trivial, fun pos cv hc => by cases hc⟩
theorem law_at {w : World} {K : PySem.W.Frag} {mg : Str → Option Value} {fa : Addr} {h : Heap} (KX : K.In h) (G : h.Ns mainGlobals mg) (c : SaysK h K) (hmg : mg ("law" : Str) = some (.ref fa)) :
    LawAtS PySem.Challenge.rw_setbooks_k21_whole_pairs_tried w K (L2.CX PySem.Challenge.rw_setbooks_k21_whole_pairs_tried.prog w) 40 63 "_law_script" mg fa h := by
  have Z : Tx K mg := ⟨⟨h, KX, G⟩, c.ok, c.nd, c.pr, c.dd⟩
  obtain ⟨fd, F⟩ := Z.fn_law
  have e := hmg.symm.trans Z.g_law
  cases e
  have b := FunD.bindsA (ps := ["_law_script"]) F fun _ _ _ _ _ _ us hl => match us, hl with | [_], _ => rfl
  refine ⟨fd, tfs.map (cT K), spLaw K, fun p hp => ?_, fun p hp => ?_, fun p hp => ?_, fun s v => b s [v] rfl, fun H a ns hl _ hT hS => ⟨a, ns, rfl, hS, by omega, tabs_empty hT, fun _ => rfl⟩, fun base KB GB TB => ?_⟩
  · obtain ⟨q, hq, rfl⟩ := List.mem_map.mp hp
    exact c.empty q hq
  · obtain ⟨q, hq, rfl⟩ := List.mem_map.mp hp
    exact c.out q hq
  · obtain ⟨q, hq, rfl⟩ := List.mem_map.mp hp
    exact PySem.W.codeHd_of_K KX (c.hd q hq)
  · exact ok_law Z (fun p hp => TB _ (List.mem_map_of_mem hp)) F
end K21
open PySem PySem.W PySem.Calls PyProof.Rows
theorem PySem.Challenge.cw_setbooks_k21_whole_pairs_tried_holds : PySem.Challenge.rw_setbooks_k21_whole_pairs_tried.Holds := by
  w_on; o_law
  refine HandSHeadRun.head_any (r := OpenLaw.row PySem.Challenge.rw_setbooks_k21_whole_pairs_tried) (q := view (OpenLaw.row PySem.Challenge.rw_setbooks_k21_whole_pairs_tried).prog [71]) (H := K21.hookK) (ob := K21.ob) (M := 8000) (loose := K21.names) (d := HandSHeadRun.topDef (OpenLaw.row PySem.Challenge.rw_setbooks_k21_whole_pairs_tried).prog 71) (kwd := []) K21.ob_eq
    (by kernel_rfl) (fun s => by kernel_rfl) K21.run (by kernel_rfl) (by kernel_rfl) (by kernel_rfl) (by rfl) (by first | assumption | decide +kernel) (by decide +kernel) ⟨rfl, rfl, rfl, rfl, rfl, by decide +kernel⟩ ?hw ?hc
  case hw => w_witness2
  case hc =>
    refine LamX.walk_ofTsE (l := PySem.Challenge.rw_setbooks_k21_whole_pairs_tried) (n := 63) (k := 40) (x := "_law_script") (CX := fun w => L2.CX PySem.Challenge.rw_setbooks_k21_whole_pairs_tried.prog w) rfl (by decide) (by kernel_rfl) ⟨rfl, by decide, by decide⟩ ?F (fun w H s e s' ⟨a, B, H', cls, d, x1, x2, x3, x4, x5, x6, x7, x8⟩ => x8)
    intro w mg fa h Y G hmg0
    obtain ⟨K, KX, c⟩ := Y
    have hmg : mg ("law" : PySem.Str) = some (.ref fa) := by
      have e : (HandSHeadRun.topDef (OpenLaw.row PySem.Challenge.rw_setbooks_k21_whole_pairs_tried).prog 71).name = ("law" : PySem.Str) := by kernel_rfl
      rw [← e]
      exact hmg0
    exact ⟨K, KX, K21.law_at KX G c hmg⟩
