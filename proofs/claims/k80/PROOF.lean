import PyProof.Rows.All
import Wide.All
import OpenK.AllK
import Wide.FinOn
import HandS.ForMost
import HandS.ForExc
import HandS.IsInst
import HandS.Gcd
import HandS.DictComp
import HandS.TupLen
import HandS.Conv
import HandS.ListItems
import HandS.Zip
import HandS.Walk
import HandS.TryMany
import HandS.ExcSuper
import HandS.ExcField
import HandS.Lambda
import HandS.EndTab
import HandS.Nested
import HandS.Wide
import HandS.WideMore
import HandS.WideBits
import HandS.Deep
import HandS.TupAny
import HandS.Finally
import HandS.IterVal
import HandS.Flow
import HandS.Style
import HandS.Small
import KE.KDictWalk
import KE.KDictPairs
import KE.KSuper
import KE.KExcSuper
import KE.GoesEnum
import PyProof.ReprRoads
import HandS.EndBits
import PySem.Challenge.RW_feasted_k80_whole_half_of_what_is_left
set_option Elab.async false
set_option autoImplicit false
set_option linter.all false
set_option maxRecDepth 100000
set_option maxHeartbeats 4000000
/-! K80: who has what left, by hand over HandS. -/
namespace K80
open PySem PySem.Spec PyProof.Rows L2
/-! ### the text by places -/
def top (i : Nat) : Stmt := PySem.Challenge.pw_feasted_k80_whole_half_of_what_is_left.main.body.getD i (.Pass ⟨0, 0, 0, 0⟩)
/-- a def of the text as it stands behind the top -/
structure Dn (K : PySem.W.Frag) (mg : Str → Option Value) (x : Str) (st : Stmt) (ps : List Str) where
  f : Addr
  fd : FuncData
  F : Fun K x x st f fd
  mgx : mg x = some (.ref f)
  b : Binds K fd ps []
abbrev s_is_list : Stmt := top 5
abbrev N_is_list : List Str := ["thing"]
theorem sc_is_list : FnScope N_is_list ["thing"] (defScope s_is_list) := ⟨rfl, rfl, rfl, by decide +kernel, rfl, by decide +kernel, by decide +kernel⟩
abbrev s_is_whole : Stmt := top 6
abbrev N_is_whole : List Str := ["thing"]
theorem sc_is_whole : FnScope N_is_whole ["thing"] (defScope s_is_whole) := ⟨rfl, rfl, rfl, by decide +kernel, rfl, by decide +kernel, by decide +kernel⟩
abbrev s_is_number : Stmt := top 7
abbrev N_is_number : List Str := ["thing"]
theorem sc_is_number : FnScope N_is_number ["thing"] (defScope s_is_number) := ⟨rfl, rfl, rfl, by decide +kernel, rfl, by decide +kernel, by decide +kernel⟩
abbrev s_is_positive : Stmt := top 8
abbrev N_is_positive : List Str := ["thing"]
theorem sc_is_positive : FnScope N_is_positive ["thing"] (defScope s_is_positive) := ⟨rfl, rfl, rfl, by decide +kernel, rfl, by decide +kernel, by decide +kernel⟩
abbrev s_is_name : Stmt := top 9
abbrev N_is_name : List Str := ["thing", "sign"]
theorem sc_is_name : FnScope N_is_name ["thing"] (defScope s_is_name) := ⟨rfl, rfl, rfl, by decide +kernel, rfl, by decide +kernel, by decide +kernel⟩
abbrev s_is_among : Stmt := top 10
abbrev N_is_among : List Str := ["known", "thing"]
theorem sc_is_among : FnScope N_is_among ["known", "thing"] (defScope s_is_among) := ⟨rfl, rfl, rfl, by decide +kernel, rfl, by decide +kernel, by decide +kernel⟩
abbrev s_lowest : Stmt := top 11
abbrev N_lowest : List Str := ["top", "bottom", "common"]
theorem sc_lowest : FnScope N_lowest ["top", "bottom"] (defScope s_lowest) := ⟨rfl, rfl, rfl, by decide +kernel, rfl, by decide +kernel, by decide +kernel⟩
abbrev s_doubled : Stmt := top 12
abbrev N_doubled : List Str := ["times", "found", "_"]
theorem sc_doubled : FnScope N_doubled ["times"] (defScope s_doubled) := ⟨rfl, rfl, rfl, by decide +kernel, rfl, by decide +kernel, by decide +kernel⟩
abbrev s_checked_houses : Stmt := top 23
abbrev N_checked_houses : List Str := ["houses", "index", "name"]
theorem sc_checked_houses : FnScope N_checked_houses ["houses"] (defScope s_checked_houses) := ⟨rfl, rfl, rfl, by decide +kernel, rfl, by decide +kernel, by decide +kernel⟩
abbrev s_checked_roads : Stmt := top 24
abbrev N_checked_roads : List Str := ["names", "roads", "lots", "found", "index", "road", "one", "other", "name"]
theorem sc_checked_roads : FnScope N_checked_roads ["names", "roads"] (defScope s_checked_roads) := ⟨rfl, rfl, rfl, by decide +kernel, rfl, by decide +kernel, by decide +kernel⟩
abbrev s_checked_heads : Stmt := top 25
abbrev N_checked_heads : List Str := ["names", "heads", "index", "many"]
theorem sc_checked_heads : FnScope N_checked_heads ["names", "heads"] (defScope s_checked_heads) := ⟨rfl, rfl, rfl, by decide +kernel, rfl, by decide +kernel, by decide +kernel⟩
abbrev s_check_valley : Stmt := top 26
abbrev N_check_valley : List Str := ["thing"]
theorem sc_check_valley : FnScope N_check_valley ["thing"] (defScope s_check_valley) := ⟨rfl, rfl, rfl, by decide +kernel, rfl, by decide +kernel, by decide +kernel⟩
abbrev s_road_in : Stmt := top 27
abbrev N_road_in : List Str := ["valley", "thing", "place", "name"]
theorem sc_road_in : FnScope N_road_in ["valley", "thing"] (defScope s_road_in) := ⟨rfl, rfl, rfl, by decide +kernel, rfl, by decide +kernel, by decide +kernel⟩
abbrev s_known_evening : Stmt := top 29
abbrev N_known_evening : List Str := ["valley", "thing", "found", "road"]
theorem sc_known_evening : FnScope N_known_evening ["valley", "thing"] (defScope s_known_evening) := ⟨rfl, rfl, rfl, by decide +kernel, rfl, by decide +kernel, by decide +kernel⟩
abbrev s_checked_evening : Stmt := top 30
abbrev N_checked_evening : List Str := ["valley", "evening", "found"]
theorem sc_checked_evening : FnScope N_checked_evening ["valley", "evening"] (defScope s_checked_evening) := ⟨rfl, rfl, rfl, by decide +kernel, rfl, by decide +kernel, by decide +kernel⟩
abbrev s_parts_by : Stmt := top 31
abbrev N_parts_by : List Str := ["valley", "known", "lots", "found", "one", "other", "both", "part", "name", "road"]
theorem sc_parts_by : FnScope N_parts_by ["valley", "known"] (defScope s_parts_by) := ⟨rfl, rfl, rfl, by decide +kernel, rfl, by decide +kernel, by decide +kernel⟩
abbrev s_feasts_by : Stmt := top 32
abbrev N_feasts_by : List Str := ["valley", "found", "counts", "part", "name"]
theorem sc_feasts_by : FnScope N_feasts_by ["valley", "found"] (defScope s_feasts_by) := ⟨rfl, rfl, rfl, by decide +kernel, rfl, by decide +kernel, by decide +kernel⟩
abbrev s_checked_shares : Stmt := top 36
abbrev N_checked_shares : List Str := ["valley", "evening", "heaps", "often", "name"]
theorem sc_checked_shares : FnScope N_checked_shares ["valley", "evening", "heaps"] (defScope s_checked_shares) := ⟨rfl, rfl, rfl, by decide +kernel, rfl, by decide +kernel, by decide +kernel⟩
abbrev s_leavings : Stmt := top 37
abbrev N_leavings : List Str := ["valley", "evening", "heaps", "often", "known", "name"]
theorem sc_leavings : FnScope N_leavings ["valley", "evening", "heaps"] (defScope s_leavings) := ⟨rfl, rfl, rfl, by decide +kernel, rfl, by decide +kernel, by decide +kernel⟩
abbrev s_left_together : Stmt := top 38
abbrev N_left_together : List Str := ["valley", "evening", "heaps", "often", "known", "most", "name"]
theorem sc_left_together : FnScope N_left_together ["valley", "evening", "heaps"] (defScope s_left_together) := ⟨rfl, rfl, rfl, by decide +kernel, rfl, by decide +kernel, by decide +kernel⟩
abbrev s_law_start : Stmt := top 40
abbrev N_law_start : List Str := ["_law_script", "_law_mix", "_law_cell"]
theorem sc_law_start : FnScope N_law_start ["_law_script"] (defScope s_law_start) := ⟨rfl, rfl, rfl, by decide +kernel, rfl, by decide +kernel, by decide +kernel⟩
abbrev s_law_draw : Stmt := top 41
abbrev N_law_draw : List Str := ["_law_stream", "_law_many", "_law_digit", "_law_mixed_here"]
theorem sc_law_draw : FnScope N_law_draw ["_law_stream", "_law_many"] (defScope s_law_draw) := ⟨rfl, rfl, rfl, by decide +kernel, rfl, by decide +kernel, by decide +kernel⟩
abbrev s_law_pick : Stmt := top 42
abbrev N_law_pick : List Str := ["_law_stream", "_law_things"]
theorem sc_law_pick : FnScope N_law_pick ["_law_stream", "_law_things"] (defScope s_law_pick) := ⟨rfl, rfl, rfl, by decide +kernel, rfl, by decide +kernel, by decide +kernel⟩
abbrev s_law_mixed : Stmt := top 43
abbrev N_law_mixed : List Str := ["_law_stream", "_law_things", "_law_left_here", "_law_found", "_law_k"]
theorem sc_law_mixed : FnScope N_law_mixed ["_law_stream", "_law_things"] (defScope s_law_mixed) := ⟨rfl, rfl, rfl, by decide +kernel, rfl, by decide +kernel, by decide +kernel⟩
abbrev s_law_same : Stmt := top 44
abbrev N_law_same : List Str := ["_law_found", "_law_due", "_law_x", "_law_y"]
theorem sc_law_same : FnScope N_law_same ["_law_found", "_law_due"] (defScope s_law_same) := ⟨rfl, rfl, rfl, by decide +kernel, rfl, by decide +kernel, by decide +kernel⟩
abbrev s_law_loose : Stmt := top 45
abbrev N_law_loose : List Str := ["_law_stream", "_law_thing", "_law_some", "_law_one"]
theorem sc_law_loose : FnScope N_law_loose ["_law_stream", "_law_thing"] (defScope s_law_loose) := ⟨rfl, rfl, rfl, by decide +kernel, rfl, by decide +kernel, by decide +kernel⟩
abbrev s_law_f_names : Stmt := top 46
abbrev N_law_f_names : List Str := ["_law_stream", "_law_least", "_law_most", "_law_some", "_law_many", "_law_k"]
theorem sc_law_f_names : FnScope N_law_f_names ["_law_stream", "_law_least", "_law_most"] (defScope s_law_f_names) := ⟨rfl, rfl, rfl, by decide +kernel, rfl, by decide +kernel, by decide +kernel⟩
abbrev s_law_f_roads : Stmt := top 47
abbrev N_law_f_roads : List Str := ["_law_stream", "_law_names", "_law_shape", "_law_found", "_law_k", "_law_at", "_law_pair"]
theorem sc_law_f_roads : FnScope N_law_f_roads ["_law_stream", "_law_names"] (defScope s_law_f_roads) := ⟨rfl, rfl, rfl, by decide +kernel, rfl, by decide +kernel, by decide +kernel⟩
abbrev s_law_f_valley : Stmt := top 48
abbrev N_law_f_valley : List Str := ["_law_stream", "_law_least", "_law_most", "_law_names", "_law_great", "_law_name"]
theorem sc_law_f_valley : FnScope N_law_f_valley ["_law_stream", "_law_least", "_law_most"] (defScope s_law_f_valley) := ⟨rfl, rfl, rfl, by decide +kernel, rfl, by decide +kernel, by decide +kernel⟩
abbrev s_law_f_made : Stmt := top 49
abbrev N_law_f_made : List Str := ["_law_stream", "_law_some"]
theorem sc_law_f_made : FnScope N_law_f_made ["_law_stream", "_law_some"] (defScope s_law_f_made) := ⟨rfl, rfl, rfl, by decide +kernel, rfl, by decide +kernel, by decide +kernel⟩
abbrev s_law_f_parts : Stmt := top 50
abbrev N_law_f_parts : List Str := ["_law_some", "_law_evening", "_law_lots", "_law_found", "_law_one", "_law_other", "_law_both", "_law_part", "_law_name", "_law_road"]
theorem sc_law_f_parts : FnScope N_law_f_parts ["_law_some", "_law_evening"] (defScope s_law_f_parts) := ⟨rfl, rfl, rfl, by decide +kernel, rfl, by decide +kernel, by decide +kernel⟩
abbrev s_law_f_passed : Stmt := top 51
abbrev N_law_f_passed : List Str := ["_law_stream", "_law_evening", "_law_road"]
theorem sc_law_f_passed : FnScope N_law_f_passed ["_law_stream", "_law_evening"] (defScope s_law_f_passed) := ⟨rfl, rfl, rfl, by decide +kernel, rfl, by decide +kernel, by decide +kernel⟩
abbrev s_law_f_handed : Stmt := top 52
abbrev N_law_f_handed : List Str := ["_law_stream", "_law_known", "_law_key"]
theorem sc_law_f_handed : FnScope N_law_f_handed ["_law_stream", "_law_known"] (defScope s_law_f_handed) := ⟨rfl, rfl, rfl, by decide +kernel, rfl, by decide +kernel, by decide +kernel⟩
abbrev s_law_f_low : Stmt := top 53
abbrev N_law_f_low : List Str := ["_law_top", "_law_bottom", "_law_one", "_law_other"]
theorem sc_law_f_low : FnScope N_law_f_low ["_law_top", "_law_bottom"] (defScope s_law_f_low) := ⟨rfl, rfl, rfl, by decide +kernel, rfl, by decide +kernel, by decide +kernel⟩
abbrev s_law_f_odd_valleys : Stmt := top 54
abbrev N_law_f_odd_valleys : List Str := ["_law_some"]
theorem sc_law_f_odd_valleys : FnScope N_law_f_odd_valleys ["_law_some"] (defScope s_law_f_odd_valleys) := ⟨rfl, rfl, rfl, by decide +kernel, rfl, by decide +kernel, by decide +kernel⟩
abbrev s_law_f_odd_evenings : Stmt := top 55
abbrev N_law_f_odd_evenings : List Str := ["_law_some", "_law_roads", "_law_found"]
theorem sc_law_f_odd_evenings : FnScope N_law_f_odd_evenings ["_law_some"] (defScope s_law_f_odd_evenings) := ⟨rfl, rfl, rfl, by decide +kernel, rfl, by decide +kernel, by decide +kernel⟩
abbrev s_law_f_odd_feasts : Stmt := top 56
abbrev N_law_f_odd_feasts : List Str := ["_law_feasts", "_law_rows", "_law_name", "_law_found", "_law_odd"]
theorem sc_law_f_odd_feasts : FnScope N_law_f_odd_feasts ["_law_feasts"] (defScope s_law_f_odd_feasts) := ⟨rfl, rfl, rfl, by decide +kernel, rfl, by decide +kernel, by decide +kernel⟩
abbrev s_law_f_in_turns : Stmt := top 57
abbrev N_law_f_in_turns : List Str := ["_law_stream", "_law_some", "_law_asks", "_law_things", "_law_made", "_law_row", "_law_ask", "_law_due", "_law_held", "_law_twin", "_law_told", "_law_thing"]
theorem sc_law_f_in_turns : FnScope N_law_f_in_turns ["_law_stream", "_law_some", "_law_asks", "_law_things"] (defScope s_law_f_in_turns) := ⟨rfl, rfl, rfl, by decide +kernel, rfl, by decide +kernel, by decide +kernel⟩
abbrev s_law_f_copied : Stmt := top 58
abbrev N_law_f_copied : List Str := ["_law_thing", "_law_key", "_law_part"]
theorem sc_law_f_copied : FnScope N_law_f_copied ["_law_thing"] (defScope s_law_f_copied) := ⟨rfl, rfl, rfl, by decide +kernel, rfl, by decide +kernel, by decide +kernel⟩
abbrev s_law_f_change : Stmt := top 59
abbrev N_law_f_change : List Str := ["_law_held", "_law_other"]
theorem sc_law_f_change : FnScope N_law_f_change ["_law_held", "_law_other"] (defScope s_law_f_change) := ⟨rfl, rfl, rfl, by decide +kernel, rfl, by decide +kernel, by decide +kernel⟩
abbrev s_law_met : Stmt := top 60
abbrev N_law_met : List Str := ["_law_ask", "e"]
theorem sc_law_met : FnScope N_law_met ["_law_ask"] (defScope s_law_met) := ⟨rfl, rfl, rfl, by decide +kernel, rfl, by decide +kernel, by decide +kernel⟩
abbrev s_law_left : Stmt := top 61
abbrev N_law_left : List Str := ["_law_some", "_law_evening", "_law_heaps_here", "_law_found", "_law_part", "_law_name", "_law_top", "_law_bottom", "_law_pair"]
theorem sc_law_left : FnScope N_law_left ["_law_some", "_law_evening", "_law_heaps_here"] (defScope s_law_left) := ⟨rfl, rfl, rfl, by decide +kernel, rfl, by decide +kernel, by decide +kernel⟩
abbrev s_law_heaps : Stmt := top 62
abbrev N_law_heaps : List Str := ["_law_stream", "_law_names", "_law_great", "_law_way", "_law_many", "_law_name"]
theorem sc_law_heaps : FnScope N_law_heaps ["_law_stream", "_law_names"] (defScope s_law_heaps) := ⟨rfl, rfl, rfl, by decide +kernel, rfl, by decide +kernel, by decide +kernel⟩
abbrev s_law_one_right : Stmt := top 63
abbrev N_law_one_right : List Str := ["_law_stream", "_law_some", "_law_valley", "_law_evening", "_law_heaps_here", "_law_due", "_law_whole", "_law_handed", "_law_passed", "_law_was", "_law_told", "_law_found", "_law_least", "_law_most", "_law_ones", "_law_name"]
theorem sc_law_one_right : FnScope N_law_one_right ["_law_stream", "_law_some", "_law_valley", "_law_evening", "_law_heaps_here"] (defScope s_law_one_right) := ⟨rfl, rfl, rfl, by decide +kernel, rfl, by decide +kernel, by decide +kernel⟩
abbrev s_law_refused_right : Stmt := top 64
abbrev N_law_refused_right : List Str := ["_law_stream", "_law_some", "_law_valley", "_law_evening", "_law_heaps_here", "_law_ask", "_law_odd", "_law_held", "_law_found", "_law_name"]
theorem sc_law_refused_right : FnScope N_law_refused_right ["_law_stream", "_law_some", "_law_valley", "_law_evening"] (defScope s_law_refused_right) := ⟨rfl, rfl, rfl, by decide +kernel, rfl, by decide +kernel, by decide +kernel⟩
abbrev s_law : Stmt := top 65
abbrev N_law : List Str := ["_law_script", "_law_stream", "_law_turn", "_law_some", "_law_valley", "_law_evening", "_law_rows", "_law_heaps_here", "_law_asks", "_law_more", "_law_k"]
theorem sc_law : FnScope N_law ["_law_script"] (defScope s_law) := ⟨rfl, rfl, rfl, by decide +kernel, rfl, by decide +kernel, by decide +kernel⟩
abbrev s_Valley___init : Stmt := inClass (top 22) 0
abbrev N_Valley___init : List Str := ["self", "houses", "roads", "heads", "one", "other", "name", "place", "rank"]
theorem sc_Valley___init : FnScope N_Valley___init ["self", "houses", "roads", "heads"] (defScope s_Valley___init) := ⟨rfl, rfl, rfl, by decide +kernel, rfl, by decide +kernel, by decide +kernel⟩
structure Txt (K : PySem.W.Frag) (mg : Str → Option Value) where
  is_list : Dn K mg "is_list" s_is_list ["thing"]
  is_whole : Dn K mg "is_whole" s_is_whole ["thing"]
  is_number : Dn K mg "is_number" s_is_number ["thing"]
  is_positive : Dn K mg "is_positive" s_is_positive ["thing"]
  is_name : Dn K mg "is_name" s_is_name ["thing"]
  is_among : Dn K mg "is_among" s_is_among ["known", "thing"]
  lowest : Dn K mg "lowest" s_lowest ["top", "bottom"]
  doubled : Dn K mg "doubled" s_doubled ["times"]
  checked_houses : Dn K mg "checked_houses" s_checked_houses ["houses"]
  checked_roads : Dn K mg "checked_roads" s_checked_roads ["names", "roads"]
  checked_heads : Dn K mg "checked_heads" s_checked_heads ["names", "heads"]
  check_valley : Dn K mg "check_valley" s_check_valley ["thing"]
  road_in : Dn K mg "road_in" s_road_in ["valley", "thing"]
  known_evening : Dn K mg "known_evening" s_known_evening ["valley", "thing"]
  checked_evening : Dn K mg "checked_evening" s_checked_evening ["valley", "evening"]
  parts_by : Dn K mg "parts_by" s_parts_by ["valley", "known"]
  feasts_by : Dn K mg "feasts_by" s_feasts_by ["valley", "found"]
  checked_shares : Dn K mg "checked_shares" s_checked_shares ["valley", "evening", "heaps"]
  leavings : Dn K mg "leavings" s_leavings ["valley", "evening", "heaps"]
  left_together : Dn K mg "left_together" s_left_together ["valley", "evening", "heaps"]
  law_start : Dn K mg "_law_start" s_law_start ["_law_script"]
  law_draw : Dn K mg "_law_draw" s_law_draw ["_law_stream", "_law_many"]
  law_pick : Dn K mg "_law_pick" s_law_pick ["_law_stream", "_law_things"]
  law_mixed : Dn K mg "_law_mixed" s_law_mixed ["_law_stream", "_law_things"]
  law_same : Dn K mg "_law_same" s_law_same ["_law_found", "_law_due"]
  law_loose : Dn K mg "_law_loose" s_law_loose ["_law_stream", "_law_thing"]
  law_f_names : Dn K mg "_law_f_names" s_law_f_names ["_law_stream", "_law_least", "_law_most"]
  law_f_roads : Dn K mg "_law_f_roads" s_law_f_roads ["_law_stream", "_law_names"]
  law_f_valley : Dn K mg "_law_f_valley" s_law_f_valley ["_law_stream", "_law_least", "_law_most"]
  law_f_made : Dn K mg "_law_f_made" s_law_f_made ["_law_stream", "_law_some"]
  law_f_parts : Dn K mg "_law_f_parts" s_law_f_parts ["_law_some", "_law_evening"]
  law_f_passed : Dn K mg "_law_f_passed" s_law_f_passed ["_law_stream", "_law_evening"]
  law_f_handed : Dn K mg "_law_f_handed" s_law_f_handed ["_law_stream", "_law_known"]
  law_f_low : Dn K mg "_law_f_low" s_law_f_low ["_law_top", "_law_bottom"]
  law_f_odd_valleys : Dn K mg "_law_f_odd_valleys" s_law_f_odd_valleys ["_law_some"]
  law_f_odd_evenings : Dn K mg "_law_f_odd_evenings" s_law_f_odd_evenings ["_law_some"]
  law_f_odd_feasts : Dn K mg "_law_f_odd_feasts" s_law_f_odd_feasts ["_law_feasts"]
  law_f_in_turns : Dn K mg "_law_f_in_turns" s_law_f_in_turns ["_law_stream", "_law_some", "_law_asks", "_law_things"]
  law_f_copied : Dn K mg "_law_f_copied" s_law_f_copied ["_law_thing"]
  law_f_change : Dn K mg "_law_f_change" s_law_f_change ["_law_held", "_law_other"]
  law_met : Dn K mg "_law_met" s_law_met ["_law_ask"]
  law_left : Dn K mg "_law_left" s_law_left ["_law_some", "_law_evening", "_law_heaps_here"]
  law_heaps : Dn K mg "_law_heaps" s_law_heaps ["_law_stream", "_law_names"]
  law_one_right : Dn K mg "_law_one_right" s_law_one_right ["_law_stream", "_law_some", "_law_valley", "_law_evening", "_law_heaps_here"]
  law_refused_right : Dn K mg "_law_refused_right" s_law_refused_right ["_law_stream", "_law_some", "_law_valley", "_law_evening"]
  law : Dn K mg "law" s_law ["_law_script"]
  n_len : mg "len" = none
  n_isinstance : mg "isinstance" = none
  n_int : mg "int" = none
  n_str : mg "str" = none
  n_list : mg "list" = none
  n_tuple : mg "tuple" = none
  n_dict : mg "dict" = none
  n_bool : mg "bool" = none
  n_all : mg "all" = none
  n_any : mg "any" = none
  n_max : mg "max" = none
  n_min : mg "min" = none
  n_sum : mg "sum" = none
  n_zip : mg "zip" = none
  n_enumerate : mg "enumerate" = none
  n_range : mg "range" = none
  n_repr : mg "repr" = none
  n_sorted : mg "sorted" = none
  tS : Tok
  tF : Tok
  mgSMALL : mg "SMALL" = some (.str "abcdefghijklmnopqrstuvwxyz" tS)
  mgFIGURES : mg "FIGURES" = some (.str "0123456789" tF)
  mgGcd : mg "gcd" = some (.builtin "math.gcd")
  C : Addr
  mgValley : mg "Valley" = some (.ref C)
  clC : Cls K C
  no_names : NoAttr K C "names"
  no_ranks : NoAttr K C "ranks"
  no_own_roads : NoAttr K C "own_roads"
  no_own_heads : NoAttr K C "own_heads"
  no_near : NoAttr K C "near"
  no_places : NoAttr K C "places"
  fI : Addr
  fdI : FuncData
  FI : Fun K "__init__" "Valley.__init__" s_Valley___init fI fdI
  bI : Binds K fdI ["self", "houses", "roads", "heads"] []
  MI : Mk K C fI
end K80
namespace K80
open PySem PySem.Spec PyProof.Rows L2
/-! ### small defs -/
/-- a value of one of seven built-in types -/
def tys7 : List String := ["NoneType", "bool", "int", "str", "list", "tuple", "dict"]
structure TyN (K : PySem.W.Frag) (H : Hp) (v : V) (n : String) : Prop where
  ty : TyX K H v (.type n)
  m : n ∈ tys7
theorem kit_list {K : PySem.W.Frag} {n : String} (h : n ∈ tys7) : PySem.W.kitOne K (.type n) (.type "list") = some (n == "list") := by
  unfold tys7 at h
  simp only [List.mem_cons, List.mem_nil_iff, or_false] at h
  rcases h with rfl | rfl | rfl | rfl | rfl | rfl | rfl <;> exact kit_ty (by decide +kernel)
theorem kit_tuple {K : PySem.W.Frag} {n : String} (h : n ∈ tys7) : PySem.W.kitOne K (.type n) (.type "tuple") = some (n == "tuple") := by
  unfold tys7 at h
  simp only [List.mem_cons, List.mem_nil_iff, or_false] at h
  rcases h with rfl | rfl | rfl | rfl | rfl | rfl | rfl <;> exact kit_ty (by decide +kernel)
theorem kit_dict {K : PySem.W.Frag} {n : String} (h : n ∈ tys7) : PySem.W.kitOne K (.type n) (.type "dict") = some (n == "dict") := by
  unfold tys7 at h
  simp only [List.mem_cons, List.mem_nil_iff, or_false] at h
  rcases h with rfl | rfl | rfl | rfl | rfl | rfl | rfl <;> exact kit_ty (by decide +kernel)
theorem kit_str {K : PySem.W.Frag} {n : String} (h : n ∈ tys7) : PySem.W.kitOne K (.type n) (.type "str") = some (n == "str") := by
  unfold tys7 at h
  simp only [List.mem_cons, List.mem_nil_iff, or_false] at h
  rcases h with rfl | rfl | rfl | rfl | rfl | rfl | rfl <;> exact kit_ty (by decide +kernel)
theorem kit_bool {K : PySem.W.Frag} {n : String} (h : n ∈ tys7) : PySem.W.kitOne K (.type n) (.type "bool") = some (n == "bool") := by
  unfold tys7 at h
  simp only [List.mem_cons, List.mem_nil_iff, or_false] at h
  rcases h with rfl | rfl | rfl | rfl | rfl | rfl | rfl <;> exact kit_ty (by decide +kernel)
theorem kit_int {K : PySem.W.Frag} {n : String} (h : n ∈ tys7) : PySem.W.kitOne K (.type n) (.type "int") = some (n == "int" || n == "bool") := by
  unfold tys7 at h
  simp only [List.mem_cons, List.mem_nil_iff, or_false] at h
  rcases h with rfl | rfl | rfl | rfl | rfl | rfl | rfl <;> exact kit_ty (by decide +kernel)
theorem kit_seq {K : PySem.W.Frag} {n : String} (h : n ∈ tys7) : PySem.W.kitAny K (.type n) [.type "list", .type "tuple"] = some (n == "list" || n == "tuple") := by
  refine kitAny_cons (kit_list h) (fun e => ?_) fun e => by rw [e] <;> rfl
  refine kitAny_cons (kit_tuple h) (fun e2 => ?_) fun e2 => by rw [e2, Bool.or_true]
  rw [kitAny_nil, e, e2] <;> rfl
def isSeqN (n : String) : Bool := n == "list" || n == "tuple"
def spIsList (K : PySem.W.Frag) : Sp := fun vs H Q _ => ∃ v n, vs = [v] ∧ TyN K H v n ∧ ∀ H', Same H H' → Q (.bl (isSeqN n)) H'
def spIsWhole (K : PySem.W.Frag) : Sp := fun vs H Q _ => ∃ v n, vs = [v] ∧ TyN K H v n ∧ Q (.bl (n == "int")) H
/-- whether v is a number -/
inductive NumV (K : PySem.W.Frag) (H : Hp) : V → Option Int → Prop
  | int (i : Int) : NumV K H (.int i) (some i)
  | no {v : V} {n : String} (t : TyN K H v n) (h : (n == "int") = false) : NumV K H v none
def numB : Option Int → Bool
  | some i => decide (0 ≤ i)
  | none => false
def posB : Option Int → Bool
  | some i => decide (1 ≤ i)
  | none => false
def spIsNumber (K : PySem.W.Frag) : Sp := fun vs H Q _ => ∃ v o, vs = [v] ∧ NumV K H v o ∧ Q (.bl (numB o)) H
def spIsPositive (K : PySem.W.Frag) : Sp := fun vs H Q _ => ∃ v o, vs = [v] ∧ NumV K H v o ∧ Q (.bl (posB o)) H
section
variable {P : Program} {w : World} {K : PySem.W.Frag} {mg : Str → Option Value} {base : Heap}
/-- a comprehension's turn without a test -/
theorem yes_go {σ : L2.St} {H : Hp} {F G : Hp → Prop} (h : F H) : tYes σ H (fun b H3 => if b = true then F H3 else G H3) := by
  show (if true = true then F H else G H)
  rw [if_pos rfl]
  exact h
theorem same_new {H : Hp} {p : Addr} {o : HO} (h : H p = none) : Same H (upd H p o) := fun b u e => by
  rw [upd_ne (ne_of_none e h)]
  exact e
theorem TyX.same {H H' : Hp} {v : V} {t : Value} (e : Same H H') (h : TyX K H v t) : TyX K H' v t := by
  cases h with
  | base h =>
    refine .base ?_
    cases h with
    | non => exact .non
    | bl x => exact .bl x
    | int i => exact .int i
    | str x => exact .str x
    | flt x => exact .flt x
    | lst q => exact .lst (e _ _ q)
    | frz q => exact .frz (e _ _ q)
    | tup q => exact .tup (e _ _ q)
    | dK q => exact .dK (e _ _ q)
    | dT q => exact .dT (e _ _ q)
    | ins q c a1 a2 a3 a4 => exact .ins (e _ _ q) c a1 a2 a3 a4
  | byt b => exact .byt b
  | set q => exact .set (e _ _ q)
  | kList q c => exact .kList q c
  | kTuple q c => exact .kTuple q c
  | kDict q c => exact .kDict q c
  | fTuple q => exact .fTuple (e _ _ q)
  | fDict q => exact .fDict (e _ _ q)
theorem TyN.same {H H' : Hp} {v : V} {n : String} (e : Same H H') (h : TyN K H v n) : TyN K H' v n := ⟨TyX.same e h.ty, h.m⟩
theorem TyN.int {H : Hp} {i : Int} : TyN K H (.int i) "int" := ⟨.base (.int i), by decide⟩
theorem TyN.str {H : Hp} {z : Str} : TyN K H (.str z) "str" := ⟨.base (.str z), by decide⟩
theorem TyN.non {H : Hp} : TyN K H .non "NoneType" := ⟨.base .non, by decide⟩
theorem TyN.bl {H : Hp} {b : Bool} : TyN K H (.bl b) "bool" := ⟨.base (.bl b), by decide⟩
theorem TyN.lst {H : Hp} {a : Addr} {xs : List V} (h : H a = some (.lst xs)) : TyN K H (.ref a) "list" := ⟨.base (.lst h), by decide⟩
theorem TyN.tup {H : Hp} {a : Addr} {xs : List V} (h : H a = some (.tup xs)) : TyN K H (.ref a) "tuple" := ⟨.base (.tup h), by decide⟩
theorem TyN.dK {H : Hp} {a : Addr} {xs : List (Key × V)} (h : H a = some (.dK xs)) : TyN K H (.ref a) "dict" := ⟨.base (.dK h), by decide⟩
theorem same_mut {H H' : Hp} {p : Addr} {o : HO} (e : Same H H') (h : H p = none) : Same H (upd H' p o) := fun a u ha => by
  rw [upd_ne (ne_of_none ha h)]
  exact e a u ha
theorem ok_is_list (T : Txt K mg) : FnOk P w K mg base CX0 1 T.is_list.f T.is_list.fd ["thing"] (spIsList K) := by
  refine T.is_list.F.ok sc_is_list (fun vs H Q E h => ?_) (fun cdv A outer s H vs Q E hr h => ?_)
  · obtain ⟨v, n, rfl, _⟩ := h
    rfl
  · obtain ⟨v, n, rfl, t, k⟩ := h
    -- slots: 0 thing
    refine ⟨_, (pss_one (ps_ret (pe_callB call_isiT (by rfl) T.n_isinstance (by decide +kernel) (pa_cons (pv 0) (pa_cons (pe_tup (pa_cons (pe_bltn (v := .ty "list") (by rfl) T.n_list (by decide +kernel) rfl) (pa_cons (pe_bltn (v := .ty "tuple") (by rfl) T.n_tuple (by decide +kernel) rfl) pa_nil))) pa_nil))))), ?_⟩
    refine ⟨_, rfl, (by show 2 ≤ sizeLine; decide), fun p hp => ?_⟩
    exact ⟨v, p, _, _, _, _, rfl, upd_same, .cons (.ty _) (.cons (.ty _) .nil), TyX.same (same_new hp) t.ty, kit_seq t.m, k _ (same_new hp)⟩
theorem ok_is_whole (T : Txt K mg) : FnOk P w K mg base CX0 1 T.is_whole.f T.is_whole.fd ["thing"] (spIsWhole K) := by
  refine T.is_whole.F.ok sc_is_whole (fun vs H Q E h => ?_) (fun cdv A outer s H vs Q E hr h => ?_)
  · obtain ⟨v, n, rfl, _⟩ := h
    rfl
  · obtain ⟨v, n, rfl, t, k⟩ := h
    -- slots: 0 thing
    refine ⟨_, (pss_one (ps_ret (pe_and (pe_callB call_isi (by rfl) T.n_isinstance (by decide +kernel) (pa_cons (pv 0) (pa_cons (pe_bltn (v := .ty "int") (by rfl) T.n_int (by decide +kernel) rfl) pa_nil))) (pe_one (pe_not (pe_callB call_isi (by rfl) T.n_isinstance (by decide +kernel) (pa_cons (pv 0) (pa_cons (pe_bltn (v := .ty "bool") (by rfl) T.n_bool (by decide +kernel) rfl) pa_nil)))))))), ?_⟩
    refine ⟨_, rfl, _, _, _, _, _, rfl, .ty _, t.ty, kit_int t.m, _, rfl, ?_⟩
    refine ite2 (fun c => ?_) fun c => ?_
    · refine ⟨_, rfl, _, _, _, _, _, rfl, .ty _, t.ty, kit_bool t.m, _, rfl, ?_⟩
      have e : (!(n == "bool")) = (n == "int") := by
        have m := t.m
        unfold tys7 at m
        simp only [List.mem_cons, List.mem_nil_iff, or_false] at m
        rcases m with rfl | rfl | rfl | rfl | rfl | rfl | rfl <;> first | rfl | exact absurd c (by decide)
      rw [e]
      exact k
    · have e : (n == "int") = false := by
        cases q : (n == "int") with
        | false => rfl
        | true => exact absurd (by rw [q] <;> rfl) c
      rw [e] at k
      exact k
theorem ok_is_number (T : Txt K mg) : FnOk P w K mg base CX0 2 T.is_number.f T.is_number.fd ["thing"] (spIsNumber K) := by
  have G_is_whole : FnOk P w K mg base CX0 1 T.is_whole.f T.is_whole.fd ["thing"] (spIsWhole K) := ok_is_whole T
  refine T.is_number.F.ok sc_is_number (fun vs H Q E h => ?_) (fun cdv A outer s H vs Q E hr h => ?_)
  · obtain ⟨v, o, rfl, _⟩ := h
    rfl
  · obtain ⟨v, o, rfl, t, k⟩ := h
    -- slots: 0 thing
    refine ⟨_, (pss_one (ps_ret (pe_and (pe_call G_is_whole (hr.mono (by decide)) rfl T.is_whole.mgx T.is_whole.F.kp T.is_whole.b .nil pass0 (pa_cons (pv 0) pa_nil)) (pe_one (pe_cmpR op_ge (pv 0) pe_int (nomark _)))))), ?_⟩
    cases t with
    | int i => exact ⟨_, rfl, _, _, rfl, TyN.int, _, rfl, iteT ⟨_, rfl, _, _, rfl, rfl, k⟩⟩
    | no t e => exact ⟨_, rfl, _, _, rfl, t, _, rfl, by rw [e]; exact iteF k⟩
theorem ok_is_positive (T : Txt K mg) : FnOk P w K mg base CX0 2 T.is_positive.f T.is_positive.fd ["thing"] (spIsPositive K) := by
  have G_is_whole : FnOk P w K mg base CX0 1 T.is_whole.f T.is_whole.fd ["thing"] (spIsWhole K) := ok_is_whole T
  refine T.is_positive.F.ok sc_is_positive (fun vs H Q E h => ?_) (fun cdv A outer s H vs Q E hr h => ?_)
  · obtain ⟨v, o, rfl, _⟩ := h
    rfl
  · obtain ⟨v, o, rfl, t, k⟩ := h
    -- slots: 0 thing
    refine ⟨_, (pss_one (ps_ret (pe_and (pe_call G_is_whole (hr.mono (by decide)) rfl T.is_whole.mgx T.is_whole.F.kp T.is_whole.b .nil pass0 (pa_cons (pv 0) pa_nil)) (pe_one (pe_cmpR op_ge (pv 0) pe_int (nomark _)))))), ?_⟩
    cases t with
    | int i => exact ⟨_, rfl, _, _, rfl, TyN.int, _, rfl, iteT ⟨_, rfl, _, _, rfl, rfl, k⟩⟩
    | no t e => exact ⟨_, rfl, _, _, rfl, t, _, rfl, by rw [e]; exact iteF k⟩
/-! names -/
def nameS : Str := "abcdefghijklmnopqrstuvwxyz"
def nameF : Str := "0123456789"
/-- a name: one to eight signs -/
structure OkName (z : Str) : Prop where
  l1 : 1 ≤ z.length
  l8 : z.length ≤ 8
  first : ∃ c, z.cps.toList[0]? = some c ∧ c ∈ nameS.cps.toList
  all : ∀ c ∈ z.cps.toList, c ∈ (nameS ++ nameF).cps.toList
def spIsName : Sp := fun vs H Q _ => ∃ z, vs = [.str z] ∧ OkName z ∧ ∀ H', Same H H' → Q (.bl true) H'
theorem ok_is_name (T : Txt K mg) : FnOk P w K mg base CX0 1 T.is_name.f T.is_name.fd ["thing"] spIsName := by
  refine T.is_name.F.ok sc_is_name (fun vs H Q E h => ?_) (fun cdv A outer s H vs Q E hr h => ?_)
  · obtain ⟨z, rfl, _⟩ := h
    rfl
  · obtain ⟨z, rfl, g, k⟩ := h
    -- slots: 0 thing, 1 sign
    refine ⟨_, (pss_cons (ps_if (PW.pt (pw_or (pt_not (pt_val (pe_callB call_isi (by rfl) T.n_isinstance (by decide +kernel) (pa_cons (pv 0) (pa_cons (pe_bltn (v := .ty "str") (by rfl) T.n_str (by decide +kernel) rfl) pa_nil))))) (pw_or (pt_not (pt_chain op_le op_le pe_int (pe_callB call_len_str (by rfl) T.n_len (by decide +kernel) (pa_cons (pv 0) pa_nil)) pe_int)) (pw_or1 (pt_cmpR op_notIn_sign (pe_ix ix_str (pv 0) pe_int (fun _ _ => rfl)) (pe_glob (v := .str nameS) rfl T.mgSMALL ⟨_, rfl⟩) (by rfl)))))) (pss_one (ps_ret pe_bl)) pss_nil)
    (pss_one (ps_ret (pe_callB (cr_all rfl) (by rfl) T.n_all (by decide +kernel) (pa_cons (pe_lc (own := [("sign", 1)]) (g := gName 1) (tt := tYes) rfl sc_is_name.nd (pi_str (pv 0)) (blkOk_by (N := N_is_name) (own := [("sign", 1)]) (sc := defScope s_is_name) (by decide +kernel)) (fun _ _ _ _ _ => (pg_name (i := 1) sc_is_name.nd rfl (Or.inl rfl))) (fun _ _ _ _ _ => pts_nil) (fun _ _ _ _ _ => (pe_cmpR op_in_sign (pv 1) (pe_op op_add_str (pe_glob (v := .str nameS) rfl T.mgSMALL ⟨_, rfl⟩) (pe_glob (v := .str nameF) rfl T.mgFIGURES ⟨_, rfl⟩)) (by rfl)))) pa_nil))))), ?_⟩
    obtain ⟨c0, h0, m0⟩ := g.first
    have hz : z.length ≤ sizeLine := Nat.le_trans g.l8 (by decide)
    refine ⟨_, rfl, _, _, _, _, true, rfl, .ty _, .base (.str z), kit_ty (by decide +kernel), _, rfl, iteF ?_⟩
    refine ⟨_, rfl, z, rfl, hz, _, _, rfl, rfl, true, ?_, iteT ⟨_, _, rfl, rfl, true, ?_, iteF ?_⟩⟩
    · exact congrArg V.bl (decide_eq_true (by have := g.l1; omega))
    · exact congrArg V.bl (decide_eq_true (by have := g.l8; omega))
    refine ⟨_, rfl, z, 0, c0, rfl, rfl, hz, atI_nat h0, c0, nameS, rfl, rfl, false, ?_, iteF ?_⟩
    · show V.bl (!decide (c0 ∈ nameS.cps.toList)) = V.bl false
      rw [decide_eq_true m0] <;> rfl
    refine ⟨_, rfl, z, rfl, fun D hD => ?_⟩
    refine lc_it walk_str (fun i H' => Same H H' ∧ H' D = some (.lst (List.replicate i (.bl true)))) ⟨same_new hD, upd_same⟩ (fun _ _ _ _ => True.intro) ?_ ?_
    · rintro i x H' H'' hi ⟨s1, e1⟩ ⟨rfl, c, hc, rfl⟩
      have hm : c ∈ (nameS ++ nameF).cps.toList := g.all c (by
        rw [Array.mem_toList_iff]
        exact Array.mem_of_getElem? hc)
      refine ⟨rfl, yes_go ?_⟩
      refine ⟨_, rfl, nameS, nameF, rfl, rfl, (by decide +kernel), c, _, rfl, rfl, _, e1, ?_, ?_, ?_⟩
      · rw [List.length_replicate]
        have : z.cps.size ≤ 8 := g.l8
        exact Nat.lt_of_lt_of_le (Nat.lt_of_lt_of_le hi this) (by decide)
      · exact same_mut s1 hD
      · rw [upd_same, decide_eq_true hm, List.replicate_succ'] <;> rfl
    · rintro H' ⟨s1, e1⟩
      refine ⟨D, List.replicate z.cps.size true, rfl, SqL.of (by rw [e1, List.map_replicate]), ?_⟩
      rw [show (List.replicate z.cps.size true).all id = true by simp]
      exact k _ s1
/-! is_among: a text among a dict's keys -/
def spIsAmong (K : PySem.W.Frag) : Sp := fun vs H Q _ => ∃ a kvs v, vs = [.ref a, v] ∧ H a = some (.dK kvs) ∧ ((∃ z, v = .str z ∧ Q (.bl (valV kvs (Sum.inr z)).isSome) H) ∨ (∃ n, TyN K H v n ∧ (n == "str") = false ∧ Q (.bl false) H))
theorem ok_is_among (T : Txt K mg) : FnOk P w K mg base CX0 1 T.is_among.f T.is_among.fd ["known", "thing"] (spIsAmong K) := by
  refine T.is_among.F.ok sc_is_among (fun vs H Q E h => ?_) (fun cdv A outer s H vs Q E hr h => ?_)
  · obtain ⟨a, kvs, v, rfl, _⟩ := h
    rfl
  · obtain ⟨a, kvs, v, rfl, ha, t⟩ := h
    -- slots: 0 known, 1 thing
    refine ⟨_, (pss_one (ps_ret (pe_and (pe_callB call_isi (by rfl) T.n_isinstance (by decide +kernel) (pa_cons (pv 1) (pa_cons (pe_bltn (v := .ty "str") (by rfl) T.n_str (by decide +kernel) rfl) pa_nil))) (pe_one (pe_cmp (pc_din (hu_of hr) (pv 1) (pv 0)) rfl))))), ?_⟩
    rcases t with ⟨z, rfl, k⟩ | ⟨n, t, e, k⟩
    · exact ⟨_, rfl, _, _, _, _, true, rfl, .ty _, .base (.str z), kit_ty (by decide +kernel), _, rfl, iteT ⟨_, rfl, _, rfl, a, _, rfl, DGet.k (k := Sum.inr z) ha, k⟩⟩
    · exact ⟨_, rfl, _, _, _, _, _, rfl, .ty _, t.ty, kit_str t.m, _, rfl, by rw [e]; exact iteF k⟩
/-! lowest terms, doubling -/
def low (a b : Int) : Int × Int := (a / ((Nat.gcd a.natAbs b.natAbs : Nat) : Int), b / ((Nat.gcd a.natAbs b.natAbs : Nat) : Int))
def spLowest : Sp := fun vs H Q _ => ∃ a b : Int, vs = [.int a, .int b] ∧ 0 ≤ a ∧ 1 ≤ b ∧ b.natAbs < 2 ^ 9000 ∧ ∀ p, H p = none → Q (.ref p) (upd H p (.tup [.int (low a b).1, .int (low a b).2]))
theorem ok_lowest (T : Txt K mg) : FnOk P w K mg base CX0 1 T.lowest.f T.lowest.fd ["top", "bottom"] spLowest := by
  refine T.lowest.F.ok sc_lowest (fun vs H Q E h => ?_) (fun cdv A outer s H vs Q E hr h => ?_)
  · obtain ⟨a, b, rfl, _⟩ := h
    rfl
  · obtain ⟨a, b, rfl, ha, hb, hz, k⟩ := h
    -- slots: 0 top, 1 bottom, 2 common
    refine ⟨_, (pss_cons (ps_set (i := 2) sc_lowest.nd rfl (Or.inl rfl) (pe_callBfun cr_gcd (by rfl) T.mgGcd (pa_cons (pv 0) (pa_cons (pv 1) pa_nil))))
    (pss_one (ps_ret (pe_tup (pa_cons (pe_op op_fdivW (pv 0) (pv 2)) (pa_cons (pe_op op_fdivW (pv 1) (pv 2)) pa_nil)))))), ?_⟩
    have gp : 0 < Nat.gcd a.natAbs b.natAbs := Nat.gcd_pos_of_pos_right _ (by omega)
    have gl : Nat.gcd a.natAbs b.natAbs ≤ b.natAbs := Nat.gcd_le_right _ (by omega)
    have hw : CDivW a ((Nat.gcd a.natAbs b.natAbs : Nat) : Int) := wide_div (b := 9000) (by omega) (by rw [Int.natAbs_natCast]; exact Nat.lt_of_le_of_lt gl hz) (by decide) (by decide)
    have hw2 : CDivW b ((Nat.gcd a.natAbs b.natAbs : Nat) : Int) := wide_div (b := 9000) (by omega) (by rw [Int.natAbs_natCast]; exact Nat.lt_of_le_of_lt gl hz) (by decide) (by decide)
    refine ⟨_, rfl, _, rfl, a, b, rfl, _, rfl, _, rfl, _, _, rfl, rfl, hw, _, rfl, _, rfl, _, _, rfl, rfl, hw2, (by show 2 ≤ sizeLine; decide), fun p hp => k p hp⟩
def spDoubled : Sp := fun vs H Q _ => ∃ n : Nat, vs = [.int (n : Int)] ∧ n ≤ 100000 ∧ Q (.int (2 ^ n)) H
theorem ok_doubled (T : Txt K mg) : FnOk P w K mg base CX0 1 T.doubled.f T.doubled.fd ["times"] spDoubled := by
  refine T.doubled.F.ok sc_doubled (fun vs H Q E h => ?_) (fun cdv A outer s H vs Q E hr h => ?_)
  · obtain ⟨n, rfl, _⟩ := h
    rfl
  · obtain ⟨n, rfl, hn, k⟩ := h
    -- slots: 0 times, 1 found, 2 _
    refine ⟨_, (pss_cons (ps_set (i := 1) sc_doubled.nd rfl (Or.inl rfl) pe_int)
    (pss_cons (ps_for PassesOwn.never rfl (pi_range1 (by rfl) T.n_range (pa_cons (pv 0) pa_nil)) (pg_name (i := 2) sc_doubled.nd rfl (Or.inl rfl))
      (pss_one (ps_set (i := 1) sc_doubled.nd rfl (Or.inl rfl) (pe_op op_mul pe_int (pv 1)))))
    (pss_one (ps_ret (pv 1))))), ?_⟩
    refine ⟨_, rfl, n, rfl, by omega, by omega, ?_⟩
    refine for_range (lo := 0) (n := n) (fun i σ H' => ∃ u, σ = [some (.int (n : Int)), some (.int (2 ^ i)), u] ∧ H' = H) ⟨none, rfl, rfl⟩ ?_ ?_
    · rintro i σ H' hi ⟨u, rfl, rfl⟩
      refine ⟨_, rfl, _, _, rfl, rfl, .inl ⟨by decide, by decide⟩, ⟨some (.int (0 + i)), ?_, rfl⟩⟩
      rw [Int.pow_succ, Int.mul_comm] <;> rfl
    · rintro σ H' ⟨u, rfl, rfl⟩
      exact ⟨_, rfl, k⟩
end
end K80
namespace K80
open PySem PySem.Spec PyProof.Rows L2
/-! ### a list or a tuple: k = true a list -/
def Sq (k : Bool) (K : PySem.W.Frag) (H : Hp) (a : Addr) (xs : List V) : Prop := if k = true then SqL K H a xs else SqT K H a xs
theorem sq_l {K : PySem.W.Frag} {H : Hp} {a : Addr} {xs : List V} : Sq true K H a xs ↔ SqL K H a xs := Iff.rfl
theorem sq_t {K : PySem.W.Frag} {H : Hp} {a : Addr} {xs : List V} : Sq false K H a xs ↔ SqT K H a xs := Iff.rfl
def Its' (k : Bool) (K : PySem.W.Frag) (a : Addr) : It := match k with
  | true => Itl K a
  | false => Itt K a
theorem walk_sq {k : Bool} {K : PySem.W.Frag} {a : Addr} {xs : List V} : Walk (Its' k K a) xs.length (fun H => Sq k K H a xs) (YAt xs) := by
  cases k with
  | true => exact walk_list
  | false => exact walk_tup
section
variable {X : Cx} {tg : Expr}
def iSeq (K : PySem.W.Frag) (tl : TE) : TI := fun σ H R => tl σ H fun x H1 => ∃ a k, x = .ref a ∧ (∃ xs, Sq k K H1 a xs) ∧ R (Its' k K a) H1
theorem pi_seq {l : Expr} {tl : TE} (hl : PE X l tl) : PI X tg l (iSeq X.K tl) := by
  constructor
  intro pins s σ H R I h
  refine thn (hl.run pins s σ H _ I h) fun v s1 hq => ?_
  obtain ⟨x, H1, I1, r1, a, k, ex, ⟨xs, hx⟩, q⟩ := hq
  subst ex
  obtain rfl : v = Value.ref a := r1
  have kp : ∀ o : Obj, Inv X pins σ H1 { s1 with heap := s1.heap.push o } := fun o => I1.kept (t' := s1.toks) fun b u e => Heap.get?_push_of_some _ e
  have fp : ∀ b ∈ [s1.heap.objs.size], FpOk X pins H1 b := fun b hb => by
    rw [List.mem_singleton.mp hb]
    exact I1.fpOk (Nat.le_refl _) (I1.hok.fresh (Nat.le_refl _))
  cases k with
  | true =>
    obtain ⟨its, rv, p, _⟩ := I1.list (sq_l.mp hx)
    exact wpAny_pyIter_list p.isList ⟨_, [_], _, _, H1, rfl, kp _, turn_list a _, ⟨_, Heap.get?_push_size _ rfl, rfl, rfl⟩, fp, q⟩
  | false =>
    obtain ⟨its, rv, p, _⟩ := I1.tuple (sq_t.mp hx)
    exact wpAny_pyIter_tuple (show s1.heap.IsTuple a its.toArray from p) ⟨_, [_], _, _, H1, rfl, kp _, turn_tuple a _, ⟨_, Heap.get?_push_size _ rfl, rfl, rfl⟩, fp, q⟩
end
/-! ### enumerate of a tuple -/
set_option maxHeartbeats 8000000 in
theorem meets_enumT {v : Value} {o : Obj} {Hh : Heap → Prop} (B : PySem.Begins v o Hh) :
    Meets (Builtin.«enumerate.__new__» ⟨[.type "enumerate", v], []⟩) (fun _ R s => Hh s.heap ∧
      R (.ok (.ret (.ref (s.heap.push o).objs.size))) { s with heap := (s.heap.push o).push { cls := .type "enumerate", data := .fields #[.none, .bool false, .ref s.heap.objs.size, rawInt 0, .none, .none] } }) := by
  refine .of_wp fun prog w A R s h => ?_
  obtain ⟨hp, g, d, tk, os⟩ := s
  obtain ⟨h1, h⟩ := h
  have sub := sub_enumerate
  have go : ∀ {A' : Around} {E : Value → Shared → Prop} {Q : Value → Shared → Prop}, Q (.ref hp.objs.size) ⟨hp.push o, g, d, tk, os⟩ → wpAny (model prog w) A' (pyIter v) Q E ⟨hp, g, d, tk, os⟩ :=
    fun q => B.iter prog w _ _ ⟨hp, g, d, tk, os⟩ _ h1 q
  wp_walk using go
  refine wpAny_stack_any fun st => wpAny_pure ?_
  split
  · rename_i c _ _ _ _ _
    cases (c == Value.type "enumerate") <;> (wp_walk using go; exact ⟨_, rfl, h⟩)
  · wp_walk using go
    exact ⟨_, rfl, h⟩
/-- enumerate(v): its two new cells -/
theorem enum1_begins {prog : Program} {w : World} {A : Around} {E : Value → Shared → Prop} {s : Shared} {v : Value} {o : Obj} {Hh : Heap → Prop} {Q : Value → Shared → Prop} (B : PySem.Begins v o Hh) (h1 : Hh s.heap)
    (h : ∀ h', IsEnum h' (s.heap.objs.size + 1) s.heap.objs.size 0 .none → h'.get? s.heap.objs.size = some o → (∀ b u, s.heap.get? b = some u → h'.get? b = some u) → Q (.ref (s.heap.objs.size + 1)) { s with heap := h' }) :
    wpAny (model prog w) A (call (.type "enumerate") [v]) Q E s := by
  refine callType_new PySem.F.called_enumerate (by decide) (PySem.F.typeCall_enumerate_1 _) (PySem.F.newCall_enumerate_1 _) (fun obj => PySem.F.args_object_init_2 obj _) PySem.F.entry_enumerate_new (meets_enumT B) ⟨h1, ?_⟩
  have sz : (s.heap.push o).objs.size = s.heap.objs.size + 1 := Heap.size_push ..
  show _ ∧ _
  rw [sz]
  generalize hE : ({ cls := .type "enumerate", data := .fields #[.none, .bool false, .ref s.heap.objs.size, rawInt 0, .none, .none] } : Obj) = oE
  have he : ((s.heap.push o).push oE).get? (s.heap.objs.size + 1) = some oE := by
    have q := Heap.get?_push_size (s.heap.push o) (o := oE) (by rw [← hE] <;> rfl)
    rw [sz] at q
    exact q
  have hI : IsEnum ((s.heap.push o).push oE) (s.heap.objs.size + 1) s.heap.objs.size 0 .none := by
    rw [← hE] at he ⊢
    exact he
  exact ⟨⟨_, hI, rfl⟩, h _ hI (Heap.get?_push_of_some _ (Heap.get?_push_size _ B.free)) fun b u e => Heap.get?_push_of_some _ (Heap.get?_push_of_some _ e)⟩
/-- the tuple at a, its items in new pairs with their places -/
def IteT (K : PySem.W.Frag) (a : Addr) : It where
  go := fun i H => ∃ (xs : List V) (x : V), SqT K H a xs ∧ xs[i]? = some x
  yld := fun i H v H' => ∃ T x, v = .ref T ∧ H T = none ∧ H' = upd H T (.tup [.int (i : Nat), x]) ∧ ∀ xs, SqT K H a xs → xs[i]? = some x
  stop := fun i H => ∃ xs : List V, SqT K H a xs ∧ xs.length = i
theorem tup_ne_iter {h : Heap} {a it : Addr} {xs : Array Value} {i : Nat} (p : h.IsTuple a xs) (q : h.IsTupleIter it a i) : a ≠ it := by
  rintro rfl
  obtain ⟨o, e1, e2, _⟩ := p
  obtain ⟨o', f1, f2, _⟩ := q
  rw [e1] at f1
  cases f1
  rw [e2] at f2
  exact absurd f2 (by decide)
theorem tup_ne_enum {h : Heap} {a e it : Addr} {xs : Array Value} {c : Int} {old : Value} (p : h.IsTuple a xs) (q : IsEnum h e it c old) : a ≠ e := by
  rintro rfl
  obtain ⟨o, e1, e2, _⟩ := p
  have f1 : h.get? a = some _ := q
  rw [e1] at f1
  cases f1
  have z : Value.type "enumerate" = Value.type "tuple" := e2
  exact absurd z (by decide)
theorem turn_enumT {P : Program} {w : World} {K : PySem.W.Frag} {elts : List Expr} {kk : Nat} {tpos : Pos} (a e it : Addr) :
    Turn P w K (.Tuple elts kk tpos) (IteT K a) [e, it] e (fun i h => (∃ old, IsEnum h e it ((i : Nat) : Int) old) ∧ h.IsTupleIter it a i ∧ e ≠ it) where
  mem := List.mem_cons_self
  obj := by
    rintro i h ⟨⟨old, he⟩, ⟨o, ho, hc, hd⟩, _⟩ b hb
    rcases List.mem_cons.mp hb with z | z
    · subst z
      exact ⟨_, he, fun v q => nomatch q⟩
    · obtain rfl : b = it := List.mem_singleton.mp z
      exact ⟨o, ho, fun v q => by rw [hd] at q; cases q⟩
  keep := by
    rintro i h h' ⟨⟨old, he⟩, hi, hne⟩ k
    exact ⟨⟨old, k e List.mem_cons_self _ he⟩, hi.at fun o q => k it (by simp) o q, hne⟩
  item := by
    intro X hP hw hK hc i pins s σ H E I hf st hg
    subst hP hw hK
    obtain ⟨⟨old, he⟩, hit, hne⟩ := st
    obtain ⟨xs, x, hq, hx⟩ := hg
    obtain ⟨its, rv, p, hz⟩ := I.tuple hq
    obtain ⟨u, hu, ru⟩ := rv.get hx
    have pT : s.heap.IsTuple a its.toArray := p
    have ai : a ≠ it := tup_ne_iter pT hit
    have ea : e ≠ a := fun z => tup_ne_enum pT he z.symm
    have lt : i < its.length := (List.getElem?_eq_some_iff.mp hu).1
    have el : e < s.heap.objs.size := Heap.lt_size he
    have il : it < s.heap.objs.size := by
      obtain ⟨_, q, _⟩ := hit
      exact Heap.lt_size q
    refine wpAny_pyNext_enum_itemC (PySem.Draws.tuple (prog := X.prog) (w := X.w) (A := X.A.in1) (I.ok.hd hc) it a ai its.toArray) he ⟨hit, pT⟩ (by rw [List.size_toArray]; exact lt) hne (by simp [hne, ea]) fun y h' tk hy ho st' hT hsz hk => ?_
    obtain rfl : u = y := by
      have q : its[i]? = some y := by simpa using hy
      rw [hu] at q
      exact Option.some.inj q
    refine ⟨_, rfl, wpAny_letOwnedTupleGo_enum (s := { s with heap := h', toks := tk + 1 }) ho fun h2 he2 sb => ?_⟩
    have hT2 := (sb.2 s.heap.objs.size (Nat.ne_of_gt el)).trans hT
    have nw : ObjOk X.prog X.w (upd H s.heap.objs.size (.tup [.int (i : Nat), x])) h2 s.heap.objs.size (.tup [.int (i : Nat), x]) :=
      ⟨(by decide : 2 ≤ sizeLine), [.int i tk, u], .cons ⟨_, rfl⟩ (.cons ru .nil), _, hT2, rfl, _, rfl⟩
    have I1 : Inv X pins σ (upd H s.heap.objs.size (.tup [.int (i : Nat), x])) { s with heap := h2, toks := tk + 1 } := by
      refine I.turnedNew (ch := [e, it]) (fun b ob hb q => ?_) hf (Nat.le_refl _) nw
      have n1 : b ≠ e := fun z => hb (by simp [z])
      have n2 : b ≠ it := fun z => hb (by simp [z])
      exact (sb.2 b n1).trans (hk b ob n1 n2 q)
    refine ⟨.ref s.heap.objs.size, _, I1, rfl, ⟨_, x, rfl, I.hok.fresh (Nat.le_refl _), rfl, fun ys hy => by rw [I.tuple_inj hy hq]; exact hx⟩, ⟨⟨u, ?_⟩, st'.1.at fun o q => (sb.2 it (Ne.symm hne)).trans q, hne⟩, fun b hb => ?_⟩
    · have z : ((i + 1 : Nat) : Int) = (i : Int) + 1 := by omega
      rw [z]
      exact he2
    · have lb : b < s.heap.objs.size := by
        rcases List.mem_cons.mp hb with z | z
        · rw [z]
          exact el
        · rw [List.mem_singleton.mp z]
          exact il
      rw [upd_ne (Nat.ne_of_lt lb)]
      exact (hf b hb).1
  done := by
    intro X hP hw hK hc i pins s σ H E I hf st hg
    subst hP hw hK
    obtain ⟨⟨old, he⟩, hit, hne⟩ := st
    obtain ⟨xs, hq, hx⟩ := hg
    obtain ⟨its, rv, p, hz⟩ := I.tuple hq
    have pT : s.heap.IsTuple a its.toArray := p
    have ai : a ≠ it := tup_ne_iter pT hit
    have hl : i = its.toArray.size := by rw [List.size_toArray, ← rv.length, hx]
    obtain ⟨f0, f1, f2, f3, f4, f5⟩ := hf it (by simp)
    refine wpAny_pyNext_enum_endD (PySem.Draws.tuple (prog := X.prog) (w := X.w) (A := X.A.in1) (I.ok.hd hc) it a ai its.toArray) he (by rw [← hl]; exact ⟨hit, pT⟩) fun h' eb => ⟨rfl, ?_⟩
    exact I.turned (t' := s.toks) (fun b o hb q => eb b o hb q) f0 f1 f3 f4 f5
  self := by
    rintro A i s Q E ⟨⟨old, he⟩, _⟩ h
    exact wpAny_pyIter_enum he h
/-- enumerate(list or tuple) -/
def IteA (k : Bool) (K : PySem.W.Frag) (a : Addr) : It := match k with
  | true => Ite K a
  | false => IteT K a
theorem walk_enumA {k : Bool} {K : PySem.W.Frag} {a : Addr} {xs : List V} : Walk (IteA k K a) xs.length (fun H => Sq k K H a xs) (YPair (fun i => some (.int (i : Nat))) (fun i => xs[i]?)) := by
  cases k with
  | true => exact walk_enum
  | false =>
    refine ⟨fun i H hi h => ⟨xs, xs[i], h, List.getElem?_eq_getElem hi⟩, fun H h => ⟨xs, h, rfl⟩, ?_⟩
    rintro i H v H' hi h ⟨T, x, e1, e2, e3, e4⟩
    exact ⟨T, _, x, e1, e2, e3, rfl, e4 xs h⟩
def iEnumA (K : PySem.W.Frag) (ta : TA) : TI := fun σ H R => ta σ H fun vs H1 => ∃ a k, vs = [.ref a] ∧ (∃ xs, Sq k K H1 a xs) ∧ R (IteA k K a) H1
theorem pi_enumA {X : Cx} {e : Expr} {ta : TA} {p pos tpos : Pos} {elts : List Expr} {kk : Nat} (hg : Gl X "enumerate") (hm : X.mg "enumerate" = none) (ha : PA X [e] ta) (hs : starEach [e] X.env = [(false, eval e X.env)] := by rfl) :
    PI X (.Tuple elts kk tpos) (.Call (.Name "enumerate" p) [e] [] pos) (iEnumA X.K ta) := by
  constructor
  intro pins s σ H R I h
  refine Call_ (ld_blt I hg hm boot_enumerate (PyProof.Rows.callWith_type1 (thn (ha.run pos pins s σ H _ I h) fun us s1 hq => ?_) hs rfl))
  obtain ⟨vs, H1, I1, r1, a, k, ex, ⟨xs, hx⟩, q⟩ := hq
  subst ex
  obtain ⟨u, eu, ru⟩ := vals1 r1
  subst eu
  obtain rfl : u = Value.ref a := ru
  have fp : ∀ b ∈ [s1.heap.objs.size + 1, s1.heap.objs.size], FpOk X pins H1 b := by
    intro b hb
    have le : s1.heap.objs.size ≤ b := by
      rcases List.mem_cons.mp hb with z | z
      · rw [z]
        exact Nat.le_succ _
      · rw [List.mem_singleton.mp z]
        exact Nat.le_refl _
    exact I1.fpOk le (I1.hok.fresh le)
  cases k with
  | true =>
    obtain ⟨its, rv, p', _⟩ := I1.list (sq_l.mp hx)
    refine call_enumerate_list p'.isList fun h' he hit hsz hk => wpAny_pyIter_enum he ?_
    exact ⟨_, [_, _], _, _, H1, rfl, I1.kept (t' := s1.toks) hk, turn_enum a (s1.heap.objs.size + 1) s1.heap.objs.size, ⟨⟨.none, he⟩, hit, Nat.succ_ne_self _⟩, fp, q⟩
  | false =>
    obtain ⟨its, rv, p', _⟩ := I1.tuple (sq_t.mp hx)
    refine enum1_begins (PySem.begins_tuple a its.toArray) (show s1.heap.IsTuple a its.toArray from p') fun h' he hit hk => wpAny_pyIter_enum he ?_
    exact ⟨_, [_, _], _, _, H1, rfl, I1.kept (t' := s1.toks) hk, turn_enumT a (s1.heap.objs.size + 1) s1.heap.objs.size, ⟨⟨.none, he⟩, ⟨_, hit, rfl, rfl⟩, Nat.succ_ne_self _⟩, fp, q⟩
end K80
namespace K80
open PySem PySem.Spec PyProof.Rows L2
/-! ### dict comprehensions with keys of either sort, given to a name too -/
section
variable {X : Cx} {pins : List (Addr × Obj)} {σ : L2.St} {H H' : Hp} {s : Shared} {E : Value → Shared → Prop}
theorem d_setA {D : Addr} {y v : V} {u r : Value} {Q : Unit → Shared → Prop} (hu : X.A.units + 1 < cLine) (I : Inv X pins σ H s) (g : DPut H D y v H') (ry : RelV y u) (rv : RelV v r) (h : ∀ s', Inv X pins σ H' s' → Q () s') :
    wpAny (model X.prog X.w) X.A (dictSet D u r) Q E s := by
  rcases g with ⟨kvs, k, e, ey, l, eH⟩ | ⟨kvs, k, b, e, ey, eb, l, eH⟩
  · subst ey eH
    exact d_dictSet I e l ry rv h
  · subst ey eH
    obtain rfl : u = Value.ref b := ry
    obtain ⟨z, hd, xs, rel, dd⟩ := dt_of I.hok e
    have le : (putK kvs k v).length ≤ sizeLine := Nat.le_trans (length_putK kvs k v) l
    refine wpAny_dictSet_heap (hsz := by rw [← Paired.length rel]; exact z) (show X.A.units < cLine by omega) (key_of I.hok eb) dd fun h' dd' hs => h _ ?_
    obtain ⟨q, es, ep, hq, h2, h3, h4, _, h5⟩ := dd'
    refine d_write I (by rw [e]; exact True.intro) hs ⟨q, hq⟩ ⟨le, hd, _, (rel.put k eb rv).keeps fun c ys ec => ?_, q, es, ep, hq, h2, h3, h4, h5⟩
    exact (upd_ne (ne_of ec e (fun z => nomatch z))).trans ec
end
section
variable {X : Cx}
/-- {k: v for target in iter if ..}: o0 the empty dict of either sort -/
def tDcA (o0 : HO) (wi : TI) (g : TG) (tt : TT) (tk tv : TE) (vs : List Nat) : TE := fun σ H Q => wi σ H fun J H1 => ∀ D, H1 D = none → ∃ W : Nat → Nat → Hp → Prop, (∃ m, W 0 m (upd H1 D o0)) ∧
  ∀ i m H, W i m H → (J.stop i H ∧ Q (.ref D) H) ∨ (J.go i H ∧ ∃ Nx : Hp → Prop, (∀ H', Nx H' → ∃ m', m' < m ∧ W (i + 1) m' H') ∧
    ∀ x H', J.yld i H x H' → g x (wipe σ vs) H' fun σ2 H2 => wipe σ2 vs = wipe σ vs ∧ tt σ2 H2 fun b H3 => if b = true then tk σ2 H3 fun y H4 => tv σ2 H4 fun z H5 => ∃ H6, DPut H5 D y z H6 ∧ Nx H6 else Nx H3)
/-- an element's rule in every block -/
abbrev InBlk (X : Cx) (scope : Scope) (R : Cx → Prop) : Prop := ∀ (s : Shared) (H : Hp) (C : Addr) (cl : List (Str × Addr)) (fp : List Addr), R (X.blk s H scope (compEnvC scope cl C X.env) fp)
theorem dcA_core {o0 : HO} {pins : List (Addr × Obj)} {s : Shared} {σ : L2.St} {H : Hp} {Q : VK} {kx vx tg iter : Expr} {ifs : List Expr} {scope : Scope} {own : List (Str × Nat)} {pos pos' : Pos} {wi : TI} {g : TG} {tt : TT} {tk tv : TE} {use : Option (Value → Sem Unit)} {Qf : Value → Shared → Prop}
    (ho0 : o0 = .dK [] ∨ o0 = .dT []) (hu : X.A.units + 1 < cLine) (hc : X.calm = true) (hN : X.N.Nodup) (I : Inv X pins σ H s) (hi : PI X tg iter wi) (ok : BlkOk X.N X.env.scope scope own)
    (hg : InBlk X scope fun Y => PG Y tg g) (ht : InBlk X scope fun Y => PTs Y ifs tt) (hk : InBlk X scope fun Y => PE Y kx tk) (he : InBlk X scope fun Y => PE Y vx tv) (hs : ∀ x, foldedSetIterable iter X.env x = pure x) (h : tDcA o0 wi g tt tk tv (own.map (·.2)) σ H Q)
    (hR : ∀ D C s' m H', Inv X pins σ H' s' → Q (.ref D) H' → s'.heap.Ns C m → FpOk X pins H' C → compPost (model X.prog X.w) X.A X.xe use Qf (.ref D) C (.ok .next) s') :
    wpAny (model X.prog X.w) X.A (comprehension (.DictComp kx vx [⟨tg, iter, ifs, 0⟩] scope pos) scope X.env pos' newDict false (eval iter X.env) use) Qf X.xe s := by
  have fr : ∀ y ∈ scope.names, y.2 = .free → ∃ c, X.env.cells.lookup y.1 = some c := fun y hy e => (ok.free y hy e).elim (fun k => I.ok.has _ (.inl k)) fun k => I.ok.has _ (.inr k)
  refine wpAny_comprehension_free (use := use) rfl hs (closure_ok fr) ok.kind (fun y hy e => by rw [ok.uniq y hy, e]) (thn (hi.run pins s σ H _ I h) fun xv s1 hx => thn hx fun itv s2 h2 => ?_)
  obtain ⟨it, fp, tn, J, H2, ee, I2, T, t2, f2, q⟩ := h2
  subst ee
  refine wpAny_newObj_type (newEnv_comp ?_)
  -- the new dict
  generalize eD : s2.heap.objs.size = D
  have nD : H2 D = none := I2.hok.fresh (Nat.le_of_eq eD)
  obtain ⟨W, ⟨m0, w0⟩, turn⟩ := q D nD
  generalize e3 : ({ s2 with heap := s2.heap.push { cls := .type "dict", data := .dict #[] } } : Shared) = s3
  have h3 : s3.heap = s2.heap.push { cls := .type "dict", data := .dict #[] } := e3 ▸ rfl
  have I3 : Inv X pins σ (upd H2 D o0) s3 := by
    rw [← e3]
    refine I2.laid (t' := s2.toks) (fun b o z => Heap.get?_push_of_some _ z) (Nat.le_of_eq eD) ?_
    rw [← eD]
    rcases ho0 with z | z <;> subst z
    · exact dk_empty s2.heap I2.big
    · exact dt_empty s2.heap I2.big
  have lt2 : ∀ b ∈ fp, b < s2.heap.objs.size := fun b hb => let ⟨_, z, _⟩ := T.obj _ _ t2 b hb; Heap.lt_size z
  have f3 : ∀ b ∈ fp, FpOk X pins (upd H2 D o0) b ∧ b < s3.heap.objs.size := by
    intro b hb
    have hb2 := lt2 b hb
    refine ⟨⟨(upd_ne (eD ▸ Nat.ne_of_lt hb2)).trans (f2 b hb).1, (f2 b hb).2⟩, ?_⟩
    rw [h3, Heap.size_push]
    exact Nat.lt_succ_of_lt hb2
  have t3 : tn 0 s3.heap := T.keep _ _ _ t2 fun b _ o z => by rw [h3]; exact Heap.get?_push_of_some _ z
  have I4 := block_start I3 ok hN f3
  generalize ece : compEnvC scope (cellsFrom (s3.heap.objs.size + 1) scope.names (cloFrom X.env.cells scope.names [])) s3.heap.objs.size X.env = ce at I4
  have pg : PG (X.blk s3 (upd H2 D o0) scope ce fp) tg g := ece ▸ hg _ _ _ _ _
  have pt : PTs (X.blk s3 (upd H2 D o0) scope ce fp) ifs tt := ece ▸ ht _ _ _ _ _
  have pk : PE (X.blk s3 (upd H2 D o0) scope ce fp) kx tk := ece ▸ hk _ _ _ _ _
  have pe : PE (X.blk s3 (upd H2 D o0) scope ce fp) vx tv := ece ▸ he _ _ _ _ _
  have cL : ce.locals = s3.heap.objs.size := ece ▸ rfl
  have nfp : ∀ b ∈ fp, (upd H2 D o0) b = none := fun b hb => (f3 b hb).1.1
  show codeAny _ _ (.compStart (.DictComp kx vx [⟨tg, iter, ifs, 0⟩] scope pos) 0 (.ref it) (.ref D) (compEnvC scope (cellsFrom (s3.heap.objs.size + 1) scope.names (cloFrom X.env.cells scope.names [])) s3.heap.objs.size X.env)) _ { s3 with heap := pushCells (s3.heap.push { cls := .type "dict", data := .dict #[] }) scope.names }
  rw [ece]
  generalize eH3 : upd H2 D o0 = H3 at I3 I4 pg pt pk pe w0 nfp f3
  generalize e4 : ({ s3 with heap := pushCells (s3.heap.push { cls := .type "dict", data := .dict #[] }) scope.names } : Shared) = s4 at I4 ⊢
  have t4 : tn 0 s4.heap := T.keep _ _ _ t3 fun b _ o z => by rw [← e4]; exact pushCells_keeps _ _ _ _ (Heap.get?_push_of_some _ z)
  generalize eY : X.blk s3 H3 scope ce fp = Y at I4 pg pt pk pe
  have yA : Y.A = X.A := eY ▸ rfl
  have yw : Y.prog = X.prog ∧ Y.w = X.w ∧ Y.K = X.K ∧ Y.calm = X.calm ∧ Y.ex = fp ∧ Y.env = ce := eY ▸ ⟨rfl, rfl, rfl, rfl, rfl, rfl⟩
  subst eY
  have stat : ∀ {σ' : L2.St} {H' : Hp} {s' : Shared}, Inv (X.blk s3 H3 scope ce fp) [] σ' H' s' → (∀ b ∈ fp, H' b = none) → ∀ b ∈ fp, FpOk (X.blk s3 H3 scope ce fp) [] H' b := by
    intro σ' H' s' J hn b hb
    exact ⟨hn b hb, (J.ok.exf b hb).1, J.ok.exfs b hb, .inl hb, fun x c z => (J.ok.exf b hb).2 x c z, fun p hp => absurd (show p ∈ ([] : List (Addr × Obj)) ++ [] from hp) (by simp)⟩
  have loop : codeAny (model X.prog X.w) X.A (.compLoop (.DictComp kx vx [⟨tg, iter, ifs, 0⟩] scope pos) 0 (.ref it) (.ref D) ce) (compPost (model X.prog X.w) X.A X.xe use Qf (.ref D) s3.heap.objs.size) s4 := by
    refine compLoop_anyD (fun n s' => ∃ i H', Inv (X.blk s3 H3 scope ce fp) [] (wipe σ (own.map (·.2))) H' s' ∧ tn i s'.heap ∧ (∀ b ∈ fp, H' b = none) ∧ W i n H') ?_ m0 ⟨0, H3, I4, t4, nfp, w0⟩
    rintro n s5 ⟨i, H5, I5, t5, n5, w5⟩
    rcases turn i n H5 w5 with ⟨stop, qq⟩ | ⟨go, Nx, hNx, step⟩
    · refine thnF (T.done (X.blk s3 H3 scope ce fp) rfl rfl rfl hc i [] s5 _ H5 (fun _ _ => False) I5 (stat I5 n5) t5 stop) fun r s6 hr => ?_
      obtain ⟨hr, I6⟩ := hr
      subst hr
      have back : Inv X pins σ H5 s6 := I3.call' (ch := fp) I6.os I6.base I6.hok I6.bare fun b hb => by
        obtain ⟨⟨_, a1, _, a2, a3, a4⟩, _⟩ := f3 b hb
        exact ⟨a2, a1, a3, a4⟩
      have nC : H5 s3.heap.objs.size = none := cL ▸ I6.free
      obtain ⟨m, hn, _⟩ := I6.loc
      have hn2 : s6.heap.Ns s3.heap.objs.size m := cL ▸ hn
      exact hR D s3.heap.objs.size s6 m H5 back qq hn2 (I3.fpOk (Nat.le_refl _) nC)
    · refine thnF (T.item (X.blk s3 H3 scope ce fp) rfl rfl rfl hc i [] s5 _ H5 (fun _ _ => False) I5 (stat I5 n5) t5 go) fun r s6 hr => ?_
      obtain ⟨u, hr, h6⟩ := hr
      subst hr
      refine thnF h6 fun _ s7 hq7 => ?_
      obtain ⟨x, H7, I7, r7, y7, t7, n7⟩ := hq7
      refine thnF (pg.run _ s7 _ H7 x u _ (I7.pinned (stat I7 n7) (T.obj _ _ t7)) r7 (step x H7 y7)) fun _ s8 hq8 => ?_
      obtain ⟨σ8, H8, I8, hw8, q8⟩ := hq8
      refine thnF (pt.run _ s8 σ8 H8 _ I8 q8) fun b s9 hq9 => ?_
      obtain ⟨H9, I9, q9⟩ := hq9
      have fin : ∀ {s' : Shared} {H' : Hp}, Inv (X.blk s3 H3 scope ce fp) ([] ++ pinsAt fp s7.heap) σ8 H' s' → Nx H' →
          ∃ m, m < n ∧ ∃ i H', Inv (X.blk s3 H3 scope ce fp) [] (wipe σ (own.map (·.2))) H' s' ∧ tn i s'.heap ∧ (∀ b ∈ fp, H' b = none) ∧ W i m H' := by
        intro s' H' J nx
        obtain ⟨m', lt, w'⟩ := hNx H' nx
        have pin' : ∀ b ∈ fp, ∀ o, s7.heap.get? b = some o → s'.heap.get? b = some o ∧ H' b = none := fun b hb o z => by
          have zz := J.pin (b, o) (List.mem_append_right _ (List.mem_append_right _ (mem_pinsAt hb z)))
          exact ⟨zz.1, zz.2.1⟩
        have ln : (wipe σ (own.map (·.2))).length = σ8.length := by rw [← hw8, wipe_length]
        refine ⟨m', lt, i + 1, H', (J.unpinned (pins := [])).weak ln (fun j v z => (wipe_some (hw8 ▸ z)).1), ?_, ?_, w'⟩
        · exact T.keep _ _ _ t7 fun b hb o z => (pin' b hb o z).1
        · intro b hb
          obtain ⟨o, z, _⟩ := T.obj _ _ t7 b hb
          exact (pin' b hb o z).2
      cases b with
      | false => exact fin I9 q9
      | true =>
        refine thnF (pk.run _ s9 σ8 H9 _ I9 q9) fun z s10 hq10 => ?_
        obtain ⟨yk, H10, I10, r10, q10⟩ := hq10
        refine thnF (pe.run _ s10 σ8 H10 _ I10 q10) fun z2 s11 hq11 => ?_
        obtain ⟨yv, H11, I11, r11, H12, put, nx⟩ := hq11
        exact d_setA (X := X.blk s3 H3 scope ce fp) hu I11 put r10 r11 fun s12 I12 => fin I12 nx
  exact codeAny_compStart_dict loop (T.self X.A 0 _ _ _ t4 loop)
theorem pe_dcA {o0 : HO} {kx vx tg iter : Expr} {ifs : List Expr} {scope : Scope} {own : List (Str × Nat)} {pos : Pos} {wi : TI} {g : TG} {tt : TT} {tk tv : TE} (ho0 : o0 = .dK [] ∨ o0 = .dT []) (hu : X.A.units + 1 < cLine) (hc : X.calm = true) (hN : X.N.Nodup) (hi : PI X tg iter wi)
    (ok : BlkOk X.N X.env.scope scope own) (hg : InBlk X scope fun Y => PG Y tg g) (ht : InBlk X scope fun Y => PTs Y ifs tt) (hk : InBlk X scope fun Y => PE Y kx tk) (he : InBlk X scope fun Y => PE Y vx tv) (hs : ∀ x, foldedSetIterable iter X.env x = pure x := by intro _; rfl) :
    PE X (.DictComp kx vx [⟨tg, iter, ifs, 0⟩] scope pos) (tDcA o0 wi g tt tk tv (own.map (·.2))) := by
  constructor
  intro pins s σ H Q I h
  rw [arm_eval_DictComp]
  refine dcA_core ho0 hu hc hN I hi ok hg ht hk he hs h fun D C s' m H' I' q hn f => ⟨m, hn, fun h2 sb => ?_⟩
  obtain ⟨a0, a1, a2, a3, a4, a5⟩ := f
  exact ⟨.ref D, H', I'.turned (t' := s'.toks) (fun b o hb z => (sb.2 b hb).trans z) a0 a1 a3 a4 a5, rfl, q⟩
theorem ps_setDc {o0 : HO} {i : Nat} {y : Str} {py : Pos} {kx vx tg iter : Expr} {ifs : List Expr} {scope : Scope} {own : List (Str × Nat)} {pos spos : Pos} {wi : TI} {g : TG} {tt : TT} {tk tv : TE} (ho0 : o0 = .dK [] ∨ o0 = .dT []) (hu : X.A.units + 1 < cLine) (hc : X.calm = true) (hN : X.N.Nodup)
    (hy : X.N[i]? = some y) (hyl : X.env.scope.names.lookup y = some .local) (hsw : swapsWith (.DictComp kx vx [⟨tg, iter, ifs, 0⟩] scope pos) (some (.Name y py)) spos.line X.env = pure true) (hi : PI X tg iter wi)
    (ok : BlkOk X.N X.env.scope scope own) (hg : InBlk X scope fun Y => PG Y tg g) (ht : InBlk X scope fun Y => PTs Y ifs tt) (hk : InBlk X scope fun Y => PE Y kx tk) (he : InBlk X scope fun Y => PE Y vx tv) (hs : ∀ x, foldedSetIterable iter X.env x = pure x := by intro _; rfl) :
    PS X (.Assign [.Name y py] (.DictComp kx vx [⟨tg, iter, ifs, 0⟩] scope pos) spos) (tAsg (tDcA o0 wi g tt tk tv (own.map (·.2))) (gName i)) := by
  constructor
  intro pins s σ H D I h
  rw [exec_Assign_Name_used _ _ _ _ hsw]
  refine wpAny_bind (wpAny_standAt (wpAny_bind ?_))
  show wpAny _ X.A (do let _ ← comprehension (.DictComp kx vx [⟨tg, iter, ifs, 0⟩] scope pos) scope X.env (firstIterPos [⟨tg, iter, ifs, 0⟩] pos) newDict false (eval iter X.env) (some (assign (.Name y py) X.env))) _ _ s
  have h1 : tDcA o0 wi g tt tk tv (own.map (·.2)) σ H (fun x H1 => gName i x σ H1 D.nx) := h
  refine wpAny_bind (thn (dcA_core (Qf := fun _ s' => SP X pins D .next s') ho0 hu hc hN I hi ok hg ht hk he hs h1 fun L C s' m H' I' q hn f => ?_) fun _ s' hq => wpAny_pure (wpAny_pure hq))
  show wpAny _ _ (assign (.Name y py) X.env (.ref L)) _ _ _
  refine wpAny_assign_Name (store_ok2 (v := V.ref L) I' hN hy (.inl hyl) rfl (fun s2 I2 hz => ?_) (.inr hyl))
  obtain ⟨a, sb, ha⟩ := hz
  obtain ⟨a0, a1, a2, a3, a4, a5⟩ := f
  have ne : C ≠ a := ha.elim (fun z => z ▸ a1) fun z e => a4 y a z e.symm
  refine ⟨m, hn.sameBut sb ne, fun h3 sb3 => ⟨_, H', ?_, q⟩⟩
  exact I2.turned (t' := s2.toks) (fun b o hb z => (sb3.2 b hb).trans z) a0 a1 a3 a4 a5
theorem swD_true {kx vx : Expr} {gs : List Comprehension} {scope : Scope} {pos py : Pos} {y : Str} {l : Nat} {env : Env} (hk : env.scope.kind = .function) (hy : env.scope.names.lookup y = some .local) (hl : (py.line == pos.line) = true)
    (ha : (scope.names.any fun (n, k) => n == y && (k == .local || k == .cell)) = false) : swapsWith (.DictComp kx vx gs scope pos) (some (.Name y py)) l env = pure true := by
  have k1 : env.kindOf y = some .local := hy
  have k2 : env.blockKind = .function := by
    unfold Env.blockKind
    rw [hk] <;> rfl
  unfold swapsWith
  simp only [k2, k1, ha, Expr.pos, hl]
  rfl
/-- over a walk: Pv by the turn and the heap (the new dict at D within) -/
theorem dc_it {J : It} {n : Nat} {G : Hp → Prop} {Y : Nat → Hp → V → Hp → Prop} (w : Walk J n G Y) {o0 : HO} {g : TG} {tt : TT} {tk tv : TE} {vs : List Nat} {σ : L2.St} {H1 : Hp} {D : Addr} {Qd : Hp → Prop} (Pv : Nat → Hp → Prop) (h0 : Pv 0 (upd H1 D o0)) (hG : ∀ i H, i ≤ n → Pv i H → G H)
    (hs : ∀ i x H H', i < n → Pv i H → Y i H x H' → g x (wipe σ vs) H' fun σ2 H2 => wipe σ2 vs = wipe σ vs ∧ tt σ2 H2 fun b H3 => if b = true then tk σ2 H3 fun y H4 => tv σ2 H4 fun z H5 => ∃ H6, DPut H5 D y z H6 ∧ Pv (i + 1) H6 else Pv (i + 1) H3)
    (hd : ∀ H, Pv n H → Qd H) :
    ∃ W : Nat → Nat → Hp → Prop, (∃ m, W 0 m (upd H1 D o0)) ∧ ∀ i m H, W i m H → (J.stop i H ∧ Qd H) ∨ (J.go i H ∧ ∃ Nx : Hp → Prop, (∀ H', Nx H' → ∃ m', m' < m ∧ W (i + 1) m' H') ∧
      ∀ x H', J.yld i H x H' → g x (wipe σ vs) H' fun σ2 H2 => wipe σ2 vs = wipe σ vs ∧ tt σ2 H2 fun b H3 => if b = true then tk σ2 H3 fun y H4 => tv σ2 H4 fun z H5 => ∃ H6, DPut H5 D y z H6 ∧ Nx H6 else Nx H3) := by
  refine ⟨fun i m H => m + i = n ∧ Pv i H, ⟨n, rfl, h0⟩, ?_⟩
  rintro i m H ⟨em, p⟩
  have le : i ≤ n := by omega
  by_cases lt : i < n
  · refine .inr ⟨w.goes i H lt (hG i H le p), Pv (i + 1), fun H' p' => ⟨m - 1, by omega, by omega, p'⟩, fun x H' y => ?_⟩
    exact hs i x H H' lt p (w.yields i H x H' lt (hG i H le p) y)
  · obtain rfl : i = n := by omega
    exact .inl ⟨w.stops H (hG i H le p), hd H p⟩
end
end K80
namespace K80
open PySem PySem.Spec PyProof.Rows L2
/-! ### a dict's values, of either sort of keys -/
/-- the values of what stands at a dict -/
def DVals (u : HO) (vals : List V) : Prop := (∃ kvs : List (Key × V), u = .dK kvs ∧ vals = kvs.map (·.2)) ∨ ∃ kvs : List (List Key × V), u = .dT kvs ∧ vals = kvs.map (·.2)
theorem DVals.mut {u : HO} {vals : List V} (h : DVals u vals) : Mut (some u) := by
  rcases h with ⟨_, rfl, _⟩ | ⟨_, rfl, _⟩ <;> exact True.intro
theorem paired_at {α β : Type} {F : α → β → Prop} : ∀ {xs : List α} {ys : List β}, Paired F xs ys → ∀ {i : Nat} {x : α} {y : β}, xs[i]? = some x → ys[i]? = some y → F x y
  | _, _, .cons r t, 0, x, y, h1, h2 => by
    cases h1
    cases h2
    exact r
  | _, _, .cons r t, i + 1, x, y, h1, h2 => paired_at t (by simpa using h1) (by simpa using h2)
section
variable {X : Cx} {pins : List (Addr × Obj)} {σ : L2.St} {H : Hp} {s : Shared} {d : Addr} {u : HO} {vals : List V}
theorem raw_vals (I : Inv X pins σ H s) (h : Rd H d u) (dv : DVals u vals) :
    (d == sysModules) = false ∧ ∃ es ep, s.heap.DictRaw d es ep ∧ es.size = vals.length ∧ ∀ (i : Nat) (v : V), vals[i]? = some v → ∃ hi : i < es.size, RelV v es[i].val := by
  rcases dv with ⟨kvs, rfl, rfl⟩ | ⟨kvs, rfl, rfl⟩
  · obtain ⟨_, hd, vs, rel, dd⟩ := dk_rd I.hok h
    obtain ⟨es, ep, raw, sz, at_⟩ := dd.raw
    have l : kvs.length = vs.length := Paired.length rel
    refine ⟨hd, es, ep, raw, by rw [sz, List.length_map, l], fun i v hv => ?_⟩
    rw [List.getElem?_map] at hv
    obtain ⟨p, hp, ev⟩ := Option.map_eq_some_iff.mp hv
    have li : i < vs.length := l ▸ (List.getElem?_eq_some_iff.mp hp).1
    have r := paired_at rel hp (List.getElem?_eq_getElem li)
    refine ⟨by omega, ?_⟩
    rw [(at_ i (by omega) vs[i].1 vs[i].2 (List.getElem?_eq_getElem li)).2, ← ev]
    exact r.2
  · obtain ⟨_, hd, xs, rel, dd⟩ := dt_rd I.hok h
    obtain ⟨es, ep, raw, sz, at_⟩ := dd.raw
    have l : kvs.length = xs.length := Paired.length rel
    refine ⟨hd, es, ep, raw, by rw [sz, List.length_map, l], fun i v hv => ?_⟩
    rw [List.getElem?_map] at hv
    obtain ⟨p, hp, ev⟩ := Option.map_eq_some_iff.mp hv
    have li : i < xs.length := l ▸ (List.getElem?_eq_some_iff.mp hp).1
    refine ⟨by omega, ?_⟩
    obtain ⟨y, hy, _, e2, _⟩ := at_ i (by omega)
    rw [e2, ← ev]
    exact (paired_at rel hp hy).2.2
/-- the values of the dict at d, known to be the object o from now on -/
def Itf (d : Addr) (o : Obj) (u : HO) (vals : List V) : It where
  go := fun i H => H d = some (.frz o u) ∧ i < vals.length
  yld := fun i H x H' => H' = H ∧ vals[i]? = some x
  stop := fun i H => H d = some (.frz o u) ∧ vals.length ≤ i
theorem walk_itf {o : Obj} : Walk (Itf d o u vals) vals.length (fun H => H d = some (.frz o u)) (YAt vals) := ⟨fun _ _ hi h => ⟨h, hi⟩, fun _ h => ⟨h, Nat.le_refl _⟩, fun _ _ _ _ _ _ y => y⟩
theorem turn_itf {P : Program} {w : World} {K : PySem.W.Frag} {tg : Expr} {o : Obj} {es : Array DictEntry} {ep : Nat} (it : Addr) (dv : DVals u vals) (hod : o.data = .dict es ep) (hsz : es.size = vals.length) :
    Turn P w K tg (Itf d o u vals) [it] it (fun i h => h.IsValIter it d i es.size ep) where
  mem := List.mem_singleton.mpr rfl
  obj := by
    rintro i h ⟨oi, e, c, dd⟩ b hb
    rw [List.mem_singleton.mp hb]
    exact ⟨oi, e, fun v z => by rw [dd] at z; cases z⟩
  keep := fun i h h' st k => st.at fun oi e => k it (List.mem_singleton.mpr rfl) oi e
  item := by
    intro X hP hw hK hc i pins s σ H E I hf st hg
    subst hP hw hK
    obtain ⟨hd, hi⟩ := hg
    obtain ⟨f0, f1, f2, f3, f4, f5⟩ := hf it (List.mem_singleton.mpr rfl)
    obtain ⟨_, es', ep', ⟨o', ho', hx, hdt⟩, sz, at_⟩ := raw_vals I (.inr ⟨o, hd⟩) dv
    have eo : s.heap.get? d = some o := (show ObjOk X.prog X.w H s.heap d (.frz o u) from I.hok d _ hd).1
    rw [eo] at ho'
    cases ho'
    obtain ⟨rfl, rfl⟩ := dict_ep hod hdt
    obtain ⟨li, rv⟩ := at_ i _ (List.getElem?_eq_getElem hi)
    refine wpAny_pyNext_values_item_raw st ⟨o, eo, hx, hdt⟩ li fun h' st' sb => ?_
    obtain ⟨oi, e, c, dd⟩ := id st'
    have J : Inv X pins σ H { s with heap := h' } := I.turned (t' := s.toks) (fun b ob hb z => (sb.2 b hb).trans z) f0 f1 f3 f4 f5
    exact ⟨_, rfl, go_of (s := { s with heap := h' }) e c dd (by decide) ⟨_, H, J, rv, ⟨rfl, List.getElem?_eq_getElem hi⟩, st', fun b hb => (hf b hb).1⟩⟩
  done := by
    intro X hP hw hK hc i pins s σ H E I hf st hg
    subst hP hw hK
    obtain ⟨hd, hi⟩ := hg
    obtain ⟨f0, f1, f2, f3, f4, f5⟩ := hf it (List.mem_singleton.mpr rfl)
    obtain ⟨_, es', ep', ⟨o', ho', hx, hdt⟩, sz, at_⟩ := raw_vals I (.inr ⟨o, hd⟩) dv
    have eo : s.heap.get? d = some o := (show ObjOk X.prog X.w H s.heap d (.frz o u) from I.hok d _ hd).1
    rw [eo] at ho'
    cases ho'
    obtain ⟨rfl, rfl⟩ := dict_ep hod hdt
    exact wpAny_pyNext_values_end_raw (I.ok.hd hc) st ⟨o, eo, hx, hdt⟩ (by omega) fun h' eb => ⟨rfl, I.turned (t' := s.toks) (fun b ob hb z => eb b ob hb z) f0 f1 f3 f4 f5⟩
  self := fun A i s Q E st h => wpAny_pyIter_valiter st h
/-- for v in d.values(): the dict is known from then on -/
def iValsF (td : TE) : TI := fun σ H R => td σ H fun x H1 => ∃ d u vals, x = .ref d ∧ H1 d = some u ∧ DVals u vals ∧ ∀ o, R (Itf d o u vals) (upd H1 d (.frz o u))
theorem vals_it {X : Cx} {tg : Expr} {pins : List (Addr × Obj)} {σ : L2.St} {H1 : Hp} {s1 : Shared} {R : It → Hp → Prop} {d : Addr} {u : HO} {vals : List V} {o : Obj} (I : Inv X pins σ H1 s1) (hd : H1 d = some (.frz o u)) (dv : DVals u vals) (q : R (Itf d o u vals) H1) :
    wpAny (model X.prog X.w) X.A (call (.builtin "dict.values") [.ref d]) (fun v s2 => wpAny (model X.prog X.w) X.A (pyIter v) (PIE X pins σ tg R) X.xe s2) X.xe s1 := by
  obtain ⟨hs, es, ep, raw, sz, _⟩ := raw_vals I (.inr ⟨o, hd⟩) dv
  have eo : s1.heap.get? d = some o := (show ObjOk X.prog X.w H1 s1.heap d (.frz o u) from I.hok d _ hd).1
  have hod : o.data = .dict es ep := by
    obtain ⟨o', ho', _, z⟩ := id raw
    rw [eo] at ho'
    cases ho'
    exact z
  have I2 : Inv X pins σ H1 { s1 with heap := s1.heap.push { cls := .type "dict_values", data := .fields #[.ref d] } } := I.kept (t' := s1.toks) fun b ob z => Heap.get?_push_of_some _ z
  refine call_meetsIn PySem.F.slot_dict_values raw.typeIs PySem.F.entry_dict_values (PySem.F.args_dict_values_1 _) (PySem.meets_dict_values_raw d hs) ⟨⟨es, ep, raw⟩, ?_⟩
  refine wpAny_pyIter_values_raw (d := d) ⟨_, Heap.get?_push_size _ rfl, rfl, rfl⟩ (raw.at fun ob z => Heap.get?_push_of_some _ z) ?_
  exact pi_one (tk := s1.toks) I2 _ (turn_itf _ dv hod sz) ⟨_, Heap.get?_push_size _ rfl, rfl, rfl⟩ q
theorem pi_valuesF {X : Cx} {tg e : Expr} {td : TE} {apos cpos : Pos} (he : PE X e td) (hb : attributeBase e "values" X.env (eval e X.env) = eval e X.env := by rfl) (hl : (apos.endLine == cpos.line) = true := by rfl) : PI X tg (.Call (.Attribute e "values" apos) [] [] cpos) (iValsF td) := by
  constructor
  intro pins s σ H R I h
  refine wpAny_Call_method (T := "dict") (id := "dict.values") hb rfl hl PySem.F.plainAttrs_dict PySem.F.slot_dict_values PySem.F.type_dict_values (thn (he.run pins s σ H _ I h) fun v s1 hq => ?_)
  obtain ⟨x, H1, I1, rx, d, u, vals, ex, hd, dv, q⟩ := hq
  subst ex
  obtain rfl : v = Value.ref d := rx
  obtain ⟨o, J⟩ := I1.lock hd dv.mut
  have hf : (upd H1 d (.frz o u)) d = some (.frz o u) := upd_same
  obtain ⟨_, _, _, ⟨o2, ho2, hx2, _⟩, _⟩ := raw_vals J (.inr ⟨o, hf⟩) dv
  refine ⟨⟨o2, ho2, hx2.1⟩, fun b e => ?_, ?_⟩
  · cases e
    exact ⟨o2, ho2, hx2.2.1⟩
  · show wpAny _ _ (callWith cpos (.builtin "dict.values") [.ref d] [] []) _ X.xe s1
    exact Calls.callWith_builtin rfl (PySem.evalArgs_none (vals_it J hf dv (q o)))
/-- .. of a dict that is known already -/
def iValsK (td : TE) : TI := fun σ H R => td σ H fun x H1 => ∃ d o u vals, x = .ref d ∧ H1 d = some (.frz o u) ∧ DVals u vals ∧ R (Itf d o u vals) H1
theorem pi_valuesK {X : Cx} {tg e : Expr} {td : TE} {apos cpos : Pos} (he : PE X e td) (hb : attributeBase e "values" X.env (eval e X.env) = eval e X.env := by rfl) (hl : (apos.endLine == cpos.line) = true := by rfl) : PI X tg (.Call (.Attribute e "values" apos) [] [] cpos) (iValsK td) := by
  constructor
  intro pins s σ H R I h
  refine wpAny_Call_method (T := "dict") (id := "dict.values") hb rfl hl PySem.F.plainAttrs_dict PySem.F.slot_dict_values PySem.F.type_dict_values (thn (he.run pins s σ H _ I h) fun v s1 hq => ?_)
  obtain ⟨x, H1, J, rx, d, o, u, vals, ex, hf, dv, q⟩ := hq
  subst ex
  obtain rfl : v = Value.ref d := rx
  obtain ⟨_, _, _, ⟨o2, ho2, hx2, _⟩, _⟩ := raw_vals J (.inr ⟨o, hf⟩) dv
  refine ⟨⟨o2, ho2, hx2.1⟩, fun b e => ?_, ?_⟩
  · cases e
    exact ⟨o2, ho2, hx2.2.1⟩
  · show wpAny _ _ (callWith cpos (.builtin "dict.values") [.ref d] [] []) _ X.xe s1
    exact Calls.callWith_builtin rfl (PySem.evalArgs_none (vals_it J hf dv q))
/-! ### max, min of a dict's values, whole numbers -/
def valuesO (p d : Addr) : HO := .ext fun h => h.IsValuesView p d
def rValues : V → List V → Hp → VK → Prop := fun x xs H Q => ∃ (a : Addr) (u : HO) (vals : List V), x = .ref a ∧ xs = [] ∧ Rd H a u ∧ DVals u vals ∧ ∀ p, H p = none → Q (.ref p) (upd H p (valuesO p a))
theorem mt_values {X : Cx} : MtR X "dict.values" rValues := by
  intro pins s σ H x xs v us Q I rx rxs h
  obtain ⟨a, u, vals, rfl, rfl, ha, dv, q⟩ := h
  cases rx
  cases rxs
  obtain ⟨hs, es, ep, raw, sz, _⟩ := raw_vals I ha dv
  refine call_meetsIn PySem.F.slot_dict_values raw.typeIs PySem.F.entry_dict_values (PySem.F.args_dict_values_1 _) (PySem.meets_dict_values_raw a hs) ⟨⟨es, ep, raw⟩, ?_⟩
  have hn : H s.heap.objs.size = none := I.hok.fresh (Nat.le_refl _)
  have hv : (s.heap.push { cls := .type "dict_values", data := .fields #[.ref a] }).get? s.heap.objs.size = some { cls := .type "dict_values", data := .fields #[.ref a] } := Heap.get?_push_size _ rfl
  refine ⟨.ref s.heap.objs.size, upd H s.heap.objs.size (valuesO s.heap.objs.size a), I.laid (t' := s.toks) (fun b w e => Heap.get?_push_of_some _ e) (Nat.le_refl _) ?_, rfl, q _ hn⟩
  exact ⟨⟨_, hv, rfl, rfl⟩, ⟨_, hv⟩, fun h1 h2 y k => let ⟨o, ho, r⟩ := y; ⟨o, k o ho, r⟩⟩
def rMaxV (up : Bool) : List V → Hp → VK → Prop := fun xs H Q => ∃ (p a : Addr) (u : HO) (ns : List Int), xs = [.ref p] ∧ H p = some (valuesO p a) ∧ Rd H a u ∧ DVals u (ns.map V.int) ∧ 0 < ns.length ∧ ∀ m, m ∈ ns → (∀ y ∈ ns, if up = true then y ≤ m else m ≤ y) → Q (.int m) H
theorem view_walk {X : Cx} {pins : List (Addr × Obj)} {σ : L2.St} {H : Hp} {s : Shared} {p a : Addr} {u : HO} {ns : List Int} (I : Inv X pins σ H s) (hp : H p = some (valuesO p a)) (ha : Rd H a u) (dv : DVals u (ns.map V.int)) (hne : 0 < ns.length) :
    ∃ es ep, s.heap.DictRaw a es ep ∧ s.heap.IsValuesView p a ∧ es.size = ns.length ∧ ∀ (i : Nat) (v : Value), (∃ hi : i < es.size, v = es[i].val) → ∃ t, v = .int (ns.getD i 0) t := by
  obtain ⟨hs, es, ep, raw, sz, at_⟩ := raw_vals I ha dv
  rw [List.length_map] at sz
  refine ⟨es, ep, raw, (show ObjOk X.prog X.w H s.heap p (valuesO p a) from I.hok p _ hp).1, sz, ?_⟩
  rintro i v ⟨hi, rfl⟩
  have li : i < ns.length := sz ▸ hi
  obtain ⟨_, t, ht⟩ := at_ i (V.int ns[i]) (by rw [List.getElem?_map, List.getElem?_eq_getElem li] <;> rfl)
  exact ⟨t, by rw [ht, List.getD_eq_getElem?_getD, List.getElem?_eq_getElem li] <;> rfl⟩
theorem getD_of_mem {ns : List Int} {y : Int} (hy : y ∈ ns) : ∃ j, j < ns.length ∧ ns.getD j 0 = y := by
  obtain ⟨j, hj, e⟩ := List.mem_iff_getElem.mp hy
  exact ⟨j, hj, by rw [List.getD_eq_getElem?_getD, List.getElem?_eq_getElem hj, ← e] <;> rfl⟩
theorem cr_maxV {X : Cx} (hc : X.calm = true) : CallR X (.builtin "max") (rMaxV true) := by
  intro pins s σ H xs us Q I rx h
  obtain ⟨p, a, u, ns, rfl, hp, ha, dv, hne, q⟩ := h
  rw [Vals.ref1 rx]
  obtain ⟨es, ep, raw, view, sz, isI⟩ := view_walk I hp ha dv hne
  have al : a < s.heap.objs.size := let ⟨_, z, _⟩ := id raw; Heap.lt_size z
  refine PySem.call_max_walk (wpAny_pyIter_values_raw view raw ⟨_, _, _, _, _, _, _, rfl, PySem.Walks.rawValues (A := X.A.in1) (I.ok.hd hc) s.heap.objs.size a (Nat.ne_of_lt al) es ep, ⟨⟨_, Heap.get?_push_size _ rfl, rfl, rfl⟩, raw.at fun o z => Heap.get?_push_of_some _ z⟩, ?_, by omega, PySem.CmpOf.ints_gt (fun i => ns.getD i 0) isI, ?_⟩)
  · intro b hb
    show b < (s.heap.push _).objs.size
    rw [Heap.size_push]
    rcases List.mem_cons.mp hb with z | z
    · rw [z]
      exact Nat.lt_succ_self _
    · rw [List.mem_singleton.mp z]
      exact Nat.lt_succ_of_lt al
  · intro v h' tk hv hk
    obtain ⟨t, rfl⟩ := isI _ _ hv
    obtain ⟨m1, m2⟩ := PySem.argBest_gt (fun i => ns.getD i 0) (es.size - 1)
    refine ⟨.int _, H, I.kept (t' := tk) fun b o e => hk b o (fun z => ?_) (Heap.get?_push_of_some _ e), ⟨t, rfl⟩, q _ (PySem.getD_mem (by omega)) fun y hy => ?_⟩
    · rw [List.mem_singleton.mp z] at e
      exact absurd (Heap.lt_size e) (Nat.lt_irrefl _)
    · obtain ⟨j, hj, e⟩ := getD_of_mem hy
      rw [if_pos rfl, ← e]
      exact m2 j (by omega)
theorem cr_minV {X : Cx} (hc : X.calm = true) : CallR X (.builtin "min") (rMaxV false) := by
  intro pins s σ H xs us Q I rx h
  obtain ⟨p, a, u, ns, rfl, hp, ha, dv, hne, q⟩ := h
  rw [Vals.ref1 rx]
  obtain ⟨es, ep, raw, view, sz, isI⟩ := view_walk I hp ha dv hne
  have al : a < s.heap.objs.size := let ⟨_, z, _⟩ := id raw; Heap.lt_size z
  refine PySem.call_min_walk (wpAny_pyIter_values_raw view raw ⟨_, _, _, _, _, _, _, rfl, PySem.Walks.rawValues (A := X.A.in1) (I.ok.hd hc) s.heap.objs.size a (Nat.ne_of_lt al) es ep, ⟨⟨_, Heap.get?_push_size _ rfl, rfl, rfl⟩, raw.at fun o z => Heap.get?_push_of_some _ z⟩, ?_, by omega, PySem.CmpOf.ints_lt (fun i => ns.getD i 0) isI, ?_⟩)
  · intro b hb
    show b < (s.heap.push _).objs.size
    rw [Heap.size_push]
    rcases List.mem_cons.mp hb with z | z
    · rw [z]
      exact Nat.lt_succ_self _
    · rw [List.mem_singleton.mp z]
      exact Nat.lt_succ_of_lt al
  · intro v h' tk hv hk
    obtain ⟨t, rfl⟩ := isI _ _ hv
    obtain ⟨m1, m2⟩ := PySem.argBest_lt (fun i => ns.getD i 0) (es.size - 1)
    refine ⟨.int _, H, I.kept (t' := tk) fun b o e => hk b o (fun z => ?_) (Heap.get?_push_of_some _ e), ⟨t, rfl⟩, q _ (PySem.getD_mem (by omega)) fun y hy => ?_⟩
    · rw [List.mem_singleton.mp z] at e
      exact absurd (Heap.lt_size e) (Nat.lt_irrefl _)
    · obtain ⟨j, hj, e⟩ := getD_of_mem hy
      rw [if_neg (by decide), ← e]
      exact m2 j (by omega)
end
end K80
namespace K80
open PySem PySem.Spec PyProof.Rows L2
/-! ### what is passed as a list or a tuple -/
/-- a list or a tuple of xs at a -/
def Seq (H : Hp) (a : Addr) (xs : List V) : Prop := H a = some (.lst xs) ∨ H a = some (.tup xs)
theorem Seq.sq {K : PySem.W.Frag} {H : Hp} {a : Addr} {xs : List V} (h : Seq H a xs) : ∃ k, ∀ H', Same H H' → Sq k K H' a xs := by
  rcases h with h | h
  · exact ⟨true, fun H' e => sq_l.mpr (SqL.of (e _ _ h))⟩
  · exact ⟨false, fun H' e => sq_t.mpr (SqT.of (e _ _ h))⟩
theorem Seq.or {K : PySem.W.Frag} {H : Hp} {a : Addr} {xs : List V} (h : Seq H a xs) : SqL K H a xs ∨ SqT K H a xs := h.elim (fun z => .inl (SqL.of z)) fun z => .inr (SqT.of z)
theorem Seq.same {H H' : Hp} {a : Addr} {xs : List V} (e : Same H H') (h : Seq H a xs) : Seq H' a xs := h.elim (fun z => .inl (e _ _ z)) fun z => .inr (e _ _ z)
theorem Seq.ty {K : PySem.W.Frag} {H : Hp} {a : Addr} {xs : List V} (h : Seq H a xs) : ∃ n, TyN K H (.ref a) n ∧ isSeqN n = true := h.elim (fun z => ⟨_, TyN.lst z, rfl⟩) fun z => ⟨_, TyN.tup z, rfl⟩
theorem map_at {α β : Type} {f : α → β} {xs : List α} {i : Nat} {y : β} (h : (xs.map f)[i]? = some y) : ∃ x, xs[i]? = some x ∧ f x = y := by
  rw [List.getElem?_map] at h
  exact Option.map_eq_some_iff.mp h
theorem cut_take {xs : List V} {i : Nat} (h : i ≤ xs.length) : cutV xs none (some (i : Int)) = xs.take i := by
  unfold cutV
  rw [HT.sIx_none, HT.sIx_nat, Nat.min_eq_left h, List.drop_zero, Nat.sub_zero]
theorem inV_str (n : Str) : ∀ N : List Str, inV (.str n) (N.map V.str) = decide (n ∈ N)
  | [] => rfl
  | m :: r => by
    have ih := inV_str n r
    unfold inV at ih ⊢
    rw [List.map_cons, List.any_cons, ih]
    show ((m == n) || decide (n ∈ r)) = decide (n ∈ m :: r)
    by_cases e : m = n
    · subst e
      simp
    · have e2 : ¬ n = m := fun z => e z.symm
      simp [e, e2]
theorem flat_strs (N : List Str) : (N.map V.str).all flatV = true := by
  rw [List.all_eq_true]
  intro x hx
  obtain ⟨n, _, rfl⟩ := List.mem_map.mp hx
  rfl
/-- behind a slice of the first i -/
theorem slice_to {K : PySem.W.Frag} {H : Hp} {a : Addr} {xs : List V} {i : Nat} {Q : VK} (h : Seq H a xs) (hi : i < xs.length) (k : ∀ p H', Same H H' → Seq H' p (xs.take i) → Q (.ref p) H') :
    (rSlL K (.ref a) none (some (i : Int)) H Q ∨ rSlT K (.ref a) none (some (i : Int)) H Q) := by
  rcases h with h | h
  · refine .inl ⟨a, xs, rfl, SqL.of h, fun p hp => k p _ (same_new hp) (.inl ?_)⟩
    rw [upd_same, cut_take (Nat.le_of_lt hi)]
  · refine .inr ⟨a, xs, rfl, SqT.of h, fun z => ?_, fun p hp => k p _ (same_new hp) (.inr ?_)⟩
    · have z2 := z.2
      rw [HT.sIx_nat, Nat.min_eq_left (Nat.le_of_lt hi)] at z2
      omega
    · rw [upd_same, cut_take (Nat.le_of_lt hi)]
/-! ### the houses of a valley -/
def spCheckedHouses : Sp := fun vs H Q _ => ∃ (a : Addr) (N : List Str), vs = [.ref a] ∧ Seq H a (N.map V.str) ∧ (∀ n ∈ N, OkName n) ∧ N.Nodup ∧ 1 ≤ N.length ∧ N.length ≤ 1000 ∧
  ∀ p H', Same H H' → H' p = some (.tup (N.map V.str)) → Q (.ref p) H'
section
variable {P : Program} {w : World} {K : PySem.W.Frag} {mg : Str → Option Value} {base : Heap}
theorem ok_checked_houses (T : Txt K mg) : FnOk P w K mg base CX0 2 T.checked_houses.f T.checked_houses.fd ["houses"] spCheckedHouses := by
  have G_is_list : FnOk P w K mg base CX0 1 T.is_list.f T.is_list.fd ["thing"] (spIsList K) := ok_is_list T
  have G_is_name : FnOk P w K mg base CX0 1 T.is_name.f T.is_name.fd ["thing"] spIsName := ok_is_name T
  refine T.checked_houses.F.ok sc_checked_houses (fun vs H Q E h => ?_) (fun cdv A outer s H vs Q E hr h => ?_)
  · obtain ⟨a, N, rfl, _⟩ := h
    rfl
  · obtain ⟨a, N, rfl, hS, hok, nd, l1, l2, k⟩ := h
    -- slots: 0 houses, 1 index, 2 name
    refine ⟨_, (pss_cons (ps_if (pt_not (pt_val (pe_call G_is_list (hr.mono (by decide)) rfl T.is_list.mgx T.is_list.F.kp T.is_list.b .nil pass0 (pa_cons (pv 0) pa_nil)))) (pss_one ps_never) pss_nil)
    (pss_cons (ps_for PassesOwn.never rfl (pi_enumA (by rfl) T.n_enumerate (pa_cons (pv 0) pa_nil)) (pg_tup rfl (pgs_cons (pg_name (i := 1) sc_checked_houses.nd rfl (Or.inl rfl)) (pgs_cons (pg_name (i := 2) sc_checked_houses.nd rfl (Or.inl rfl)) pgs_nil)))
      (pss_one (ps_if (PW.pt (pw_or (pt_not (pt_val (pe_call G_is_name (hr.mono (by decide)) rfl T.is_name.mgx T.is_name.F.kp T.is_name.b .nil pass0 (pa_cons (pv 2) pa_nil)))) (pw_or1 (pt_cmpR op_in_seq (pv 2) (pe_slice (sl_list.or sl_tup) (pv 0) po_none (po_some (pv 1))) (by rfl))))) (pss_one ps_never) pss_nil)))
    (pss_cons (ps_if (pt_cmpR op_eq (pe_callB call_len_seq (by rfl) T.n_len (by decide +kernel) (pa_cons (pv 0) pa_nil)) pe_int (nomark _)) (pss_one ps_never) pss_nil)
    (pss_one (ps_ret (pe_callTy call_tuple_of (by rfl) T.n_tuple (by decide +kernel) (pa_cons (pv 0) pa_nil))))))), ?_⟩
    obtain ⟨n, ty, en⟩ := hS.ty (K := K)
    refine ⟨_, rfl, _, n, rfl, ty, fun H1 s1 => ⟨_, rfl, ?_⟩⟩
    rw [en]
    refine iteF ?_
    obtain ⟨kk, sq⟩ := hS.sq (K := K)
    refine ⟨_, rfl, a, kk, rfl, ⟨_, sq H1 s1⟩, ?_⟩
    refine for_it walk_enumA (fun i σ H' => Same H H' ∧ ∃ u v, σ = [some (.ref a), u, v]) ⟨s1, none, none, rfl⟩ (fun i σ H' _ p => sq H' p.1) ?_ ?_
    · rintro i x σ H' H2 hi ⟨s2, u, v, rfl⟩ ⟨t, x1, x2, rfl, ht, rfl, e1, e2⟩
      obtain rfl : V.int (i : Nat) = x1 := Option.some.inj e1
      obtain ⟨m, hm, rfl⟩ : ∃ m, N[i]? = some m ∧ V.str m = x2 := map_at e2
      have hi' : i < N.length := (List.getElem?_eq_some_iff.mp hm).1
      have hmem : m ∈ N := List.mem_of_getElem? hm
      have s3 : Same H (upd H' t (.tup [.int (i : Nat), .str m])) := s2.trans (same_new ht)
      refine ⟨t, _, rfl, SqT.of upd_same, rfl, _, _, rfl, _, _, rfl, rfl, ?_⟩
      refine ⟨_, rfl, m, rfl, hok m hmem, fun H4 s4 => ⟨true, rfl, iteF ?_⟩⟩
      refine ⟨_, rfl, _, rfl, _, rfl, (i : Nat), rfl, slice_to (hS.same (s3.trans s4)) (by rw [List.length_map]; exact hi') fun p H5 s5 q5 => ?_⟩
      have nin : inV (.str m) ((N.map V.str).take i) = false := by
        rw [← List.map_take, inV_str]
        refine decide_eq_false fun z => ?_
        obtain ⟨j, hj, ej⟩ := List.mem_iff_getElem.mp z
        rw [List.length_take] at hj
        rw [List.getElem_take] at ej
        have : j = i := nd_ix nd (List.getElem?_eq_some_iff.mpr ⟨by omega, ej⟩) hm
        omega
      refine ⟨p, _, rfl, q5.or, rfl, by rw [← List.map_take]; exact flat_strs _, false, ?_, iteF ⟨(s3.trans s4).trans s5, _, _, rfl⟩⟩
      rw [nin] <;> rfl
    · rintro σ H' ⟨s2, u, v, rfl⟩
      refine ⟨_, rfl, a, _, rfl, (hS.same s2).or, rfl, false, ?_, iteF ?_⟩
      · refine congrArg V.bl (decide_eq_false fun z => ?_)
        have z2 := V.int.inj z
        rw [List.length_map] at z2
        omega
      · refine ⟨_, rfl, a, N.map V.str, rfl, ?_⟩
        rcases hS.same s2 with z | z
        · exact .inl ⟨SqL.of z, fun l hl => k l _ (same_mut s2 (s2.free hl)) upd_same⟩
        · exact .inr ⟨SqT.of z, k a _ s2 z⟩
end
/-! ### the heads -/
def spCheckedHeads : Sp := fun vs H Q _ => ∃ (a b : Addr) (N : List Str) (ns : List Int), vs = [.ref b, .ref a] ∧ H b = some (.tup (N.map V.str)) ∧ Seq H a (ns.map V.int) ∧ ns.length = N.length ∧ (∀ z ∈ ns, 1 ≤ z) ∧
  ∀ p H', Same H H' → H' p = some (.tup (ns.map V.int)) → Q (.ref p) H'
section
variable {P : Program} {w : World} {K : PySem.W.Frag} {mg : Str → Option Value} {base : Heap}
theorem ok_checked_heads (T : Txt K mg) : FnOk P w K mg base CX0 3 T.checked_heads.f T.checked_heads.fd ["names", "heads"] spCheckedHeads := by
  have G_is_list : FnOk P w K mg base CX0 1 T.is_list.f T.is_list.fd ["thing"] (spIsList K) := ok_is_list T
  have G_is_positive : FnOk P w K mg base CX0 2 T.is_positive.f T.is_positive.fd ["thing"] (spIsPositive K) := ok_is_positive T
  refine T.checked_heads.F.ok sc_checked_heads (fun vs H Q E h => ?_) (fun cdv A outer s H vs Q E hr h => ?_)
  · obtain ⟨a, b, N, ns, rfl, _⟩ := h
    rfl
  · obtain ⟨a, b, N, ns, rfl, hb, hS, hl, hp, k⟩ := h
    -- slots: 0 names, 1 heads, 2 index, 3 many
    refine ⟨_, (pss_cons (ps_if (pt_not (pt_val (pe_call G_is_list (hr.mono (by decide)) rfl T.is_list.mgx T.is_list.F.kp T.is_list.b .nil pass0 (pa_cons (pv 1) pa_nil)))) (pss_one ps_never) pss_nil)
    (pss_cons (ps_for PassesOwn.never rfl (pi_enumA (by rfl) T.n_enumerate (pa_cons (pv 1) pa_nil)) (pg_tup rfl (pgs_cons (pg_name (i := 2) sc_checked_heads.nd rfl (Or.inl rfl)) (pgs_cons (pg_name (i := 3) sc_checked_heads.nd rfl (Or.inl rfl)) pgs_nil)))
      (pss_one (ps_if (PW.pt (pw_or (pt_cmpR op_ge (pv 2) (pe_callB call_len_seq (by rfl) T.n_len (by decide +kernel) (pa_cons (pv 0) pa_nil)) (nomark _)) (pw_or1 (pt_not (pt_val (pe_call G_is_positive (hr.mono (by decide)) rfl T.is_positive.mgx T.is_positive.F.kp T.is_positive.b .nil pass0 (pa_cons (pv 3) pa_nil))))))) (pss_one ps_never) pss_nil)))
    (pss_cons (ps_if (pt_cmpR op_lt (pe_callB call_len_seq (by rfl) T.n_len (by decide +kernel) (pa_cons (pv 1) pa_nil)) (pe_callB call_len_seq (by rfl) T.n_len (by decide +kernel) (pa_cons (pv 0) pa_nil)) (nomark _)) (pss_one ps_never) pss_nil)
    (pss_one (ps_ret (pe_callTy call_tuple_of (by rfl) T.n_tuple (by decide +kernel) (pa_cons (pv 1) pa_nil))))))), ?_⟩
    obtain ⟨n, ty, en⟩ := hS.ty (K := K)
    refine ⟨_, rfl, _, n, rfl, ty, fun H1 s1 => ⟨_, rfl, ?_⟩⟩
    rw [en]
    refine iteF ?_
    obtain ⟨kk, sq⟩ := hS.sq (K := K)
    refine ⟨_, rfl, a, kk, rfl, ⟨_, sq H1 s1⟩, ?_⟩
    refine for_it walk_enumA (fun i σ H' => Same H H' ∧ ∃ u v, σ = [some (.ref b), some (.ref a), u, v]) ⟨s1, none, none, rfl⟩ (fun i σ H' _ p => sq H' p.1) ?_ ?_
    · rintro i x σ H' H2 hi ⟨s2, u, v, rfl⟩ ⟨t, x1, x2, rfl, ht, rfl, e1, e2⟩
      obtain rfl : V.int (i : Nat) = x1 := Option.some.inj e1
      obtain ⟨m, hm, rfl⟩ : ∃ m, ns[i]? = some m ∧ V.int m = x2 := map_at e2
      have hi' : i < ns.length := (List.getElem?_eq_some_iff.mp hm).1
      have s3 : Same H (upd H' t (.tup [.int (i : Nat), .int m])) := s2.trans (same_new ht)
      refine ⟨t, _, rfl, SqT.of upd_same, rfl, _, _, rfl, _, _, rfl, rfl, ?_⟩
      refine ⟨_, rfl, _, rfl, b, _, rfl, .inr (SqT.of (s3 _ _ hb)), _, _, rfl, rfl, false, ?_, iteF ?_⟩
      · refine congrArg V.bl (decide_eq_false fun z => ?_)
        rw [List.length_map] at z
        omega
      · refine ⟨_, rfl, _, _, rfl, NumV.int m, _, rfl, ?_⟩
        rw [show posB (some m) = true from decide_eq_true (hp m (List.mem_of_getElem? hm))]
        exact iteF ⟨s3, _, _, rfl⟩
    · rintro σ H' ⟨s2, u, v, rfl⟩
      refine ⟨_, rfl, a, _, rfl, (hS.same s2).or, _, rfl, b, _, rfl, .inr (SqT.of (s2 _ _ hb)), _, _, rfl, rfl, false, ?_, iteF ?_⟩
      · refine congrArg V.bl (decide_eq_false fun z => ?_)
        rw [List.length_map, List.length_map] at z
        omega
      · refine ⟨_, rfl, a, ns.map V.int, rfl, ?_⟩
        rcases hS.same s2 with z | z
        · exact .inl ⟨SqL.of z, fun l hl => k l _ (same_mut s2 (s2.free hl)) upd_same⟩
        · exact .inr ⟨SqT.of z, k a _ s2 z⟩
end
end K80
namespace K80
open PySem PySem.Spec PyProof.Rows L2
/-! ### dicts by a function over their keys -/
def dOf (N : List Str) (f : Str → V) : List (Key × V) := N.map fun n => (Sum.inr n, f n)
theorem dOf_len (N : List Str) (f : Str → V) : (dOf N f).length = N.length := List.length_map _
theorem dOf_cons {n : Str} {r : List Str} {f : Str → V} : dOf (n :: r) f = (Sum.inr n, f n) :: dOf r f := rfl
theorem val_dOf {f : Str → V} {n : Str} : ∀ {N : List Str}, n ∈ N → valV (dOf N f) (Sum.inr n) = some (f n)
  | m :: r, h => by
    rw [dOf_cons]
    by_cases e : m = n
    · subst e
      rw [valV_pos rfl]
    · rw [valV_neg (fun z => e (Sum.inr.inj z))]
      exact val_dOf ((List.mem_cons.mp h).resolve_left fun z => e z.symm)
theorem val_dOf_no {f : Str → V} {n : Str} : ∀ {N : List Str}, ¬ n ∈ N → valV (dOf N f) (Sum.inr n) = none
  | [], _ => rfl
  | m :: r, h => by
    rw [dOf_cons, valV_neg (fun z => h (List.mem_cons.mpr (.inl (Sum.inr.inj z).symm)))]
    exact val_dOf_no fun z => h (List.mem_cons.mpr (.inr z))
theorem isSome_dOf {f : Str → V} {n : Str} {N : List Str} : (valV (dOf N f) (Sum.inr n)).isSome = decide (n ∈ N) := by
  by_cases h : n ∈ N
  · rw [val_dOf h, decide_eq_true h] <;> rfl
  · rw [val_dOf_no h, decide_eq_false h] <;> rfl
theorem take_snoc {α : Type} {l : List α} {i : Nat} {x : α} (h : l[i]? = some x) : l.take (i + 1) = l.take i ++ [x] := by
  obtain ⟨hi, e⟩ := List.getElem?_eq_some_iff.mp h
  rw [List.take_succ, h] <;> rfl
theorem not_in_take {N : List Str} {i : Nat} {n : Str} (nd : N.Nodup) (h : N[i]? = some n) : ¬ n ∈ N.take i := fun z => by
  obtain ⟨j, hj, ej⟩ := List.mem_iff_getElem.mp z
  rw [List.length_take] at hj
  rw [List.getElem_take] at ej
  have : j = i := nd_ix nd (List.getElem?_eq_some_iff.mpr ⟨by omega, ej⟩) h
  omega
theorem put_dOf_next {N : List Str} {f : Str → V} {i : Nat} {n : Str} (nd : N.Nodup) (h : N[i]? = some n) : putK (dOf (N.take i) f) (Sum.inr n) (f n) = dOf (N.take (i + 1)) f := by
  rw [putK_new _ (val_dOf_no (not_in_take nd h)), take_snoc h]
  unfold dOf
  rw [List.map_append] <;> rfl
theorem dOf_congr {N : List Str} {f g : Str → V} (h : ∀ n ∈ N, f n = g n) : dOf N f = dOf N g := List.map_congr_left fun n hn => by rw [h n hn]
theorem put_dOf {f : Str → V} {n : Str} {v : V} {N : List Str} (h : n ∈ N) : putK (dOf N f) (Sum.inr n) v = dOf N fun m => if m = n then v else f m := by
  have any : ((dOf N f).any fun kv => decide (kv.1 = (Sum.inr n : Key))) = true := by rw [valV_any, val_dOf h] <;> rfl
  unfold putK
  rw [if_pos any]
  unfold dOf
  rw [List.map_map]
  refine List.map_congr_left fun m _ => ?_
  show (if (Sum.inr m : Key) = Sum.inr n then (_, v) else (Sum.inr m, f m)) = (Sum.inr m, if m = n then v else f m)
  by_cases e : m = n
  · subst e
    rw [if_pos rfl, if_pos rfl]
  · rw [if_neg (fun z => e (Sum.inr.inj z)), if_neg e]
theorem map_strs_at {N : List Str} {i : Nat} {x : V} (h : (N.map V.str)[i]? = some x) : ∃ n, N[i]? = some n ∧ x = .str n := by
  obtain ⟨n, h1, h2⟩ := map_at h
  exact ⟨n, h1, h2.symm⟩
/-! ### comprehensions whose parts leave what is known -/
section
variable {J : It} {G : Hp → Prop} {H1 : Hp} {D : Addr} {Qd : Hp → Prop} {σ : L2.St} {vs : List Nat} {j : Nat} {te tv : TE} {tt : TT}
/-- {n: f(n) for n in names} -/
theorem dcN {N : List Str} (w : Walk J N.length G (YAt (N.map V.str))) (nd : N.Nodup) (f : Str → V) (hD : H1 D = none) (hz : N.length ≤ 100000) (hG : ∀ H', Same H1 H' → G H') (hw : ∀ x, wipe ((wipe σ vs).set j (some x)) vs = wipe σ vs) (hj : j < σ.length)
    (hv : ∀ n H' (Q : VK), n ∈ N → Same H1 H' → (∀ H2, Same H' H2 → Q (f n) H2) → tv ((wipe σ vs).set j (some (.str n))) H' Q) (k : ∀ H', Same H1 H' → H' D = some (.dK (dOf N f)) → Qd H') :
    ∃ W : Nat → Nat → Hp → Prop, (∃ m, W 0 m (upd H1 D (.dK []))) ∧ ∀ i m H, W i m H → (J.stop i H ∧ Qd H) ∨ (J.go i H ∧ ∃ Nx : Hp → Prop, (∀ H', Nx H' → ∃ m', m' < m ∧ W (i + 1) m' H') ∧
      ∀ x H', J.yld i H x H' → gName j x (wipe σ vs) H' fun σ2 H2 => wipe σ2 vs = wipe σ vs ∧ tYes σ2 H2 fun b H3 => if b = true then tVar j σ2 H3 fun y H4 => tv σ2 H4 fun z H5 => ∃ H6, DPut H5 D y z H6 ∧ Nx H6 else Nx H3) := by
  refine dc_it w (fun i H' => Same H1 H' ∧ H' D = some (.dK (dOf (N.take i) f))) ⟨same_new hD, upd_same⟩ (fun i H' _ p => hG H' p.1) ?_ fun H' p => k H' p.1 (by rw [p.2, List.take_length])
  rintro i x H' H2 hi ⟨s1, e1⟩ ⟨rfl, hx⟩
  obtain ⟨n, hn, rfl⟩ := map_strs_at hx
  have hm : n ∈ N := List.mem_of_getElem? hn
  refine ⟨hw _, yes_go ⟨.str n, ?_, ?_⟩⟩
  · rw [List.getElem?_set_self (by rw [wipe_length]; exact hj)]
  refine hv n H2 _ hm s1 fun H3 s3 => ⟨_, .inl ⟨dOf (N.take i) f, Sum.inr n, s3 _ _ e1, rfl, ?_, rfl⟩, same_mut (s1.trans s3) hD, ?_⟩
  · rw [dOf_len, List.length_take]
    exact Nat.lt_of_lt_of_le (show min i N.length < 100001 by omega) (by decide)
  · rw [upd_same, put_dOf_next nd hn]
/-- [f(x) for x in xs if p(x)] -/
theorem lcP {xs : List V} (w : Walk J xs.length G (YAt xs)) (p : V → Bool) (f : V → V) (hD : H1 D = none) (hz : xs.length ≤ 100000) (hG : ∀ H', Same H1 H' → G H') (hw : ∀ x, wipe ((wipe σ vs).set j (some x)) vs = wipe σ vs)
    (ht : ∀ x H' (Q : Bool → Hp → Prop), x ∈ xs → Same H1 H' → (∀ H2, Same H' H2 → Q (p x) H2) → tt ((wipe σ vs).set j (some x)) H' Q)
    (he : ∀ x H' (Q : VK), x ∈ xs → p x = true → Same H1 H' → (∀ H2, Same H' H2 → Q (f x) H2) → te ((wipe σ vs).set j (some x)) H' Q) (k : ∀ H', Same H1 H' → H' D = some (.lst ((xs.filter p).map f)) → Qd H') :
    ∃ W : Nat → Nat → Hp → Prop, (∃ m, W 0 m (upd H1 D (.lst []))) ∧ ∀ i m H, W i m H → (J.stop i H ∧ Qd H) ∨ (J.go i H ∧ ∃ Nx : Hp → Prop, (∀ H', Nx H' → ∃ m', m' < m ∧ W (i + 1) m' H') ∧
      ∀ x H', J.yld i H x H' → gName j x (wipe σ vs) H' fun σ2 H2 => wipe σ2 vs = wipe σ vs ∧ tt σ2 H2 fun b H3 => if b = true then te σ2 H3 fun y H4 => ∃ acc, H4 D = some (.lst acc) ∧ acc.length < sizeLine ∧ Nx (upd H4 D (.lst (acc ++ [y]))) else Nx H3) := by
  refine lc_it w (fun i H' => Same H1 H' ∧ H' D = some (.lst (((xs.take i).filter p).map f))) ⟨same_new hD, upd_same⟩ (fun i H' _ p => hG H' p.1) ?_ fun H' q => k H' q.1 (by rw [q.2, List.take_length])
  rintro i x H' H2 hi ⟨s1, e1⟩ ⟨rfl, hx⟩
  have hm : x ∈ xs := List.mem_of_getElem? hx
  refine ⟨hw _, ht x H2 _ hm s1 fun H3 s3 => ?_⟩
  cases hp : p x with
  | true =>
    show te _ H3 _
    refine he x H3 _ hm hp (s1.trans s3) fun H4 s4 => ⟨_, s4 _ _ (s3 _ _ e1), ?_, same_mut ((s1.trans s3).trans s4) hD, ?_⟩
    · rw [List.length_map]
      have := List.length_filter_le p (xs.take i)
      rw [List.length_take] at this
      exact Nat.lt_of_lt_of_le (show _ < 100001 by omega) (by decide)
    · rw [upd_same, take_snoc hx, List.filter_append, List.map_append, List.filter_cons, if_pos hp] <;> rfl
  | false =>
    show _ ∧ _
    refine ⟨s1.trans s3, ?_⟩
    rw [s3 _ _ e1, take_snoc hx, List.filter_append, List.map_append, List.filter_cons, if_neg (by rw [hp]; decide)]
    show _ = some (HO.lst (_ ++ []))
    rw [List.append_nil]
end
/-! ### pairs -/
abbrev Rd2 := Str × Str
def PairsAt (H : Hp) : List Addr → List Rd2 → Prop := Paired fun r ab => H r = some (.tup [.str ab.1, .str ab.2])
theorem paired_same {α β : Type} {F G : α → β → Prop} (h : ∀ a b, F a b → G a b) : ∀ {xs : List α} {ys : List β}, Paired F xs ys → Paired G xs ys
  | _, _, .nil => .nil
  | _, _, .cons r t => .cons (h _ _ r) (paired_same h t)
theorem paired_snoc {α β : Type} {F : α → β → Prop} {a : α} {b : β} (r : F a b) : ∀ {xs : List α} {ys : List β}, Paired F xs ys → Paired F (xs ++ [a]) (ys ++ [b])
  | _, _, .nil => .cons r .nil
  | _, _, .cons q t => .cons q (paired_snoc r t)
theorem PairsAt.same {H H' : Hp} {rs : List Addr} {R : List Rd2} (e : Same H H') (h : PairsAt H rs R) : PairsAt H' rs R := paired_same (fun _ _ z => e _ _ z) h
/-- pairs as they may be passed: a list or a tuple of lists or tuples -/
def RoadsIn (H : Hp) (a : Addr) (R : List Rd2) : Prop := ∃ us : List Addr, Seq H a (us.map V.ref) ∧ Paired (fun u ab => Seq H u [.str ab.1, .str ab.2]) us R
theorem RoadsIn.same {H H' : Hp} {a : Addr} {R : List Rd2} (e : Same H H') (h : RoadsIn H a R) : RoadsIn H' a R := let ⟨us, h1, h2⟩ := h; ⟨us, h1.same e, paired_same (fun _ _ z => Seq.same e z) h2⟩
/-! ### roads without rings: the first house of each lot, road by road -/
def repStep (rep : Str → Str) (ab : Rd2) : Str → Str := fun n => if rep n = rep ab.2 then rep ab.1 else rep n
def repAll (rep : Str → Str) (R : List Rd2) : Str → Str := R.foldl repStep rep
def RepOk : (Str → Str) → List Rd2 → Prop
  | _, [] => True
  | rep, ab :: r => rep ab.1 ≠ rep ab.2 ∧ RepOk (repStep rep ab) r
theorem RepOk.at : ∀ {R : List Rd2} {rep : Str → Str} {i : Nat} {ab : Rd2}, RepOk rep R → R[i]? = some ab → repAll rep (R.take i) ab.1 ≠ repAll rep (R.take i) ab.2
  | x :: r, rep, 0, ab, h, e => by
    cases e
    exact h.1
  | x :: r, rep, i + 1, ab, h, e => RepOk.at (R := r) (rep := repStep rep x) (i := i) h.2 (by simpa using e)
theorem repAll_snoc {rep : Str → Str} {R : List Rd2} {i : Nat} {ab : Rd2} (h : R[i]? = some ab) : repAll rep (R.take (i + 1)) = repStep (repAll rep (R.take i)) ab := by
  unfold repAll
  rw [take_snoc h, List.foldl_append] <;> rfl
end K80
namespace K80
open PySem PySem.Spec PyProof.Rows L2
theorem set_look {σ : L2.St} {j : Nat} {x : V} (h : j < σ.length) : (σ.set j (some x))[j]? = some (some x) := List.getElem?_set_self h
theorem walk_tupN {K : PySem.W.Frag} {a : Addr} {N : List Str} : Walk (Itt K a) N.length (fun H => SqT K H a (N.map V.str)) (YAt (N.map V.str)) := by
  have h := walk_tup (K := K) (a := a) (xs := N.map V.str)
  rw [List.length_map] at h
  exact h
theorem dget_dOf {H : Hp} {a : Addr} {N : List Str} {f : Str → V} {n : Str} (hd : H a = some (.dK (dOf N f))) (h : n ∈ N) : DGet H a (.str n) (some (f n)) := by
  rw [← val_dOf h]
  exact DGet.k (k := Sum.inr n) hd
/-! ### the roads of a valley -/
def spCheckedRoads : Sp := fun vs H Q _ => ∃ (b a : Addr) (N : List Str) (R : List Rd2), vs = [.ref b, .ref a] ∧ H b = some (.tup (N.map V.str)) ∧ RoadsIn H a R ∧ N.Nodup ∧ N.length ≤ 1000 ∧ R.length + 1 = N.length ∧ (∀ ab ∈ R, ab.1 ∈ N ∧ ab.2 ∈ N) ∧ RepOk id R ∧
  ∀ (p : Addr) (rs : List Addr) (H' : Hp), Same H H' → H' p = some (.tup (rs.map V.ref)) → PairsAt H' rs R → Q (.ref p) H'
/-- an item of a pair -/
theorem ix_pair {K : PySem.W.Frag} {H : Hp} {u : Addr} {x y : V} {Q : VK} (h : Seq H u [x, y]) {i : Int} {z : V} (hi : (i = 0 ∧ z = x) ∨ (i = 1 ∧ z = y)) (q : Q z H) : rIx K (.ref u) (.int i) H Q := by
  have at_ : atI [x, y] i = some z := by
    rcases hi with ⟨rfl, rfl⟩ | ⟨rfl, rfl⟩
    · exact atI_nat (j := 0) rfl
    · exact atI_nat (j := 1) rfl
  rcases h with h | h
  · exact .inl ⟨u, _, _, _, rfl, rfl, SqL.of h, at_, q⟩
  · exact .inr (.inl ⟨u, _, _, _, rfl, rfl, SqT.of h, at_, q⟩)
section
variable {P : Program} {w : World} {K : PySem.W.Frag} {mg : Str → Option Value} {base : Heap}
theorem ok_checked_roads (T : Txt K mg) : FnOk P w K mg base CX0 2 T.checked_roads.f T.checked_roads.fd ["names", "roads"] spCheckedRoads := by
  have G_is_list : FnOk P w K mg base CX0 1 T.is_list.f T.is_list.fd ["thing"] (spIsList K) := ok_is_list T
  have G_is_among : FnOk P w K mg base CX0 1 T.is_among.f T.is_among.fd ["known", "thing"] (spIsAmong K) := ok_is_among T
  refine T.checked_roads.F.ok sc_checked_roads (fun vs H Q E h => ?_) (fun cdv A outer s H vs Q E hr h => ?_)
  · obtain ⟨b, a, N, R, rfl, _⟩ := h
    rfl
  · obtain ⟨b, a, N, R, rfl, hb, hR, nd, hz, hl, hin, hrep, k⟩ := h
    -- slots: 0 names, 1 roads, 2 lots*, 3 found, 4 index, 5 road, 6 one*, 7 other*, 8 name
    refine ⟨_, (pss_cons (ps_if (pt_not (pt_val (pe_call G_is_list (hr.mono (by decide)) rfl T.is_list.mgx T.is_list.F.kp T.is_list.b .nil pass0 (pa_cons (pv 1) pa_nil)))) (pss_one ps_never) pss_nil)
    (pss_cons (ps_asg (pe_tup (pa_cons (pe_dcA (own := [("name", 8)]) (g := gName 8) (tt := tYes) (o0 := .dK []) (.inl rfl) (hu_of hr) rfl sc_checked_roads.nd (pi_tup (pv 0)) (blkOk_by (N := N_checked_roads) (own := [("name", 8)]) (sc := defScope s_checked_roads) (by decide +kernel)) (fun _ _ _ _ _ => (pg_name (i := 8) sc_checked_roads.nd rfl (Or.inl rfl))) (fun _ _ _ _ _ => pts_nil) (fun _ _ _ _ _ => (pv 8)) (fun _ _ _ _ _ => (pv 8))) (pa_cons (pe_lst pa_nil) pa_nil))) (pg_tup rfl (pgs_cons (pg_name (i := 2) sc_checked_roads.nd rfl (Or.inr rfl)) (pgs_cons (pg_name (i := 3) sc_checked_roads.nd rfl (Or.inl rfl)) pgs_nil))))
    (pss_cons (ps_for PassesOwn.never rfl (pi_enumA (by rfl) T.n_enumerate (pa_cons (pv 1) pa_nil)) (pg_tup rfl (pgs_cons (pg_name (i := 4) sc_checked_roads.nd rfl (Or.inl rfl)) (pgs_cons (pg_name (i := 5) sc_checked_roads.nd rfl (Or.inl rfl)) pgs_nil)))
      (pss_cons (ps_if (PW.pt (pw_or (pt_not (pt_val (pe_call G_is_list (hr.mono (by decide)) rfl T.is_list.mgx T.is_list.F.kp T.is_list.b .nil pass0 (pa_cons (pv 5) pa_nil)))) (pw_or (pt_cmpR op_ne (pe_callB call_len_seq (by rfl) T.n_len (by decide +kernel) (pa_cons (pv 5) pa_nil)) pe_int (nomark _)) (pw_or1 (pt_not (pt_val (pe_callB (cr_all rfl) (by rfl) T.n_all (by decide +kernel) (pa_cons (pe_lc (own := [("name", 8)]) (g := gName 8) (tt := tYes) rfl sc_checked_roads.nd (pi_seq (pv 5)) (blkOk_by (N := N_checked_roads) (own := [("name", 8)]) (sc := defScope s_checked_roads) (by decide +kernel)) (fun _ _ _ _ _ => (pg_name (i := 8) sc_checked_roads.nd rfl (Or.inl rfl))) (fun _ _ _ _ _ => pts_nil) (fun _ _ _ _ _ => (pe_call G_is_among (hr.mono (by decide)) rfl T.is_among.mgx T.is_among.F.kp T.is_among.b .nil pass0 (pa_cons (pv 2) (pa_cons (pv 8) pa_nil))))) pa_nil)))))))) (pss_one ps_never) pss_nil)
    (pss_cons (ps_asg (pe_tup (pa_cons (pe_dget (hu_of hr) (pv 2) (pe_ix ix_seq (pv 5) pe_int (fun _ _ => rfl)) (fun _ _ => rfl)) (pa_cons (pe_dget (hu_of hr) (pv 2) (pe_ix ix_seq (pv 5) pe_int (fun _ _ => rfl)) (fun _ _ => rfl)) pa_nil))) (pg_tup rfl (pgs_cons (pg_name (i := 6) sc_checked_roads.nd rfl (Or.inr rfl)) (pgs_cons (pg_name (i := 7) sc_checked_roads.nd rfl (Or.inr rfl)) pgs_nil))))
    (pss_cons (ps_if (pt_cmpR op_eq (pv 6) (pv 7) (nomark _)) (pss_one ps_never) pss_nil)
    (pss_cons (ps_set (i := 2) sc_checked_roads.nd rfl (Or.inr rfl) (pe_dcA (own := [("name", 8)]) (g := gName 8) (tt := tYes) (o0 := .dK []) (.inl rfl) (hu_of hr) rfl sc_checked_roads.nd (pi_tup (pv 0)) (blkOk_by (N := N_checked_roads) (own := [("name", 8)]) (sc := defScope s_checked_roads) (by decide +kernel)) (fun _ _ _ _ _ => (pg_name (i := 8) sc_checked_roads.nd rfl (Or.inl rfl))) (fun _ _ _ _ _ => pts_nil) (fun _ _ _ _ _ => (pv 8)) (fun _ _ _ _ _ => (pe_ifExp (pt_cmpR op_eq (pe_dget (hu_of hr) (pv 2) (pv 8) (fun _ _ => rfl)) (pv 7) (nomark _)) (pv 6) (pe_dget (hu_of hr) (pv 2) (pv 8) (fun _ _ => rfl))))))
    (pss_one (ps_expr (pe_bm PySem.F.plainAttrs_list PySem.F.slot_list_append PySem.F.type_list_append mt_append (pv 3) (pa_cons (pe_tup (pa_cons (pe_ix ix_seq (pv 5) pe_int (fun _ _ => rfl)) (pa_cons (pe_ix ix_seq (pv 5) pe_int (fun _ _ => rfl)) pa_nil))) pa_nil)))))))))
    (pss_cons (ps_if (pt_cmpR op_lt (pe_callB call_len_seq (by rfl) T.n_len (by decide +kernel) (pa_cons (pv 3) pa_nil)) (pe_op op_sub (pe_callB call_len_seq (by rfl) T.n_len (by decide +kernel) (pa_cons (pv 0) pa_nil)) pe_int) (nomark _)) (pss_one ps_never) pss_nil)
    (pss_one (ps_ret (pe_callTy call_tuple_of (by rfl) T.n_tuple (by decide +kernel) (pa_cons (pv 3) pa_nil)))))))), ?_⟩
    obtain ⟨us, hS, hP⟩ := hR
    obtain ⟨n, ty, en⟩ := hS.ty (K := K)
    have ul : us.length = R.length := Paired.length hP
    refine ⟨_, rfl, _, n, rfl, ty, fun H1 s1 => ⟨_, rfl, ?_⟩⟩
    rw [en]
    refine iteF ?_
    refine ⟨_, rfl, b, rfl, ⟨_, SqT.of (s1 _ _ hb)⟩, fun D hD => ?_⟩
    refine dcN walk_tupN nd V.str hD (by omega) (fun H' e => SqT.of (e _ _ (s1 _ _ hb))) (fun _ => rfl) (by exact (by decide : 8 < 9)) (fun m H' Q _ _ q => ⟨_, rfl, q _ (Same.refl _)⟩) fun H2 s2 e2 => ?_
    refine ⟨(by decide), fun l hl => ⟨(show 2 ≤ sizeLine by decide), fun p hp => ⟨p, _, rfl, SqT.of upd_same, rfl, _, _, rfl, _, _, rfl, rfl, ?_⟩⟩⟩
    have s3 : Same H (upd (upd H2 l (.lst [])) p (.tup [.ref D, .ref l])) := ((s1.trans s2).trans (same_new hl)).trans (same_new hp)
    have dl : D ≠ l := ne_of_none e2 hl
    obtain ⟨kk, sq⟩ := hS.sq (K := K)
    refine ⟨_, rfl, a, kk, rfl, ⟨_, sq _ s3⟩, ?_⟩
    refine for_it walk_enumA (fun i σ H' => Same H H' ∧ ∃ (dd : Addr) (u v o1 o2 : Option V) (rs : List Addr), σ = [some (.ref b), some (.ref a), some (.ref dd), some (.ref l), u, v, o1, o2, none] ∧
      H' dd = some (.dK (dOf N fun n => .str (repAll id (R.take i) n))) ∧ H' l = some (.lst (rs.map V.ref)) ∧ PairsAt H' rs (R.take i) ∧ H l = none) ?_ (fun i σ H' _ q => sq _ q.1) ?_ ?_
    · refine ⟨s3, D, none, none, none, none, [], rfl, ?_, ?_, .nil, (s1.trans s2).free hl⟩
      · rw [upd_ne (ne_of_none (by rw [upd_ne dl]; exact e2) hp), upd_ne dl, e2] <;> rfl
      · rw [upd_ne (ne_of_none upd_same hp), upd_same] <;> rfl
    · rintro i x σ H' H3 hi ⟨s4, dd, u, v, o1, o2, rs, rfl, hd, hlf, hpr, hln⟩ ⟨t, x1, x2, rfl, ht, rfl, e1, ee2⟩
      obtain rfl : V.int (i : Nat) = x1 := Option.some.inj e1
      obtain ⟨u0, hu0, rfl⟩ := map_at ee2
      have hiR : i < R.length := ul ▸ (List.getElem?_eq_some_iff.mp hu0).1
      obtain ⟨⟨a0, b0⟩, hab⟩ : ∃ ab, R[i]? = some ab := ⟨_, List.getElem?_eq_getElem hiR⟩
      have hpu : Seq H u0 [.str a0, .str b0] := paired_at hP hu0 hab
      obtain ⟨ma, mb⟩ : a0 ∈ N ∧ b0 ∈ N := hin _ (List.mem_of_getElem? hab)
      have hne := hrep.at hab
      have sT : Same H' (upd H' t (.tup [.int (i : Nat), .ref u0])) := same_new ht
      have s5 : Same H (upd H' t (.tup [.int (i : Nat), .ref u0])) := s4.trans sT
      obtain ⟨n2, ty2, en2⟩ := (hpu.same s5).ty (K := K)
      refine ⟨t, _, rfl, SqT.of upd_same, rfl, _, _, rfl, _, _, rfl, rfl, ?_⟩
      -- the test
      refine ⟨_, rfl, _, n2, rfl, ty2, fun H4 s6 => ⟨_, rfl, ?_⟩⟩
      rw [en2]
      refine iteF ?_
      have s7 : Same H H4 := s5.trans s6
      refine ⟨_, rfl, u0, _, rfl, (hpu.same s7).or, rfl, false, rfl, iteF ?_⟩
      obtain ⟨k0, sq0⟩ := (hpu.same s7).sq (K := K)
      refine ⟨_, rfl, u0, k0, rfl, ⟨_, sq0 _ (Same.refl _)⟩, fun D2 hD2 => ?_⟩
      have hd4 : H4 dd = some (.dK (dOf N fun n => .str (repAll id (R.take i) n))) := s6 _ _ (sT _ _ hd)
      refine lcP (xs := [.str a0, .str b0]) walk_sq (fun _ => true) (fun _ => .bl true) hD2 (show 2 ≤ 100000 by decide) (fun H5 e5 => sq0 _ e5) (fun _ => rfl) (fun _ _ _ _ _ q => q _ (Same.refl _)) (fun y H5 Q5 hy _ e5 q => ?_) fun H5 e5 h5 => ?_
      · have hyN : ∃ z, y = .str z ∧ z ∈ N := by
          rcases List.mem_cons.mp hy with rfl | hy
          · exact ⟨_, rfl, ma⟩
          · rw [List.mem_singleton.mp hy]
            exact ⟨_, rfl, mb⟩
        obtain ⟨z, rfl, hz2⟩ := hyN
        refine ⟨_, rfl, _, rfl, dd, _, _, rfl, e5 _ _ hd4, .inl ⟨z, rfl, ?_⟩⟩
        rw [isSome_dOf, decide_eq_true hz2]
        exact q _ (Same.refl _)
      refine ⟨D2, [true, true], rfl, SqL.of h5, ⟨true, rfl, iteF ?_⟩⟩
      have s8 : Same H H5 := s7.trans e5
      have hd5 : H5 dd = some (.dK (dOf N fun n => .str (repAll id (R.take i) n))) := e5 _ _ hd4
      have p5 : Seq H5 u0 [.str a0, .str b0] := hpu.same s8
      -- one, other = lots[road[0]], lots[road[1]]
      refine ⟨_, rfl, _, rfl, ix_pair p5 (.inl ⟨rfl, rfl⟩) ⟨dd, _, rfl, dget_dOf hd5 ma, _, rfl, _, rfl, ix_pair p5 (.inr ⟨rfl, rfl⟩) ⟨dd, _, rfl, dget_dOf hd5 mb, (show 2 ≤ sizeLine by decide), fun t2 ht2 => ?_⟩⟩⟩
      refine ⟨t2, _, rfl, SqT.of upd_same, rfl, _, _, rfl, _, _, rfl, rfl, ?_⟩
      refine ⟨_, rfl, _, rfl, rfl, false, ?_, iteF ?_⟩
      · exact congrArg V.bl (decide_eq_false fun z => hne (V.str.inj z))
      have sT2 : Same H5 (upd H5 t2 (.tup [.str (repAll id (R.take i) a0), .str (repAll id (R.take i) b0)])) := same_new ht2
      generalize upd H5 t2 (.tup [.str (repAll id (R.take i) a0), .str (repAll id (R.take i) b0)]) = H6 at sT2
      have s9 : Same H H6 := s8.trans sT2
      have hd6 := sT2 _ _ hd5
      -- lots = {..}
      refine ⟨_, rfl, b, rfl, ⟨_, SqT.of (s9 _ _ hb)⟩, fun D3 hD3 => ?_⟩
      refine dcN walk_tupN nd (fun n => .str (repAll id (R.take (i + 1)) n)) hD3 (by omega) (fun H7 e7 => SqT.of (e7 _ _ (s9 _ _ hb))) (fun _ => rfl) (by exact (by decide : 8 < 9)) (fun m H7 Q7 hm e7 q => ?_) fun H7 e7 h7 => ?_
      · have hd7 := e7 _ _ hd6
        refine ⟨_, rfl, _, rfl, dd, _, rfl, dget_dOf hd7 hm, _, rfl, rfl, _, rfl, ?_⟩
        rw [repAll_snoc hab] at q
        refine ite2 (fun c => ?_) fun c => ?_
        · have c' := V.str.inj (of_decide_eq_true c)
          have e8 : repStep (repAll id (R.take i)) (a0, b0) m = repAll id (R.take i) a0 := if_pos c'
          rw [e8] at q
          exact ⟨_, rfl, q _ (Same.refl _)⟩
        · have c' : ¬ repAll id (R.take i) m = repAll id (R.take i) b0 := fun z => c (decide_eq_true (congrArg V.str z))
          have e8 : repStep (repAll id (R.take i)) (a0, b0) m = repAll id (R.take i) m := if_neg c'
          rw [e8] at q
          exact ⟨_, rfl, _, rfl, dd, _, rfl, dget_dOf hd7 hm, q _ (Same.refl _)⟩
      have s10 : Same H H7 := s9.trans e7
      have p7 : Seq H7 u0 [.str a0, .str b0] := hpu.same s10
      have l7 : H7 l = some (.lst (rs.map V.ref)) := e7 _ _ (sT2 _ _ (e5 _ _ (s6 _ _ (sT _ _ hlf))))
      have r7 : PairsAt H7 rs (R.take i) := PairsAt.same (((((sT.trans s6).trans e5).trans sT2).trans e7)) hpr
      -- found.append((road[0], road[1]))
      refine ⟨_, rfl, .inl ⟨rfl, _, SqL.of l7⟩, _, rfl, ix_pair p7 (.inl ⟨rfl, rfl⟩) ⟨_, rfl, ix_pair p7 (.inr ⟨rfl, rfl⟩) ⟨(show 2 ≤ sizeLine by decide), fun t3 ht3 => ?_⟩⟩⟩
      have lt3 : l ≠ t3 := ne_of_none l7 ht3
      have rl : rs.length = (R.take i).length := Paired.length hpr
      rw [List.length_take] at rl
      refine ⟨l, _, _, rfl, rfl, (by rw [upd_ne lt3]; exact l7), ?_, ?_⟩
      · rw [List.length_map]
        exact Nat.lt_of_lt_of_le (show _ < 1001 by omega) (by decide)
      have sN : ∀ c o, H7 c = some o → c ≠ l → upd (upd H7 t3 (.tup [.str a0, .str b0])) l (.lst (rs.map V.ref ++ [.ref t3])) c = some o := fun c o e n => by
        rw [upd_ne n, upd_ne (ne_of_none e ht3)]
        exact e
      refine ⟨fun c o e => sN c o (s10 _ _ e) (ne_of_none e hln), D3, _, _, _, _, rs ++ [t3], rfl, ?_, ?_, ?_, hln⟩
      · exact sN _ _ h7 (ne_of h7 l7 (fun z => nomatch z))
      · rw [upd_same, List.map_append] <;> rfl
      · rw [take_snoc hab]
        refine paired_snoc ?_ (paired_same (fun c ab z => ?_) r7)
        · rw [upd_ne (Ne.symm lt3)]
          exact upd_same
        · exact sN _ _ z (ne_of z l7 (fun z => nomatch z))
    · rintro σ H' ⟨s4, dd, u, v, o1, o2, rs, rfl, hd, hlf, hpr, hln⟩
      rw [List.length_map, ul, List.take_length] at hpr
      have rl : rs.length = R.length := Paired.length hpr
      refine ⟨_, rfl, l, _, rfl, .inl (SqL.of hlf), _, rfl, b, _, rfl, .inr (SqT.of (s4 _ _ hb)), _, _, rfl, rfl, _, _, rfl, rfl, false, ?_, iteF ?_⟩
      · refine congrArg V.bl (decide_eq_false fun z => ?_)
        rw [List.length_map, List.length_map] at z
        omega
      · exact ⟨_, rfl, l, _, rfl, .inl ⟨SqL.of hlf, fun p hp => k p rs _ (same_mut s4 (s4.free hp)) upd_same (PairsAt.same (same_new hp) hpr)⟩⟩
end
end K80
set_option maxHeartbeats 8000000
namespace K80
open PySem PySem.Spec PyProof.Rows L2
/-! ### rules told with the written part's name, for a comprehension's elements -/
section
variable {X : Cx} {K : PySem.W.Frag}
theorem pe_fldK {o : Expr} {f : Str} {pos : Pos} {ta : TE} (h : X.K = K) (ho : PE X o ta) (hb : attributeBase o f X.env (eval o X.env) = eval o X.env) : PE X (.Attribute o f pos) (tFld K ta f) := by
  subst h
  exact pe_fld ho hb
theorem ix_listK (h : X.K = K) : IxR X (rIxL K) := by
  subst h
  exact ix_list
theorem ix_tupK (h : X.K = K) : IxR X (rIxT K) := by
  subst h
  exact ix_tup
theorem ix_seqK (h : X.K = K) : IxR X (rIx K) := by
  subst h
  exact ix_seq
theorem op_in_seqK (h : X.K = K) : OpR X (compareOp .In) (rIn K false) := by
  subst h
  exact op_in_seq
theorem call_list_ofK (h : X.K = K) : CallR X (.type "list") (fun xs H Q => ∃ p ys, xs = [.ref p] ∧ (SqL K H p ys ∨ SqT K H p ys) ∧ ∀ l, H l = none → Q (.ref l) (upd H l (.lst ys))) := by
  subst h
  exact call_list_of
end
/-! ### a valley as it stands -/
/-- all but v is as it was -/
def But (v : Addr) (H H' : Hp) : Prop := ∀ b o, H b = some o → b ≠ v → H' b = some o
theorem But.same {v : Addr} {H H1 H2 : Hp} (a : But v H H1) (b : Same H1 H2) : But v H H2 := fun c o e n => b c o (a c o e n)
theorem But.put {v : Addr} {H H1 : Hp} {o : HO} (a : But v H H1) : But v H (upd H1 v o) := fun c u e n => by
  rw [upd_ne n]
  exact a c u e n
theorem But.free {v : Addr} {H H1 : Hp} (a : But v H H1) {l : Addr} (h : H1 l = none) (n : l ≠ v) : H l = none := by
  cases q : H l with
  | none => rfl
  | some o =>
    have z := a l o q n
    rw [h] at z
    cases z
def keyP (a b : Str) : List Key := [Sum.inr a, Sum.inr b]
/-- the places of the roads, either way round -/
def PlaceOk (pl : List (List Key × V)) (R : List Rd2) : Prop := ∀ a b : Str, (∀ i : Nat, R[i]? = some (a, b) ∨ R[i]? = some (b, a) → valV pl (keyP a b) = some (.int (i : Nat))) ∧
  ((∀ i : Nat, R[i]? ≠ some (a, b) ∧ R[i]? ≠ some (b, a)) → valV pl (keyP a b) = none)
/-- .. of the first i roads -/
def PlaceTo (pl : List (List Key × V)) (R : List Rd2) (n : Nat) : Prop := ∀ a b : Str, (∀ i : Nat, i < n → R[i]? = some (a, b) ∨ R[i]? = some (b, a) → valV pl (keyP a b) = some (.int (i : Nat))) ∧
  ((∀ i : Nat, i < n → R[i]? ≠ some (a, b) ∧ R[i]? ≠ some (b, a)) → valV pl (keyP a b) = none)
/-- each road once -/
def UniqR (R : List Rd2) : Prop := ∀ (i j : Nat) (a b : Str), R[i]? = some (a, b) → (R[j]? = some (a, b) ∨ R[j]? = some (b, a)) → i = j
theorem keyP_inj {a b x y : Str} (h : keyP a b = keyP x y) : a = x ∧ b = y := by
  unfold keyP at h
  injection h with h1 h2
  injection h2 with h3 _
  exact ⟨Sum.inr.inj h1, Sum.inr.inj h3⟩
theorem place_step {pl : List (List Key × V)} {R : List Rd2} {n : Nat} {x y : Str} (h : PlaceTo pl R n) (u : UniqR R) (e : R[n]? = some (x, y)) : PlaceTo (putK (putK pl (keyP x y) (.int (n : Nat))) (keyP y x) (.int (n : Nat))) R (n + 1) := by
  intro a b
  obtain ⟨h1, h2⟩ := h a b
  rw [valV_put, valV_put]
  refine ⟨fun i hi hr => ?_, fun hn => ?_⟩
  · by_cases c : i = n
    · subst c
      rw [e] at hr
      rcases hr with hr | hr
      · cases hr
        by_cases c2 : keyP x y = keyP y x
        · rw [if_pos c2]
        · rw [if_neg c2, if_pos rfl]
      · cases hr
        rw [if_pos rfl]
    · have li : i < n := by omega
      have n1 : ¬ keyP a b = keyP y x := fun z => by
        obtain ⟨rfl, rfl⟩ := keyP_inj z
        exact c (u n i b a e hr.symm).symm
      have n2 : ¬ keyP a b = keyP x y := fun z => by
        obtain ⟨rfl, rfl⟩ := keyP_inj z
        exact c (u n i a b e hr).symm
      rw [if_neg n1, if_neg n2]
      exact h1 i li hr
  · obtain ⟨q1, q2⟩ := hn n (Nat.lt_succ_self n)
    have n1 : ¬ keyP a b = keyP y x := fun z => by
      obtain ⟨rfl, rfl⟩ := keyP_inj z
      exact q2 e
    have n2 : ¬ keyP a b = keyP x y := fun z => by
      obtain ⟨rfl, rfl⟩ := keyP_inj z
      exact q1 e
    rw [if_neg n1, if_neg n2]
    exact h2 fun i hi => hn i (Nat.lt_succ_of_lt hi)
theorem PlaceTo.ok {pl : List (List Key × V)} {R : List Rd2} (h : PlaceTo pl R R.length) : PlaceOk pl R := fun a b => by
  obtain ⟨h1, h2⟩ := h a b
  have lt : ∀ {i : Nat} {ab : Rd2}, R[i]? = some ab → i < R.length := fun z => (List.getElem?_eq_some_iff.mp z).1
  exact ⟨fun i hr => h1 i (hr.elim lt lt) hr, fun hn => h2 fun i _ => hn i⟩
/-- what stands in a valley's attributes -/
structure ValAt (C : Addr) (H : Hp) (v : Addr) (N : List Str) (R : List Rd2) : Prop where
  ex : ∃ (dx an ar ao ap : Addr) (fs : List (Str × V)) (f : Str → V) (rs : List Addr) (pl : List (List Key × V)), H v = some (.ins C dx fs) ∧
    fs.lookup ("names" : Str) = some (V.ref an) ∧ H an = some (.tup (N.map V.str)) ∧ fs.lookup ("ranks" : Str) = some (V.ref ar) ∧ H ar = some (.dK (dOf N f)) ∧
    fs.lookup ("own_roads" : Str) = some (V.ref ao) ∧ H ao = some (.tup (rs.map V.ref)) ∧ PairsAt H rs R ∧ fs.lookup ("places" : Str) = some (V.ref ap) ∧ H ap = some (.dT pl) ∧ PlaceOk pl R
theorem put_keep {f g : Str} {v x : V} {fs : List (Str × V)} (n : ¬ g = f) (h : fs.lookup g = some x) : (putF f v fs).lookup g = some x := by
  rw [lookup_putF, if_neg n]
  exact h
theorem put_get {f : Str} {v : V} {fs : List (Str × V)} : (putF f v fs).lookup f = some v := by rw [lookup_putF, if_pos rfl]
theorem put_small {f : Str} {v : V} {fs : List (Str × V)} {n : Nat} (h : fs.length ≤ n) : (putF f v fs).length ≤ n + 1 := Nat.le_trans (length_putF f v fs) (Nat.succ_le_succ h)
theorem Seq.but {H H' : Hp} {v C dx a : Addr} {fs : List (Str × V)} {xs : List V} (e : But v H H') (hv : H v = some (.ins C dx fs)) (h : Seq H a xs) : Seq H' a xs :=
  h.elim (fun z => .inl (e _ _ z (ne_of z hv (fun q => nomatch q)))) fun z => .inr (e _ _ z (ne_of z hv (fun q => nomatch q)))
theorem RoadsIn.but {H H' : Hp} {v C dx a : Addr} {fs : List (Str × V)} {R : List Rd2} (e : But v H H') (hv : H v = some (.ins C dx fs)) (h : RoadsIn H a R) : RoadsIn H' a R :=
  let ⟨us, z1, z2⟩ := h
  ⟨us, Seq.but e hv z1, paired_same (fun _ _ z => Seq.but e hv z) z2⟩
theorem PairsAt.but {H H' : Hp} {v C dx : Addr} {fs : List (Str × V)} {rs : List Addr} {R : List Rd2} (e : But v H H') (hv : H v = some (.ins C dx fs)) (h : PairsAt H rs R) : PairsAt H' rs R := by
  refine paired_same (F := fun (r : Addr) (ab : Rd2) => H r = some (.tup [.str ab.1, .str ab.2])) (fun r ab z => e _ _ z (ne_of z hv ?_)) h
  intro q
  cases q
/-- the valley's own dict is a new one -/
def NewRk (C : Addr) (H H' : Hp) (v : Addr) : Prop := ∀ dx fs ar, H' v = some (.ins C dx fs) → fs.lookup ("ranks" : Str) = some (V.ref ar) → H ar = none
def spValley (C : Addr) : Sp := fun vs H Q _ => ∃ (v dx a1 a2 a3 : Addr) (N : List Str) (R : List Rd2) (ns : List Int), vs = [.ref v, .ref a1, .ref a2, .ref a3] ∧ H v = some (.ins C dx []) ∧
  Seq H a1 (N.map V.str) ∧ (∀ n ∈ N, OkName n) ∧ N.Nodup ∧ 1 ≤ N.length ∧ N.length ≤ 1000 ∧ RoadsIn H a2 R ∧ R.length + 1 = N.length ∧ (∀ ab ∈ R, ab.1 ∈ N ∧ ab.2 ∈ N) ∧ RepOk id R ∧ UniqR R ∧
  Seq H a3 (ns.map V.int) ∧ ns.length = N.length ∧ (∀ z ∈ ns, 1 ≤ z) ∧ ∀ H', ValAt C H' v N R → But v H H' → NewRk C H H' v → Q .non H'
section
variable {P : Program} {w : World} {K : PySem.W.Frag} {mg : Str → Option Value} {base : Heap}
theorem ok_Valley (T : Txt K mg) : FnOk P w K mg base CX0 4 T.fI T.fdI ["self", "houses", "roads", "heads"] (spValley T.C) := by
  have G_checked_houses : FnOk P w K mg base CX0 2 T.checked_houses.f T.checked_houses.fd ["houses"] spCheckedHouses := ok_checked_houses T
  have G_checked_roads : FnOk P w K mg base CX0 2 T.checked_roads.f T.checked_roads.fd ["names", "roads"] spCheckedRoads := ok_checked_roads T
  have G_checked_heads : FnOk P w K mg base CX0 3 T.checked_heads.f T.checked_heads.fd ["names", "heads"] spCheckedHeads := ok_checked_heads T
  refine T.FI.ok sc_Valley___init (fun vs H Q E h => ?_) (fun cdv A outer s H vs Q E hr h => ?_)
  · obtain ⟨v, dx, a1, a2, a3, N, R, ns, rfl, _⟩ := h
    rfl
  · obtain ⟨v, dx, a1, a2, a3, N, R, ns, rfl, hv, h1, hok, nd, l1, l2, h2, l3, hin, hrep, huq, h3, l4, hp, k⟩ := h
    -- slots: 0 self*, 1 houses, 2 roads, 3 heads, 4 one, 5 other, 6 name*, 7 place, 8 rank
    refine ⟨_, (pss_cons (ps_fld (pv 0) (pe_call G_checked_houses (hr.mono (by decide)) rfl T.checked_houses.mgx T.checked_houses.F.kp T.checked_houses.b .nil pass0 (pa_cons (pv 1) pa_nil)) rfl)
    (pss_cons (ps_fld (pv 0) (pe_dcA (own := [("rank", 8), ("name", 6)]) (g := gTup K 2 (gCons (gName 8) (gCons (gName 6) gNil))) (tt := tYes) (o0 := .dK []) (.inl rfl) (hu_of hr) rfl sc_Valley___init.nd (pi_enumA (by rfl) T.n_enumerate (pa_cons (pe_fld (pv 0) rfl) pa_nil)) (blkOk_by (N := N_Valley___init) (own := [("rank", 8), ("name", 6)]) (sc := defScope s_Valley___init) (by decide +kernel)) (fun _ _ _ _ _ => (pg_tup rfl (pgs_cons (pg_name (i := 8) sc_Valley___init.nd rfl (Or.inl rfl)) (pgs_cons (pg_name (i := 6) sc_Valley___init.nd rfl (Or.inl rfl)) pgs_nil)))) (fun _ _ _ _ _ => pts_nil) (fun _ _ _ _ _ => (pv 6)) (fun _ _ _ _ _ => (pv 8))) rfl)
    (pss_cons (ps_fld (pv 0) (pe_call G_checked_roads (hr.mono (by decide)) rfl T.checked_roads.mgx T.checked_roads.F.kp T.checked_roads.b .nil pass0 (pa_cons (pe_fld (pv 0) rfl) (pa_cons (pv 2) pa_nil))) rfl)
    (pss_cons (ps_fld (pv 0) (pe_call G_checked_heads (hr.mono (by decide)) rfl T.checked_heads.mgx T.checked_heads.F.kp T.checked_heads.b .nil pass0 (pa_cons (pe_fld (pv 0) rfl) (pa_cons (pv 3) pa_nil))) rfl)
    (pss_cons (ps_fld (pv 0) (pe_dcA (own := [("name", 6)]) (g := gName 6) (tt := tYes) (o0 := .dK []) (.inl rfl) (hu_of hr) rfl sc_Valley___init.nd (pi_tup (pe_fld (pv 0) rfl)) (blkOk_by (N := N_Valley___init) (own := [("name", 6)]) (sc := defScope s_Valley___init) (by decide +kernel)) (fun _ _ _ _ _ => (pg_name (i := 6) sc_Valley___init.nd rfl (Or.inl rfl))) (fun _ _ _ _ _ => pts_nil) (fun _ _ _ _ _ => (pv 6)) (fun _ _ _ _ _ => (pe_lst pa_nil))) rfl)
    (pss_cons (ps_for PassesOwn.never rfl (pi_tup (pe_fld (pv 0) rfl)) (pg_tup rfl (pgs_cons (pg_name (i := 4) sc_Valley___init.nd rfl (Or.inl rfl)) (pgs_cons (pg_name (i := 5) sc_Valley___init.nd rfl (Or.inl rfl)) pgs_nil)))
      (pss_cons (ps_expr (pe_bm PySem.F.plainAttrs_list PySem.F.slot_list_append PySem.F.type_list_append mt_append (pe_dget (hu_of hr) (pe_fld (pv 0) rfl) (pv 4) (fun _ _ => rfl)) (pa_cons (pv 5) pa_nil)))
    (pss_one (ps_expr (pe_bm PySem.F.plainAttrs_list PySem.F.slot_list_append PySem.F.type_list_append mt_append (pe_dget (hu_of hr) (pe_fld (pv 0) rfl) (pv 5) (fun _ _ => rfl)) (pa_cons (pv 4) pa_nil))))))
    (pss_cons (ps_for PassesOwn.never rfl (pi_tup (pe_fld (pv 0) rfl)) (pg_name (i := 6) sc_Valley___init.nd rfl (Or.inr rfl))
      (pss_one (ps_dput (hu_of hr) (pe_fld (pv 0) rfl) (pv 6) (pe_lc (own := [("other", 5)]) (g := gName 5) rfl sc_Valley___init.nd (pi_tup (pe_fld (pv 0) rfl)) (blkOk_by (N := N_Valley___init) (own := [("other", 5)]) (sc := defScope s_Valley___init) (by decide +kernel)) (fun _ _ _ _ _ => (pg_name (i := 5) sc_Valley___init.nd rfl (Or.inl rfl))) (fun _ _ _ _ _ => (pts_one (pt_cmpR (op_in_seqK (K := K) rfl) (pv 5) (pe_dget (hu_of hr) (pe_fldK (K := K) rfl (pv 0) rfl) (pv 6) (fun _ _ => rfl)) (by rfl)))) (fun _ _ _ _ _ => (pv 5))) rfl)))
    (pss_cons (ps_fld (pv 0) pe_dnewT rfl)
    (pss_one (ps_for PassesOwn.never rfl (pi_enumA (by rfl) T.n_enumerate (pa_cons (pe_fld (pv 0) rfl) pa_nil)) (pg_tup rfl (pgs_cons (pg_name (i := 7) sc_Valley___init.nd rfl (Or.inl rfl)) (pgs_cons (pg_tup rfl (pgs_cons (pg_name (i := 4) sc_Valley___init.nd rfl (Or.inl rfl)) (pgs_cons (pg_name (i := 5) sc_Valley___init.nd rfl (Or.inl rfl)) pgs_nil))) pgs_nil)))
      (pss_one (ps_asg (pe_tup (pa_cons (pv 7) (pa_cons (pv 7) pa_nil))) (pg_tup rfl (pgs_cons (pg_sub (pe_fld (pv 0) rfl) (pe_tup (pa_cons (pv 4) (pa_cons (pv 5) pa_nil))) (set_dict (hu_of hr))) (pgs_cons (pg_sub (pe_fld (pv 0) rfl) (pe_tup (pa_cons (pv 5) (pa_cons (pv 4) pa_nil))) (set_dict (hu_of hr))) pgs_nil))))))))))))))), ?_⟩
    -- names
    refine ⟨_, rfl, a1, N, rfl, h1, hok, nd, l1, l2, fun an H1 s1 e1 => ?_⟩
    have hv1 : H1 v = some (.ins T.C dx []) := s1 _ _ hv
    refine ⟨_, rfl, v, T.C, dx, [], rfl, hv1, T.clC, T.no_names, (by decide), ?_⟩
    have b2 : But v H (upd H1 v (.ins T.C dx (putF "names" (.ref an) []))) := But.put (fun c o e _ => s1 c o e)
    have hv2 : upd H1 v (.ins T.C dx (putF "names" (.ref an) [])) v = some (.ins T.C dx (putF "names" (.ref an) [])) := upd_same
    have e2 : upd H1 v (.ins T.C dx (putF "names" (.ref an) [])) an = some (.tup (N.map V.str)) := by
      rw [upd_ne (ne_of e1 hv1 (fun q => nomatch q))]
      exact e1
    have f2 : (putF "names" (V.ref an) []).lookup ("names" : Str) = some (V.ref an) := put_get
    have z2 : (putF "names" (V.ref an) []).length ≤ 1 := put_small (Nat.le_refl 0)
    generalize putF "names" (V.ref an) [] = fs2 at b2 hv2 e2 f2 z2
    generalize upd H1 v (.ins T.C dx fs2) = H2 at b2 hv2 e2
    -- ranks
    refine ⟨_, rfl, v, T.C, dx, fs2, _, rfl, hv2, T.clC, T.no_names, f2, an, false, rfl, ⟨_, SqT.of e2⟩, fun D hD => ?_⟩
    have newD : H D = none := But.free b2 hD (ne_of_none hv2 hD).symm
    refine dc_it walk_enumA (fun i H' => Same H2 H' ∧ ∃ f : Str → V, H' D = some (.dK (dOf (N.take i) f))) ⟨same_new hD, fun _ => .non, upd_same⟩ (fun i H' _ p => sq_t.mpr (SqT.of (p.1 _ _ e2))) ?_ ?_
    · rintro i x H' H3 hi ⟨s3, f, e3⟩ ⟨t, x1, x2, rfl, ht, rfl, ea, eb⟩
      obtain rfl : V.int (i : Nat) = x1 := Option.some.inj ea
      obtain ⟨m, hm, rfl⟩ := map_strs_at eb
      refine ⟨t, _, rfl, SqT.of upd_same, rfl, _, _, rfl, _, _, rfl, rfl, rfl, yes_go ?_⟩
      have dt : D ≠ t := ne_of_none e3 ht
      refine ⟨_, rfl, _, rfl, _, .inl ⟨dOf (N.take i) f, Sum.inr m, (upd_ne dt).trans e3, rfl, ?_, rfl⟩, same_mut (s3.trans (same_new ht)) hD, fun n => if n = m then .int (i : Nat) else f n, ?_⟩
      · rw [dOf_len, List.length_take]
        exact Nat.lt_of_lt_of_le (show min i N.length < 1001 by omega) (by decide)
      · rw [upd_same]
        refine congrArg (fun z => some (HO.dK z)) ?_
        have q := put_dOf_next (f := fun n => if n = m then V.int (i : Nat) else f n) nd hm
        rw [← q, show (if m = m then V.int (i : Nat) else f m) = V.int (i : Nat) from if_pos rfl]
        refine congrArg (fun z => putK z _ _) (dOf_congr fun n hn => ?_)
        exact (if_neg fun (z : n = m) => not_in_take nd hm (z ▸ hn)).symm
    rintro H3 ⟨s3, rk, e3⟩
    rw [List.length_map, List.take_length] at e3
    have hv3 := s3 _ _ hv2
    refine ⟨_, rfl, v, T.C, dx, fs2, rfl, hv3, T.clC, T.no_ranks, (by omega), ?_⟩
    have b4 : But v H (upd H3 v (.ins T.C dx (putF "ranks" (.ref D) fs2))) := But.put (But.same b2 s3)
    have hv4 : upd H3 v (.ins T.C dx (putF "ranks" (.ref D) fs2)) v = some (.ins T.C dx (putF "ranks" (.ref D) fs2)) := upd_same
    have k4 : ∀ b o, H3 b = some o → b ≠ v → upd H3 v (.ins T.C dx (putF "ranks" (.ref D) fs2)) b = some o := fun b o e n => (upd_ne n).trans e
    have an4 := k4 _ _ (s3 _ _ e2) (ne_of (s3 _ _ e2) hv3 (fun q => nomatch q))
    have ar4 := k4 _ _ e3 (ne_of e3 hv3 (fun q => nomatch q))
    have f4n : (putF "ranks" (V.ref D) fs2).lookup ("names" : Str) = some (V.ref an) := put_keep (by decide +kernel) f2
    have f4r : (putF "ranks" (V.ref D) fs2).lookup ("ranks" : Str) = some (V.ref D) := put_get
    have z4 : (putF "ranks" (V.ref D) fs2).length ≤ 2 := put_small z2
    generalize putF "ranks" (V.ref D) fs2 = fs4 at b4 hv4 an4 ar4 f4n f4r z4 k4
    generalize upd H3 v (.ins T.C dx fs4) = H4 at b4 hv4 an4 ar4 k4
    -- own_roads
    refine ⟨_, rfl, v, T.C, dx, fs4, _, rfl, hv4, T.clC, T.no_names, f4n, _, rfl, an, a2, N, R, rfl, an4, RoadsIn.but b4 hv h2, nd, l2, l3, hin, hrep, fun ao rs H5 s5 ao5 pr5 => ?_⟩
    have hv5 := s5 _ _ hv4
    refine ⟨_, rfl, v, T.C, dx, fs4, rfl, hv5, T.clC, T.no_own_roads, (by omega), ?_⟩
    have b6 : But v H (upd H5 v (.ins T.C dx (putF "own_roads" (.ref ao) fs4))) := But.put (But.same b4 s5)
    have hv6 : upd H5 v (.ins T.C dx (putF "own_roads" (.ref ao) fs4)) v = some (.ins T.C dx (putF "own_roads" (.ref ao) fs4)) := upd_same
    have k6 : But v H5 (upd H5 v (.ins T.C dx (putF "own_roads" (.ref ao) fs4))) := fun b o e n => (upd_ne n).trans e
    have an6 := k6 _ _ (s5 _ _ an4) (ne_of (s5 _ _ an4) hv5 (fun q => nomatch q))
    have ar6 := k6 _ _ (s5 _ _ ar4) (ne_of (s5 _ _ ar4) hv5 (fun q => nomatch q))
    have ao6 := k6 _ _ ao5 (ne_of ao5 hv5 (fun q => nomatch q))
    have pr6 := PairsAt.but k6 hv5 pr5
    have f6n : (putF "own_roads" (V.ref ao) fs4).lookup ("names" : Str) = some (V.ref an) := put_keep (by decide +kernel) f4n
    have f6r : (putF "own_roads" (V.ref ao) fs4).lookup ("ranks" : Str) = some (V.ref D) := put_keep (by decide +kernel) f4r
    have f6o : (putF "own_roads" (V.ref ao) fs4).lookup ("own_roads" : Str) = some (V.ref ao) := put_get
    have z6 : (putF "own_roads" (V.ref ao) fs4).length ≤ 3 := put_small z4
    generalize putF "own_roads" (V.ref ao) fs4 = fs6 at b6 hv6 an6 ar6 ao6 pr6 f6n f6r f6o z6 k6
    generalize upd H5 v (.ins T.C dx fs6) = H6 at b6 hv6 an6 ar6 ao6 pr6 k6
    -- own_heads
    refine ⟨_, rfl, v, T.C, dx, fs6, _, rfl, hv6, T.clC, T.no_names, f6n, _, rfl, a3, an, N, ns, rfl, an6, Seq.but b6 hv h3, l4, hp, fun ah H7 s7 ah7 => ?_⟩
    have hv7 := s7 _ _ hv6
    refine ⟨_, rfl, v, T.C, dx, fs6, rfl, hv7, T.clC, T.no_own_heads, (by omega), ?_⟩
    have b8 : But v H (upd H7 v (.ins T.C dx (putF "own_heads" (.ref ah) fs6))) := But.put (But.same b6 s7)
    have hv8 : upd H7 v (.ins T.C dx (putF "own_heads" (.ref ah) fs6)) v = some (.ins T.C dx (putF "own_heads" (.ref ah) fs6)) := upd_same
    have k8 : But v H7 (upd H7 v (.ins T.C dx (putF "own_heads" (.ref ah) fs6))) := fun b o e n => (upd_ne n).trans e
    have an8 := k8 _ _ (s7 _ _ an6) (ne_of (s7 _ _ an6) hv7 (fun q => nomatch q))
    have ar8 := k8 _ _ (s7 _ _ ar6) (ne_of (s7 _ _ ar6) hv7 (fun q => nomatch q))
    have ao8 := k8 _ _ (s7 _ _ ao6) (ne_of (s7 _ _ ao6) hv7 (fun q => nomatch q))
    have pr8 := PairsAt.but k8 hv7 (PairsAt.same s7 pr6)
    have f8n : (putF "own_heads" (V.ref ah) fs6).lookup ("names" : Str) = some (V.ref an) := put_keep (by decide +kernel) f6n
    have f8r : (putF "own_heads" (V.ref ah) fs6).lookup ("ranks" : Str) = some (V.ref D) := put_keep (by decide +kernel) f6r
    have f8o : (putF "own_heads" (V.ref ah) fs6).lookup ("own_roads" : Str) = some (V.ref ao) := put_keep (by decide +kernel) f6o
    have z8 : (putF "own_heads" (V.ref ah) fs6).length ≤ 4 := put_small z6
    generalize putF "own_heads" (V.ref ah) fs6 = fs8 at b8 hv8 an8 ar8 ao8 pr8 f8n f8r f8o z8 k8
    generalize upd H7 v (.ins T.C dx fs8) = H8 at b8 hv8 an8 ar8 ao8 pr8 k8
    -- near
    refine ⟨_, rfl, v, T.C, dx, fs8, _, rfl, hv8, T.clC, T.no_names, f8n, an, rfl, ⟨_, SqT.of an8⟩, fun D9 hD9 => ?_⟩
    refine dc_it walk_tupN (fun i H' => Same H8 H' ∧ ∃ L : Str → Addr, H' D9 = some (.dK (dOf (N.take i) fun n => .ref (L n))) ∧ ∀ n ∈ N.take i, H' (L n) = some (.lst []) ∧ H8 (L n) = none) ⟨same_new hD9, fun _ => 0, upd_same, fun n hn => by cases hn⟩ (fun i H' _ p => SqT.of (p.1 _ _ an8)) ?_ ?_
    · rintro i x H' H3 hi ⟨s9, L, e9, hL⟩ ⟨rfl, eb⟩
      obtain ⟨m, hm, rfl⟩ := map_strs_at eb
      refine ⟨rfl, yes_go ⟨_, rfl, (by decide : 0 ≤ sizeLine), fun q hq => ?_⟩⟩
      have dq : D9 ≠ q := ne_of_none e9 hq
      refine ⟨_, .inl ⟨dOf (N.take i) fun n => .ref (L n), Sum.inr m, (upd_ne dq).trans e9, rfl, ?_, rfl⟩, same_mut (s9.trans (same_new hq)) hD9, fun n => if n = m then q else L n, ?_, fun n hn => ?_⟩
      · rw [dOf_len, List.length_take]
        exact Nat.lt_of_lt_of_le (show min i N.length < 1001 by omega) (by decide)
      · rw [upd_same]
        refine congrArg (fun z => some (HO.dK z)) ?_
        have z := put_dOf_next (f := fun n => V.ref (if n = m then q else L n)) nd hm
        rw [← z, show (if m = m then q else L m) = q from if_pos rfl]
        refine congrArg (fun z => putK z _ _) (dOf_congr fun n hn => ?_)
        exact congrArg V.ref (if_neg fun (z : n = m) => not_in_take nd hm (z ▸ hn)).symm
      · dsimp only
        by_cases c : n = m
        · rw [if_pos c, upd_ne dq.symm]
          exact ⟨upd_same, s9.free hq⟩
        · rw [if_neg c]
          have hn2 : n ∈ N.take i := by
            rw [take_snoc hm] at hn
            exact (List.mem_append.mp hn).resolve_right fun z => c (List.mem_singleton.mp z)
          obtain ⟨w1, w2⟩ := hL n hn2
          refine ⟨?_, w2⟩
          rw [upd_ne (ne_of w1 e9 (fun q => nomatch q)), upd_ne (ne_of_none w1 hq)]
          exact w1
    rintro H9 ⟨s9, L, e9, hL⟩
    rw [List.take_length] at e9 hL
    have hv9 := s9 _ _ hv8
    refine ⟨_, rfl, v, T.C, dx, fs8, rfl, hv9, T.clC, T.no_near, (by omega), ?_⟩
    have ba : But v H (upd H9 v (.ins T.C dx (putF "near" (.ref D9) fs8))) := But.put (But.same b8 s9)
    have hva : upd H9 v (.ins T.C dx (putF "near" (.ref D9) fs8)) v = some (.ins T.C dx (putF "near" (.ref D9) fs8)) := upd_same
    have ka : But v H9 (upd H9 v (.ins T.C dx (putF "near" (.ref D9) fs8))) := fun b o e n => (upd_ne n).trans e
    have ana := ka _ _ (s9 _ _ an8) (ne_of (s9 _ _ an8) hv9 (fun q => nomatch q))
    have ara := ka _ _ (s9 _ _ ar8) (ne_of (s9 _ _ ar8) hv9 (fun q => nomatch q))
    have aoa := ka _ _ (s9 _ _ ao8) (ne_of (s9 _ _ ao8) hv9 (fun q => nomatch q))
    have pra := PairsAt.but ka hv9 (PairsAt.same s9 pr8)
    have nea := ka _ _ e9 (ne_of e9 hv9 (fun q => nomatch q))
    have hLa : ∀ n ∈ N, upd H9 v (.ins T.C dx (putF "near" (.ref D9) fs8)) (L n) = some (.lst []) ∧ H (L n) = none := fun n hn => by
      obtain ⟨w1, w2⟩ := hL n hn
      have nv := ne_of w1 hv9 (fun q => nomatch q)
      exact ⟨ka _ _ w1 nv, But.free b8 w2 nv⟩
    have nD : H D9 = none := But.free b8 hD9 (ne_of e9 hv9 (fun q => nomatch q))
    have fan : (putF "near" (V.ref D9) fs8).lookup ("names" : Str) = some (V.ref an) := put_keep (by decide +kernel) f8n
    have far : (putF "near" (V.ref D9) fs8).lookup ("ranks" : Str) = some (V.ref D) := put_keep (by decide +kernel) f8r
    have fao : (putF "near" (V.ref D9) fs8).lookup ("own_roads" : Str) = some (V.ref ao) := put_keep (by decide +kernel) f8o
    have fae : (putF "near" (V.ref D9) fs8).lookup ("near" : Str) = some (V.ref D9) := put_get
    have za : (putF "near" (V.ref D9) fs8).length ≤ 5 := put_small z8
    generalize putF "near" (V.ref D9) fs8 = fa at ba hva ana ara aoa pra nea hLa fan far fao fae za ka
    generalize upd H9 v (.ins T.C dx fa) = Ha at ba hva ana ara aoa pra nea hLa ka
    have rl : rs.length = R.length := Paired.length pra
    -- the neighbours, road by road
    refine ⟨_, rfl, v, T.C, dx, fa, _, rfl, hva, T.clC, T.no_own_roads, fao, ao, rfl, ⟨_, SqT.of aoa⟩, ?_⟩
    have step : ∀ (H' : Hp) (B : Nat), ((∀ b o, Ha b = some o → (∀ xs, o ≠ .lst xs) → H' b = some o) ∧ But v H H' ∧ ∀ n ∈ N, ∃ xs : List Str, H' (L n) = some (.lst (xs.map V.str)) ∧ xs.length ≤ B) →
        ∀ n0 ∈ N, ∀ (y : Str) (xs : List Str), H' (L n0) = some (.lst (xs.map V.str)) → xs.length ≤ B →
        ((∀ b o, Ha b = some o → (∀ xs, o ≠ .lst xs) → upd H' (L n0) (.lst (xs.map V.str ++ [.str y])) b = some o) ∧ But v H (upd H' (L n0) (.lst (xs.map V.str ++ [.str y]))) ∧ ∀ n ∈ N, ∃ xs' : List Str, upd H' (L n0) (.lst (xs.map V.str ++ [.str y])) (L n) = some (.lst (xs'.map V.str)) ∧ xs'.length ≤ B + 1) := by
      rintro H' B ⟨i1, i2, i3⟩ n0 h0 y xs hx hB
      refine ⟨fun b o e no => (upd_ne (ne_of (i1 b o e no) hx (no _))).trans (i1 b o e no), fun b o e n => (upd_ne (ne_of_none e (hLa n0 h0).2)).trans (i2 b o e n), fun n hn => ?_⟩
      by_cases c : L n = L n0
      · refine ⟨xs ++ [y], ?_, by rw [List.length_append]; exact Nat.succ_le_succ hB⟩
        rw [c, upd_same, List.map_append] <;> rfl
      · obtain ⟨xs', w1, w2⟩ := i3 n hn
        exact ⟨xs', (upd_ne c).trans w1, Nat.le_succ_of_le w2⟩
    refine for_it walk_tup (fun i σ H' => ((∀ b o, Ha b = some o → (∀ xs, o ≠ .lst xs) → H' b = some o) ∧ But v H H' ∧ ∀ n ∈ N, ∃ xs : List Str, H' (L n) = some (.lst (xs.map V.str)) ∧ xs.length ≤ 2 * i) ∧
      ∃ o1 o2 : Option V, σ = [some (.ref v), some (.ref a1), some (.ref a2), some (.ref a3), o1, o2, none, none, none]) ⟨⟨fun b o e _ => e, ba, fun n hn => ⟨[], (hLa n hn).1, Nat.le_refl 0⟩⟩, none, none, rfl⟩ (fun i σ H' _ p => SqT.of (p.1.1 _ _ aoa (fun _ q => nomatch q))) ?_ ?_
    · rintro i x σ H' H3 hi ⟨I0, o1, o2, rfl⟩ ⟨rfl, hx⟩
      obtain ⟨r, hr0, rfl⟩ := map_at hx
      have hiR : i < R.length := rl ▸ (List.getElem?_eq_some_iff.mp hr0).1
      obtain ⟨⟨a0, b0⟩, hab⟩ : ∃ ab, R[i]? = some ab := ⟨_, List.getElem?_eq_getElem hiR⟩
      obtain ⟨ma, mb⟩ : a0 ∈ N ∧ b0 ∈ N := hin _ (List.mem_of_getElem? hab)
      have hpr : Ha r = some (.tup [.str a0, .str b0]) := paired_at pra hr0 hab
      refine ⟨r, _, rfl, SqT.of (I0.1 _ _ hpr (fun _ q => nomatch q)), rfl, _, _, rfl, _, _, rfl, rfl, ?_⟩
      obtain ⟨xs1, w1, w2⟩ := I0.2.2 a0 ma
      refine ⟨_, rfl, v, T.C, dx, fa, _, rfl, I0.1 _ _ hva (fun _ q => nomatch q), T.clC, T.no_near, fae, _, rfl, D9, _, rfl, dget_dOf (I0.1 _ _ nea (fun _ q => nomatch q)) ma, .inl ⟨rfl, _, SqL.of w1⟩, _, rfl, L a0, _, _, rfl, rfl, w1, ?_, ?_⟩
      · rw [List.length_map]
        exact Nat.lt_of_lt_of_le (show _ < 2001 by omega) (by decide)
      have I1 := step H3 _ I0 a0 ma b0 xs1 w1 w2
      obtain ⟨xs2, w3, w4⟩ := I1.2.2 b0 mb
      refine ⟨_, rfl, v, T.C, dx, fa, _, rfl, I1.1 _ _ hva (fun _ q => nomatch q), T.clC, T.no_near, fae, _, rfl, D9, _, rfl, dget_dOf (I1.1 _ _ nea (fun _ q => nomatch q)) mb, .inl ⟨rfl, _, SqL.of w3⟩, _, rfl, L b0, _, _, rfl, rfl, w3, ?_, ?_⟩
      · rw [List.length_map]
        exact Nat.lt_of_lt_of_le (show _ < 2002 by omega) (by decide)
      have I2 := step _ _ I1 b0 mb a0 xs2 w3 w4
      exact ⟨I2, _, _, rfl⟩
    rintro σ Hb ⟨⟨i1, i2, i3⟩, o1, o2, rfl⟩
    have hvb := i1 _ _ hva (fun _ q => nomatch q)
    have anb := i1 _ _ ana (fun _ q => nomatch q)
    have arb := i1 _ _ ara (fun _ q => nomatch q)
    have aob := i1 _ _ aoa (fun _ q => nomatch q)
    have prb : PairsAt Hb rs R := paired_same (F := fun (r : Addr) (ab : Rd2) => Ha r = some (.tup [.str ab.1, .str ab.2])) (fun r ab z => i1 _ _ z (fun _ q => nomatch q)) pra
    have neb := i1 _ _ nea (fun _ q => nomatch q)
    -- the neighbours in order
    refine ⟨_, rfl, v, T.C, dx, fa, _, rfl, hvb, T.clC, T.no_names, fan, an, rfl, ⟨_, SqT.of anb⟩, ?_⟩
    have nDv : D9 ≠ v := ne_of neb hvb (fun q => nomatch q)
    refine for_it walk_tupN (fun i σ H' => (∀ b o, Hb b = some o → b ≠ D9 → H' b = some o) ∧ But v H H' ∧ (∃ f : Str → Addr, H' D9 = some (.dK (dOf N fun n => .ref (f n))) ∧ ∀ n ∈ N, ∃ xs : List Str, H' (f n) = some (.lst (xs.map V.str))) ∧
      ∃ o1 o2 o6 : Option V, σ = [some (.ref v), some (.ref a1), some (.ref a2), some (.ref a3), o1, o2, o6, none, none]) ⟨fun b o e _ => e, i2, ⟨L, neb, fun n hn => let ⟨xs, z, _⟩ := i3 n hn; ⟨xs, z⟩⟩, _, _, _, rfl⟩
      (fun i σ H' _ p => SqT.of (p.1 _ _ anb (ne_of anb neb (fun q => nomatch q)))) ?_ ?_
    · rintro i x σ H' H3 hi ⟨j1, j2, ⟨f, j3, j4⟩, p1, p2, p6, rfl⟩ ⟨rfl, hx⟩
      obtain ⟨m, hm, rfl⟩ := map_strs_at hx
      have mN : m ∈ N := List.mem_of_getElem? hm
      have hv' := j1 _ _ hvb nDv.symm
      have an' := j1 _ _ anb (ne_of anb neb (fun q => nomatch q))
      obtain ⟨xs, hxs⟩ := j4 m mN
      refine ⟨_, rfl, v, T.C, dx, fa, _, rfl, hv', T.clC, T.no_names, fan, an, rfl, ⟨_, SqT.of an'⟩, fun Dl hDl => ?_⟩
      refine lcP walk_tup (fun y => inV y (xs.map V.str)) id hDl (by rw [List.length_map]; omega) (fun H4 e4 => SqT.of (e4 _ _ an')) (fun _ => rfl) (fun y H4 Q4 hy e4 q => ?_) (fun y H4 Q4 hy _ e4 q => ⟨_, rfl, q _ (Same.refl _)⟩) fun H4 e4 h4 => ?_
      · obtain ⟨y', _, rfl⟩ := List.mem_map.mp hy
        exact ⟨_, rfl, _, rfl, v, T.C, dx, fa, _, rfl, e4 _ _ hv', T.clC, T.no_near, fae, _, rfl, D9, _, rfl, dget_dOf (e4 _ _ j3) mN, f m, _, rfl, .inl (SqL.of (e4 _ _ hxs)), rfl, flat_strs xs, _, rfl, q _ (Same.refl _)⟩
      have j3' := e4 _ _ j3
      refine ⟨_, rfl, v, T.C, dx, fa, _, rfl, e4 _ _ hv', T.clC, T.no_near, fae, _, rfl, D9, _, rfl, DPut.k (k := Sum.inr m) j3' (by rw [dOf_len]; exact Nat.lt_of_lt_of_le (show _ < 1001 by omega) (by decide)), ?_⟩
      have keep : ∀ b o, H4 b = some o → b ≠ D9 → upd H4 D9 (.dK (putK (dOf N fun n => .ref (f n)) (Sum.inr m) (.ref Dl))) b = some o := fun b o e n => (upd_ne n).trans e
      refine ⟨fun b o e n => keep _ _ (e4 _ _ (j1 b o e n)) n, fun b o e n => keep _ _ (e4 _ _ (j2 b o e n)) (ne_of_none e nD), ⟨fun n => if n = m then Dl else f n, ?_, fun n hn => ?_⟩, _, _, _, rfl⟩
      · rw [upd_same, put_dOf mN]
        refine congrArg (fun z => some (HO.dK z)) (dOf_congr fun n _ => ?_)
        dsimp only
        by_cases c : n = m
        · rw [if_pos c, if_pos c]
        · rw [if_neg c, if_neg c]
      · dsimp only
        by_cases c : n = m
        · rw [if_pos c]
          refine ⟨N.filter fun y => inV (.str y) (xs.map V.str), ?_⟩
          have e5 := keep _ _ h4 (ne_of h4 j3' (fun q => nomatch q))
          rw [List.map_id, List.filter_map] at e5
          exact e5
        · rw [if_neg c]
          obtain ⟨xs', w1⟩ := j4 n hn
          exact ⟨xs', keep _ _ (e4 _ _ w1) (ne_of w1 j3 (fun q => nomatch q))⟩
    rintro σ Hc ⟨j1, j2, _, p1, p2, p6, rfl⟩
    have hvc := j1 _ _ hvb nDv.symm
    have nTup : ∀ {b : Addr} {xs : List V}, Hb b = some (.tup xs) → b ≠ D9 := fun e => ne_of e neb (fun q => nomatch q)
    have anc := j1 _ _ anb (nTup anb)
    have aoc := j1 _ _ aob (nTup aob)
    have prc : PairsAt Hc rs R := paired_same (F := fun (r : Addr) (ab : Rd2) => Hb r = some (.tup [.str ab.1, .str ab.2])) (fun r ab z => j1 _ _ z (nTup z)) prb
    have arc : Hc D = some (.dK (dOf N rk)) := j1 _ _ arb (ne_of_none ar8 hD9)
    -- places
    intro p hpn
    refine ⟨_, rfl, v, T.C, dx, fa, rfl, (upd_ne (ne_of_none hvc hpn)).trans hvc, T.clC, T.no_places, (by omega), ?_⟩
    have npv : p ≠ v := (ne_of_none hvc hpn).symm
    have bd : But v H (upd (upd Hc p (.dT [])) v (.ins T.C dx (putF "places" (.ref p) fa))) := But.put (But.same j2 (same_new hpn))
    have kd : ∀ b o, Hc b = some o → b ≠ v → upd (upd Hc p (.dT [])) v (.ins T.C dx (putF "places" (.ref p) fa)) b = some o := fun b o e n => (upd_ne n).trans ((upd_ne (ne_of_none e hpn)).trans e)
    have nTv : ∀ {b : Addr} {xs : List V}, Hc b = some (.tup xs) → b ≠ v := fun e => ne_of e hvc (fun q => nomatch q)
    have and_ := kd _ _ anc (nTv anc)
    have ard := kd _ _ arc (ne_of arc hvc (fun q => nomatch q))
    have aod := kd _ _ aoc (nTv aoc)
    have prd : PairsAt (upd (upd Hc p (.dT [])) v (.ins T.C dx (putF "places" (.ref p) fa))) rs R := paired_same (F := fun (r : Addr) (ab : Rd2) => Hc r = some (.tup [.str ab.1, .str ab.2])) (fun r ab z => kd _ _ z (nTv z)) prc
    have hvd : upd (upd Hc p (.dT [])) v (.ins T.C dx (putF "places" (.ref p) fa)) v = some (.ins T.C dx (putF "places" (.ref p) fa)) := upd_same
    have ppd : upd (upd Hc p (.dT [])) v (.ins T.C dx (putF "places" (.ref p) fa)) p = some (.dT []) := (upd_ne npv).trans upd_same
    have np : H p = none := But.free j2 hpn npv
    have fdn : (putF "places" (V.ref p) fa).lookup ("names" : Str) = some (V.ref an) := put_keep (by decide +kernel) fan
    have fdr : (putF "places" (V.ref p) fa).lookup ("ranks" : Str) = some (V.ref D) := put_keep (by decide +kernel) far
    have fdo : (putF "places" (V.ref p) fa).lookup ("own_roads" : Str) = some (V.ref ao) := put_keep (by decide +kernel) fao
    have fdp : (putF "places" (V.ref p) fa).lookup ("places" : Str) = some (V.ref p) := put_get
    generalize putF "places" (V.ref p) fa = fd at bd kd and_ ard aod prd hvd ppd fdn fdr fdo fdp
    generalize upd (upd Hc p (.dT [])) v (.ins T.C dx fd) = Hd at bd kd and_ ard aod prd hvd ppd
    have nTp : ∀ {b : Addr} {xs : List V}, Hd b = some (.tup xs) → b ≠ p := fun e => ne_of e ppd (fun q => nomatch q)
    refine ⟨_, rfl, v, T.C, dx, fd, _, rfl, hvd, T.clC, T.no_own_roads, fdo, ao, false, rfl, ⟨_, SqT.of aod⟩, ?_⟩
    refine for_it walk_enumA (fun i σ H' => (∀ b o, Hd b = some o → b ≠ p → H' b = some o) ∧ But v H H' ∧ (∃ pl, H' p = some (.dT pl) ∧ pl.length ≤ 2 * i ∧ PlaceTo pl R i) ∧
      ∃ o1 o2 o6 o7 : Option V, σ = [some (.ref v), some (.ref a1), some (.ref a2), some (.ref a3), o1, o2, o6, o7, none]) ⟨fun b o e _ => e, bd, ⟨[], ppd, Nat.le_refl 0, fun a b => ⟨fun i hi => absurd hi (Nat.not_lt_zero i), fun _ => rfl⟩⟩, _, _, _, _, rfl⟩
      (fun i σ H' _ q => sq_t.mpr (SqT.of (q.1 _ _ aod (nTp aod)))) ?_ ?_
    · rintro i x σ H' H3 hi ⟨m1, m2, ⟨pl, m3, m4, m5⟩, q1, q2, q6, q7, rfl⟩ ⟨t, x1, x2, rfl, ht, rfl, ea, eb⟩
      obtain rfl : V.int (i : Nat) = x1 := Option.some.inj ea
      obtain ⟨r, hr0, rfl⟩ := map_at eb
      have hiR : i < R.length := rl ▸ (List.getElem?_eq_some_iff.mp hr0).1
      obtain ⟨⟨a0, b0⟩, hab⟩ : ∃ ab, R[i]? = some ab := ⟨_, List.getElem?_eq_getElem hiR⟩
      have hpr : Hd r = some (.tup [.str a0, .str b0]) := paired_at prd hr0 hab
      have hr' : H' r = some (.tup [.str a0, .str b0]) := m1 _ _ hpr (nTp hpr)
      have st : Same H' (upd H' t (.tup [.int (i : Nat), .ref r])) := same_new ht
      refine ⟨t, _, rfl, SqT.of upd_same, rfl, _, _, rfl, _, _, rfl, ⟨r, _, rfl, SqT.of (st _ _ hr'), rfl, _, _, rfl, _, _, rfl, rfl, rfl, ?_⟩⟩
      generalize upd H' t (.tup [.int (i : Nat), .ref r]) = H4 at st
      refine ⟨_, rfl, _, rfl, (show 2 ≤ sizeLine by decide), fun t2 ht2 => ?_⟩
      have st2 : Same H' (upd H4 t2 (.tup [.int (i : Nat), .int (i : Nat)])) := st.trans (same_new ht2)
      refine ⟨t2, _, rfl, SqT.of upd_same, rfl, ?_⟩
      generalize upd H4 t2 (.tup [.int (i : Nat), .int (i : Nat)]) = H5 at st2
      have hv5 := st2 _ _ (m1 _ _ hvd npv.symm)
      refine ⟨_, _, rfl, _, rfl, v, T.C, dx, fd, _, rfl, hv5, T.clC, T.no_places, fdp, _, rfl, _, rfl, (show 2 ≤ sizeLine by decide), fun t3 ht3 => ?_⟩
      have e5 := st2 _ _ m3
      have n53 : p ≠ t3 := ne_of_none e5 ht3
      have sz : pl.length < sizeLine := Nat.lt_of_lt_of_le (show _ < 2001 by omega) (by decide)
      refine ⟨p, _, rfl, DPut.t (k := keyP a0 b0) ((upd_ne n53).trans e5) upd_same sz, ?_⟩
      have k6 : ∀ b o, H5 b = some o → b ≠ p → upd (upd H5 t3 (.tup [.str a0, .str b0])) p (.dT (putK pl (keyP a0 b0) (.int (i : Nat)))) b = some o := fun b o e n => (upd_ne n).trans ((upd_ne (ne_of_none e ht3)).trans e)
      have e6 : upd (upd H5 t3 (.tup [.str a0, .str b0])) p (.dT (putK pl (keyP a0 b0) (.int (i : Nat)))) p = some (.dT (putK pl (keyP a0 b0) (.int (i : Nat)))) := upd_same
      generalize upd (upd H5 t3 (.tup [.str a0, .str b0])) p (.dT (putK pl (keyP a0 b0) (.int (i : Nat)))) = H6 at k6 e6
      refine ⟨_, _, rfl, _, rfl, v, T.C, dx, fd, _, rfl, k6 _ _ hv5 npv.symm, T.clC, T.no_places, fdp, _, rfl, _, rfl, (show 2 ≤ sizeLine by decide), fun t4 ht4 => ?_⟩
      have n64 : p ≠ t4 := ne_of_none e6 ht4
      have sz2 := length_putK pl (keyP a0 b0) (.int (i : Nat))
      refine ⟨p, _, rfl, DPut.t (k := keyP b0 a0) ((upd_ne n64).trans e6) upd_same (Nat.lt_of_lt_of_le (show _ < 2002 by omega) (by decide)), rfl, ?_⟩
      have k7 : ∀ b o, H6 b = some o → b ≠ p → upd (upd H6 t4 (.tup [.str b0, .str a0])) p (.dT (putK (putK pl (keyP a0 b0) (.int (i : Nat))) (keyP b0 a0) (.int (i : Nat)))) b = some o := fun b o e n => (upd_ne n).trans ((upd_ne (ne_of_none e ht4)).trans e)
      have sz3 := length_putK (putK pl (keyP a0 b0) (.int (i : Nat))) (keyP b0 a0) (.int (i : Nat))
      exact ⟨fun b o e n => k7 _ _ (k6 _ _ (st2 _ _ (m1 b o e n)) n) n, fun b o e n => k7 _ _ (k6 _ _ (st2 _ _ (m2 b o e n)) (ne_of_none e np)) (ne_of_none e np), ⟨_, upd_same, by omega, place_step m5 huq hab⟩, _, _, _, _, rfl⟩
    rintro σ He ⟨m1, m2, ⟨pl, m3, m4, m5⟩, q1, q2, q6, q7, rfl⟩
    rw [List.length_map, rl] at m5
    refine k He ⟨dx, an, D, ao, p, fd, rk, rs, pl, m1 _ _ hvd npv.symm, fdn, m1 _ _ and_ (nTp and_), fdr, m1 _ _ ard (ne_of ard ppd (fun q => nomatch q)), fdo, m1 _ _ aod (nTp aod), ?_, fdp, m3, m5.ok⟩ m2 fun dx' fs' ar' q1 q2 => ?_
    · exact paired_same (F := fun (r : Addr) (ab : Rd2) => Hd r = some (.tup [.str ab.1, .str ab.2])) (fun r ab z => m1 _ _ z (nTp z)) prd
    · have q0 := q1.symm.trans (m1 _ _ hvd npv.symm)
      injection q0 with q0
      injection q0 with q3 q4 q5
      rw [q5, fdr] at q2
      cases q2
      exact newD
end
end K80
/-! E1: an own error (a class of the program over others over ValueError) whose __init__ says super().__init__(x); self.n = x: made and raised. -/
namespace K80
open PySem PySem.Spec PyProof.Rows L2 PySem.W PySem.Calls
/-- what stands of such a class at C, of its __init__ at fI (text st, the parameter and the field n) -/
structure ErrTxt (P : Program) (K : PySem.W.Frag) (mg : Str → Option Value) (x : Str) (st : Stmt) (n : Str) (C fI : Addr) : Prop where
  mgC : mg x = some (.ref C)
  look : ∃ (a1 a2 : Str) (a3 : Addr) (a4 a5 : List Value) (a6 : List Str) (a7 : List Value) (a8 : Bool) (a9 : Option Bool) (b1 : Option Addr) (b2 b3 b4 b5 b6 : Option Value),
    K.lookup C = some (excClassObj a1 a2 C a3 a4 a5 true a6 a7 a8 a9 b1 b2 b3 b4 b5 b6 "ValueError.__new__") ∧ HandSPX.refsVE a5 = true
  sup : ks_superIn K C C "__init__" = some (some (.builtin "ValueError.__init__"))
  stA : findIn K (.ref C) "__setattr__" = some (some (.builtin "object.__setattr__"))
  noN : findIn K (.ref C) n = some none
  ini : findIn K (.ref C) "__init__" = some (some (.ref fI))
  tyI : typeIn K (.ref fI) = some (.type "function")
  tyC : typeIn K (.ref C) = some (.type "type")
  kpC : keepIn K (.ref C) = true
  opq : nsIn K cStatics "thirdparty.any" = some none
  sbV : subIn K (.ref C) (.type "ValueError") = some true
  sbC : mroIn K C (.ref C) = some true
  fld : XfC K C
  xin : excInitIn K C [.type "ValueError", .type "Exception", .type "BaseException", .type "object"] "ValueError.__new__" = true
  noS : mg "super" = none
  top : (P.main.scope.names.lookup ("super" : Str)).isSome = false
  fnI : ∃ (oc : Value) (od : Option Addr) (qual : Str) (kV doc pm : Value) (an : Option Addr) (cda cc : Addr) (ct : Value) (osl : Array (Option Value)),
    K.lookup fI = some ⟨oc, od, .func (fnX "__init__" qual (defArgs st) (defBody st) (defScope st) [("__class__", cc)] .none kV doc pm an (.ref cda) ct), osl⟩ ∧ codeIn K (.ref cda) qual = true ∧
    (∃ ccl cdd vs ccs file tf, K.lookup cda = some ⟨ccl, cdd, .fields vs, ccs⟩ ∧ vs[2]? = some (Value.str file tf) ∧ ((P.main.file : Str) == file) = true) ∧
    (∃ cl cld csl, K.lookup cc = some ⟨cl, cld, .cell (some (.ref C)), csl⟩)
/-- the text of such an __init__ -/
structure ErrIni (st : Stmt) (n : Str) : Prop where
  body : ∃ p0 p1 p2 p3 p4 p5 q1 q2 q3 q4, defBody st = [.Expr (.Call (.Attribute (.Call (.Name "super" p0) [] [] p1) "__init__" p2) [.Name n p3] [] p4) p5, .Assign [.Attribute (.Name "self" q1) n q2] (.Name n q3) q4] ∧ (p2.endLine == p4.line) = true
  par : ∃ p1 p2, (defArgs st).posonlyargs ++ (defArgs st).args = [{ arg := "self", annotation := none, pos := p1 }, { arg := n, annotation := none, pos := p2 }]
  lSelf : (defScope st).names.lookup ("self" : Str) = some .local
  lN : (defScope st).names.lookup n = some .local
  lSup : (defScope st).names.lookup ("super" : Str) = some .globalImplicit
  lCls : (defScope st).names.lookup ("__class__" : Str) = some .free
  kind : (defScope st).kind = .function
  cor : (defScope st).isCoroutine = false
  gen : (defScope st).isGenerator = false
  nc : ∀ x ∈ (defScope st).names, x.2 ≠ .cell
  ne : n ≠ "self"
  nd : (n == ("__debug__" : Str)) = false
  binds : ∀ (s : Shared) (qual : Str) (cl : List (Str × Addr)) (kV doc pm : Value) (an : Option Addr) (cdv ct : Value) (u v : Value), BindsTo s (fnX "__init__" qual (defArgs st) (defBody st) (defScope st) cl .none kV doc pm an cdv ct) ⟨[u, v], []⟩ [("self", u), (n, v)]
/-- behind __init__: the exception at x, its dict at dx -/
structure ErrEnd (h h' : Heap) (x C dx : Addr) (n : Str) (v : Value) : Prop where
  keep : ∀ b o, b ≠ x → h.get? b = some o → h'.get? b = some o
  obj : ∃ t, h'.get? x = some { cls := .ref C, dict := some dx, data := .fields #[.ref t, .none, .none, .none, .bool false, .none] }
  big : h.objs.size ≤ dx
  ne : dx ≠ x
  ns : h'.Ns1 dx (fun y => if y = n then some v else none)
section
variable {prog : Program} {w : World} {A : Around} {E : Value → Shared → Prop} {R : Result → Shared → Prop} {s : Shared} {K : PySem.W.Frag} {mg : Str → Option Value} {x0 n : Str} {st : Stmt} {C fI : Addr}
theorem mkFields {a : Value} {d1 : Option Addr} {b : Array Value} : ({ cls := a, dict := d1, data := .fields b } : Obj).cls = a := rfl
theorem err_init (T : ErrTxt prog K mg x0 st n C fI) (TI : ErrIni st n) {x t0 : Addr} {v : Value} (X : K.In s.heap) (G : s.heap.Ns mainGlobals mg) (B : ∃ mb, s.heap.Ns builtinsNs mb ∧ ∀ x : Str, x ≠ "__name__" → mb x = bootBuiltins x)
    (hlim : s.heap.NoLimit) (hx : s.heap.get? x = some (HandSPX.excO C t0)) (hnx : ∀ o, K.lookup x ≠ some o) (hroom : A.depth < recursionLimit)
    (hq : ∀ h' tk dx, ErrEnd s.heap h' x C dx n v → R (.ok (.ret .none)) { s with heap := h', toks := tk }) :
    codeAny (model prog w) A (.call (.ref fI) ⟨[.ref x, v], []⟩) R s := by
  obtain ⟨oc, od, qual, kV, doc, pm, an, cda, cc, ct, osl, ho, hcd, ⟨ccl, cdd, vs, ccs, file, tf, hcode, hvs, hfile⟩, cl, cld, csl, hcell⟩ := T.fnI
  obtain ⟨a1, a2, a3, a4, a5, a6, a7, a8, a9, b1, b2, b3, b4, b5, b6, hC, ha5⟩ := T.look
  obtain ⟨p0, p1, p2, p3, p4, p5, q1, q2, q3, q4, hbody, hline⟩ := TI.body
  obtain ⟨r1, r2, hpar⟩ := TI.par
  obtain ⟨mb, hmb, hboot⟩ := B
  have hcl : clsIn K C = some { name := a1, bases := a4, mro := .ref C :: a5, ns := a3, qualname := a2, hasDict := true, slotNames := a6, subclasses := a7, abstract := a8, collection := a9, hasDel := false } := by
    unfold clsIn; rw [hC] <;> rfl
  have hm : HandSPX.refsVE (.ref C :: a5) = true := ha5
  have nself : (n == ("self" : Str)) = false := by
    cases e : (n == ("self" : Str)) with
    | false => rfl
    | true => exact absurd (eq_of_beq e) TI.ne
  refine ks_codeAny_call_defAt (binds := [("self", .ref x), (n, v)]) hroom (X _ _ ho) rfl hlim (codeRec_of X hcd) rfl (TI.binds _ _ _ _ _ _ _ _ _ _ _) TI.nc (fun y hy => ?_) (fun h₁ hns k => ?_) TI.cor TI.gen TI.kind
  · rcases List.mem_cons.mp hy with rfl | hy
    · exact TI.lSelf
    · obtain rfl := List.mem_singleton.mp hy
      exact TI.lN
  have hmS : (fun y => List.lookup y ([(("self" : Str), Value.ref x), (n, v)] : List (Str × Value)).reverse) "self" = some (.ref x) := by
    show List.lookup ("self" : Str) [(n, v), ("self", .ref x)] = _
    rw [List.lookup_cons, show (("self" : Str) == n) = false by rw [BEq.comm]; exact nself]
    rfl
  have hmN : (fun y => List.lookup y ([(("self" : Str), Value.ref x), (n, v)] : List (Str × Value)).reverse) n = some v := by
    show List.lookup n [(n, v), ("self", .ref x)] = _
    rw [List.lookup_cons, beq_self_eq_true]
  generalize hmm : (fun y => List.lookup y ([(("self" : Str), Value.ref x), (n, v)] : List (Str × Value)).reverse) = m at hns hmS hmN
  obtain ⟨hp, g, d, t, os⟩ := s
  dsimp only at X G hlim hx hns k hq hmb ⊢
  have X₁ : K.In h₁ := X.keeps k
  have hx₁ : h₁.get? x = some (HandSPX.excO C t0) := k _ _ hx
  have cls_ok : ∃ oD, h₁.get? C = some oD ∧ oD.data = .cls { name := a1, bases := a4, mro := .ref C :: a5, ns := a3, qualname := a2, hasDict := true, slotNames := a6, subclasses := a7, abstract := a8, collection := a9, hasDel := false } := ⟨_, X₁ _ _ hC, rfl⟩
  obtain ⟨oD, hD1, hD2⟩ := cls_ok
  have hsub : (defArgs st).posonlyargs ++ (defArgs st).args = [{ arg := "self", annotation := none, pos := r1 }, { arg := n, annotation := none, pos := r2 }] := hpar
  generalize hE : callEnv (fnX "__init__" qual (defArgs st) (defBody st) (defScope st) [("__class__", cc)] .none kV doc pm an (.ref cda) ct) hp.objs.size fI = env
  have eK : env.scope = defScope st := by rw [← hE]; rfl
  have eL : env.locals = hp.objs.size := by rw [← hE]; rfl
  have kS : env.kindOf "self" = some .local := by rw [← hE]; exact TI.lSelf
  have kN : env.kindOf n = some .local := by rw [← hE]; exact TI.lN
  have kP : env.kindOf "super" = some .globalImplicit := by rw [← hE]; exact TI.lSup
  have kC : env.kindOf "__class__" = some .free := by rw [← hE]; exact TI.lCls
  have kk : env.scope.kind = .function := by rw [eK]; exact TI.kind
  have eg : env.globals = mainGlobals := by rw [← hE]; rfl
  have eb : env.builtins = builtinsNs := by rw [← hE]; rfl
  have ef : env.func = some fI := by rw [← hE]; rfl
  have ec : env.code = .ref cda := by rw [← hE]; rfl
  have ecl : env.cells.lookup ("__class__" : Str) = some cc := by rw [← hE]; rfl
  have eI : interactive env = false := by
    unfold interactive
    rw [kk]
    rfl
  have hxC : x ≠ C := ks_ne X₁ (ox := HandSPX.excO C t0) (odx := none) ⟨hx₁, rfl, rfl, trivial⟩ hcl
  have eXt : (n == ("__class__" : Str)) = false ∨ True := .inr trivial
  rw [hbody]
  have he : eval (.Call (.Attribute (.Call (.Name "super" p0) [] [] p1) "__init__" p2) [.Name n p3] [] p4) env = (do
      let ov ← attributeBase (.Call (.Name "super" p0) [] [] p1) "__init__" env (eval (.Call (.Name "super" p0) [] [] p1) env)
      standAt p2.atName
      let (f, first) ← holding [ov] (getMethod ov "__init__" (do return (← importBound (.Call (.Name "super" p0) [] [] p1) env).getD true))
      callWith p4 f first (backTo p4 (starEach [.Name n p3] env)) []) := by
    have hpos : methodCallPos true (.Call (.Name "super" p0) [] [] p1) env p2 p4 = pure p4 := by
      unfold methodCallPos
      rw [hline]
      rfl
    rw [arm_eval_Call]
    show (do
      let ov ← attributeBase (.Call (.Name "super" p0) [] [] p1) "__init__" env (eval (.Call (.Name "super" p0) [] [] p1) env)
      standAt p2.atName
      let (f, first) ← holding [ov] (getMethod ov "__init__" (do return (← importBound (.Call (.Name "super" p0) [] [] p1) env).getD true))
      let callPos ← methodCallPos true (.Call (.Name "super" p0) [] [] p1) env p2 p4
      callWith callPos f first (backTo p4 (starEach [.Name n p3] env)) []) = _
    rw [hpos]
    rfl
  refine ks_wpAt_execs_cons (ks_wpAt_Expr_any (ks_wpAt_MethodCall ?_ he) eI)
  refine ks_wpAt_super_base kP kC rfl ef (X₁ _ _ ho) rfl (by rw [hpar]; rfl) ec (X₁ _ _ hcode) rfl hvs hfile T.top ?_
  refine ks_loadName_global kk kP (loadGlobal_builtin (by rw [eg]; exact G.keeps k) T.noS (by rw [eb]; exact hmb.keeps k) ((hboot _ (by decide +kernel)).trans (show bootBuiltins "super" = some (.type "super") by decide +kernel)) ⟨rfl, ?_⟩)
  refine wpAny_loadName_free kk kC ecl ⟨_, X₁ _ _ hcell, rfl⟩ ?_
  refine wpAny_loadName_local kk kS (by rw [eL]; exact hns) hmS ?_
  refine ks_wpAny_isType_cls hD1 hD2 ⟨rfl, ?_⟩
  refine ks_wpAny_call_super hD1 hD2 hx₁ rfl (fun c e => nomatch e) (looks_mroIn X₁ T.sbC) (fun h₂ e₂ k₂ => ?_)
  have X₂ : K.In h₂ := X₁.keeps k₂
  have I₂ : InstAt h₂ x (HandSPX.excO C t0) C none := ⟨k₂ _ _ hx₁, rfl, rfl, trivial⟩
  have along : alongIn K "__init__" (((Value.ref C :: a5).dropWhile (· != .ref C)).drop 1) = some (some (.builtin "ValueError.__init__")) := by
    have q := T.sup
    unfold ks_superIn at q
    rw [hcl] at q
    exact q
  refine kxs_getMethod kxs_ValueError e₂ (looks_opaque X₂ T.opq) (l₀ := .ref C :: a5) (fun A Q E s k q => wpAny_bind ((looks_clsIn X₂ hcl) A _ E s k (wpAny_pure q))) rfl X₂ along (I₂.type.andThen (looks_subIn X₂ T.sbV)) hxC rfl ?_
  have hnew : (h₂.push (kxs_mw "ValueError.__init__" x)).get? h₂.objs.size = some (kxs_mw "ValueError.__init__" x) := Heap.get?_push_size _ rfl
  have k₃ : ∀ b o, h₂.get? b = some o → (h₂.push (kxs_mw "ValueError.__init__" x)).get? b = some o := fun b o e => Heap.get?_push_of_some _ e
  generalize h₂.push (kxs_mw "ValueError.__init__" x) = h₃ at hnew k₃ ⊢
  have kz : hp.objs.size ≤ h₂.objs.size := by
    obtain ⟨oz, ez, eez, e1, _⟩ := hns
    exact Nat.le_of_lt (Heap.lt_size (k₂ _ _ e1))
  have ux : h₂.objs.size ≠ x := Nat.ne_of_gt (Heap.lt_size (k₂ _ _ hx₁))
  refine kxs_callWith (i := "ValueError.__init__") (x := x) (by rfl) ?_
  show wpAny _ _ (evalArgs (.ref h₂.objs.size) true ((false, eval (.Name n p3) env) :: []) []) _ _ _
  refine evalArgs_plain (spliced_cons (wpAny_Name (wpAny_loadName_local kk kN (by rw [eL]; exact (hns.keeps k₂).keeps k₃) hmN (spliced_nil ⟨hnew, ?_⟩)) TI.nd))
  show wpAny _ _ (call (.ref h₂.objs.size) [v] []) _ _ _
  have Fz : Fr (hideAll hp [x]) hp.objs.size h₃ m := ⟨(hns.keeps k₂).keeps k₃, fun b o e => k₃ _ _ (k₂ _ _ (k _ _ (of_hideAll _ e))), Nat.le_of_eq (hideAll_size _ _)⟩
  have Xz : K.In (hideAll hp [x]) := fun a o e => hideAll_get _ (X a o e) (fun hm => by
    obtain rfl := List.mem_singleton.mp hm
    exact hnx o e)
  have Lx : x ≠ hp.objs.size := Nat.ne_of_lt (Heap.lt_size hx)
  have Lu : h₂.objs.size ≠ hp.objs.size := by
    obtain ⟨oz, ez, eez, e1, _⟩ := hns
    exact Nat.ne_of_gt (Heap.lt_size (k₂ _ _ e1))
  have gone : ∀ b, hp.objs.size ≤ b → (hideAll hp [x]).get? b = none := fun b hb => by
    cases e : (hideAll hp [x]).get? b with
    | none => rfl
    | some o => exact absurd (Heap.lt_size (of_hideAll _ e)) (Nat.not_lt.mpr hb)
  have Nz : News (hideAll hp [x]) hp.objs.size h₃ [(h₂.objs.size, kxs_mw "ValueError.__init__" x), (x, excObj C t0 none .none)] := fun p hp' => by
    rcases List.mem_cons.mp hp' with rfl | hp'
    · exact ⟨hnew, Lu, gone _ kz⟩
    · obtain rfl := List.mem_singleton.mp hp'
      exact ⟨k₃ _ _ (k₂ _ _ hx₁), Lx, hideAll_none _ (List.mem_singleton.mpr rfl)⟩
  refine kxs_call (h₀ := hideAll hp [x]) (L := hp.objs.size) (m := m) (K := K) (x := x) (C := C) (t := t0) (dv := none) (c2 := .none) Fz Xz Nz F.excBase_ValueError T.xin (List.mem_cons_self) (UpdF.tail ux (UpdF.head (fun p hp' => nomatch hp'))) (show 1 ≤ sizeLine by decide) (fun t' h₄ F₄ N₄ _ => ?_)
  have hx₄ : h₄.get? x = some (HandSPX.excO C t') := (N₄ (x, excObj C t' none .none) (by simp)).1
  have X₄ : K.In h₄ := Xz.keeps F₄.keep
  have old₄ : ∀ b o, b ≠ x → hp.get? b = some o → h₄.get? b = some o := fun b o hb e => F₄.keep _ _ (hideAll_get _ e (fun hm => hb (List.mem_singleton.mp hm)))
  have sz₄ : hp.objs.size ≤ h₄.objs.size := by
    obtain ⟨oz, ez, eez, e1, _⟩ := F₄.ns
    exact Nat.le_of_lt (Heap.lt_size e1)
  dsimp only
  refine wpAt_of_wpAny (wpAny_execs_cons (plainObj_wpAny_Assign_Attribute ?_))
  refine wpAny_Name (wpAny_loadName_local kk kN (by rw [eL]; exact F₄.ns) hmN ?_) TI.nd
  refine wpAny_Name (wpAny_loadName_local kk kS (by rw [eL]; exact F₄.ns) hmS ?_) rfl
  refine set_plain X₄ (ox := HandSPX.excO C t') (od := none) ⟨hx₄, rfl, rfl, trivial⟩ T.stA ?_
  refine HandSPX.exc_osa X₄ hx₄ hcl hm rfl T.noN (fun h₅ tk₅ dx k₅ dn dne hx₅ hn₅ => ?_)
  show wpAny _ _ (execs _ _) _ _ _
  exact wpAny_execs_nil (hq h₅ tk₅ dx ⟨fun b o hb e => k₅ b o hb (old₄ b o hb e), ⟨_, hx₅⟩, Nat.le_trans sz₄ dn, dne, hn₅⟩)
/-- a made error: at e, its dict at d -/
structure ErrMade (h h' : Heap) (e C d : Addr) (n : Str) (v : Value) : Prop where
  keep : ∀ b o, h.get? b = some o → h'.get? b = some o
  newE : h.objs.size ≤ e
  obj : ∃ oe vs, h'.get? e = some oe ∧ oe.cls = .ref C ∧ oe.dict = some d ∧ oe.data = .fields vs ∧ vs[1]? = some .none
  newD : h.objs.size ≤ d
  ne : d ≠ e
  ns : h'.Ns1 d (fun y => if y = n then some v else none)
theorem err_made (T : ErrTxt prog K mg x0 st n C fI) (TI : ErrIni st n) {v : Value} (X : K.In s.heap) (G : s.heap.Ns mainGlobals mg) (B : ∃ mb, s.heap.Ns builtinsNs mb ∧ ∀ x : Str, x ≠ "__name__" → mb x = bootBuiltins x)
    (hlim : s.heap.NoLimit) (hroom : A.depth + 1 < recursionLimit)
    (hq : ∀ h' tk e d, ErrMade s.heap h' e C d n v → R (.ok (.ret (.ref e))) { s with heap := h', toks := tk }) :
    codeAny (model prog w) A (.call (.ref C) ⟨[v], []⟩) R s := by
  obtain ⟨a1, a2, a3, a4, a5, a6, a7, a8, a9, b1, b2, b3, b4, b5, b6, hC, ha5⟩ := T.look
  obtain ⟨mb, hmb, hboot⟩ := B
  obtain ⟨hp, g, dr, tk, os⟩ := s
  dsimp only at X G hlim hq hmb ⊢
  have k : ∀ b o, hp.get? b = some o → ((hp.push (kdv_tup [v])).push (HandSPX.excO C hp.objs.size)).get? b = some o := fun b o e => Heap.get?_push_of_some _ (Heap.get?_push_of_some _ e)
  have at1 : ((hp.push (kdv_tup [v])).push (HandSPX.excO C hp.objs.size)).get? (hp.objs.size + 1) = some (HandSPX.excO C hp.objs.size) := by heap_get
  have nK : ∀ o, K.lookup (hp.objs.size + 1) ≠ some o := fun o e => by
    have z := Heap.lt_size (X _ _ e)
    exact absurd (Nat.lt_of_succ_lt z) (Nat.lt_irrefl _)
  have sz : ((hp.push (kdv_tup [v])).push (HandSPX.excO C hp.objs.size)).objs.size = hp.objs.size + 2 := by rw [Heap.size_push, Heap.size_push]
  refine HandSPX.call_own F.excBase_ValueError (fun X => HandSPX.refsVE_contains X a5 ha5) (X _ _ hC) (looks_findIn X T.ini) (fun self => bind_fn X self T.tyI) (show 1 ≤ sizeLine by decide) ?_
  refine err_init T TI (X.keeps k) (G.keeps k) ⟨mb, hmb.keeps k, hboot⟩ (hlim.keeps k) at1 nK hroom (fun h' tk' dx Z => ?_)
  have big := Z.big
  obtain ⟨t, ht⟩ := Z.obj
  dsimp only at big
  rw [sz] at big
  exact ⟨rfl, hq h' tk' (hp.objs.size + 1) dx ⟨fun b o e => Z.keep b o (Nat.ne_of_lt (Nat.lt_succ_of_lt (Heap.lt_size e))) (k b o e), Nat.le_succ _, ⟨_, _, ht, rfl, rfl, rfl, rfl⟩, by omega, Z.ne, Z.ns⟩⟩
end
theorem rel_one {n : Str} {v : V} {u : Value} (r : RelV v u) (f : Str) : RelO (List.lookup f [(n, v)]) (if f = n then some u else none) := by
  rw [List.lookup_cons]
  by_cases h : f = n
  · rw [if_pos h, beq_iff_eq.mpr h]
    exact r
  · rw [if_neg h, beq_eq_false_iff_ne.mpr h]
    trivial
section
variable {X : Cx} {x0 n : Str} {st : Stmt} {C fI : Addr}
/-- the made error: x0(a) -/
def tMkErr (C : Addr) (n : Str) (ta : TA) : L2.St → Hp → XK → Prop := fun σ H Q => ta σ H fun vs H1 => ∃ v, vs = [v] ∧ ∀ d, H1 d = none → Q (.ref C) (some d) (upd H1 d (.xd [(n, v)]))
theorem pmk_err {a : Expr} {ta : TA} {p pos : Pos} {k : Nat} (T : ErrTxt X.prog X.K X.mg x0 st n C fI) (TI : ErrIni st n) (hr : Room k X.A) (hd : (x0 == ("__debug__" : Str)) = false) (ha : PA X [a] ta) (hg : Gl X x0 := by rfl)
    (he : starEach (a :: []) X.env = (false, eval a X.env) :: starEach [] X.env := by rfl) (hpl : (backTo pos (starEach [] X.env)).any (·.1) = false := by rfl) :
    PMk X (.Call (.Name x0 p) [a] [] pos) (tMkErr C n ta) := by
  intro pins s σ H Q I h
  refine wpAny_Call_Name_kw (ld_glob I hg T.mgC ?_ hd)
  refine callWith_K (h₀ := X.base) I.ok.mod.kin T.kpC (thn (ha.run pos pins s σ H _ I h) fun us s1 hh => ?_) he hpl
  obtain ⟨vs, H1, I1, r1, v, ev, q1⟩ := hh
  subst ev
  refine ⟨I1.kIn, ?_⟩
  cases r1 with
  | cons rv rn =>
    rename_i u us'
    cases rn
    show wpAny _ _ (call (.ref C) [u]) _ _ _
    have hlim := I1.nolimit
    have hG := I1.mod.glob.keeps I1.bk
    have hB : ∃ mb, s1.heap.Ns builtinsNs mb ∧ ∀ x : Str, x ≠ "__name__" → mb x = bootBuiltins x := by
      obtain ⟨mb, h1, h2⟩ := I1.mod.blt
      exact ⟨mb, h1.keeps I1.bk, h2⟩
    obtain ⟨hp, g, dr, tk, os⟩ := s1
    refine wpAny_call (err_made T TI I1.kIn hG hB hlim (by have := hr.dp; omega) fun h' tk' e d M => ?_)
    show MkP X pins σ Q (.ref e) ⟨h', g, dr, tk', os⟩
    obtain ⟨oe, fv, hoe, hc, hdi, hdat, h1⟩ := M.obj
    have hns := M.ns
    obtain ⟨G', g1, g2⟩ := restrict h' fun b => decide (b ≠ e)
    have same : ∀ b, b ≠ e → G'.get? b = h'.get? b := fun b hb => g1 b (decide_eq_true hb)
    have gone : G'.get? e = none := g2 e (decide_eq_false (fun z => z rfl))
    have old : ∀ b o, hp.get? b = some o → G'.get? b = some o := fun b o q => (same b (Nat.ne_of_lt (Nat.lt_of_lt_of_le (Heap.lt_size q) M.newE))).trans (M.keep b o q)
    have ob : ObjOk X.prog X.w (upd H1 d (.xd [(n, v)])) G' d (.xd [(n, v)]) := ⟨_, hns.at (fun o q => (same d M.ne).trans q), fun f => rel_one rv f⟩
    have J : Inv X pins σ (upd H1 d (.xd [(n, v)])) ⟨G', g, dr, tk', os⟩ := I1.laid (t' := tk') old M.newD ob
    refine ⟨e, oe, fv, ⟨G', g, dr, tk', os⟩, _, .ref C, some d, rfl, J, fun b o q => ?_, gone, hoe, ⟨hc, hdi⟩, hdat, h1, ?_, rfl, I1.bare, raises_own T.fld.exC T.tyC, q1 d (I1.hok.fresh M.newD)⟩
    · have q' : G'.get? b = some o := q
      have hb : b ≠ e := fun z => by rw [z, gone] at q'; cases q'
      exact (same b hb).symm.trans q'
    · rw [upd_ne (Ne.symm M.ne)]
      exact I1.hok.fresh M.newE
/-- raise x0(a) -/
def tRaiseErr (C : Addr) (n : Str) (W : WX) (ta : TA) : TS := fun _ σ H => tMkErr C n ta σ H fun cls d H' => W cls d σ H'
theorem ps_raiseErr {a : Expr} {ta : TA} {W : WX} {p pos pos2 : Pos} {k : Nat} (hc : X.calm = true) (T : ErrTxt X.prog X.K X.mg x0 st n C fI) (TI : ErrIni st n) (hr : Room k X.A) (tk : Takes X W) (ha : PA X [a] ta) (hd : (x0 == ("__debug__" : Str)) = false := by rfl) (hg : Gl X x0 := by rfl)
    (he : starEach (a :: []) X.env = (false, eval a X.env) :: starEach [] X.env := by rfl) (hpl : (backTo pos (starEach [] X.env)).any (·.1) = false := by rfl) :
    PS X (.Raise (some (.Call (.Name x0 p) [a] [] pos)) none pos2) (tRaiseErr C n W ta) := ps_raise hc tk (pmk_err T TI hr hd ha hg he hpl)
end
end K80
namespace K80
open PySem PySem.Spec PyProof.Rows L2
/-! ### the three errors of the program -/
abbrev s_BadValley : Stmt := inClass (top 18) 0
abbrev s_BadEvening : Stmt := inClass (top 20) 0
abbrev s_BadHeaps : Stmt := inClass (top 34) 0
theorem ini_V : ErrIni s_BadValley "thing" where
  body := ⟨_, _, _, _, _, _, _, _, _, _, rfl, by decide +kernel⟩
  par := ⟨_, _, rfl⟩
  lSelf := by decide +kernel
  lN := by decide +kernel
  lSup := by decide +kernel
  lCls := by decide +kernel
  kind := rfl
  cor := rfl
  gen := rfl
  nc := by decide +kernel
  ne := by decide
  nd := by decide
  binds := fun _ _ _ _ _ _ _ _ _ _ _ => BindsTo.of_eq rfl
theorem ini_E : ErrIni s_BadEvening "evening" where
  body := ⟨_, _, _, _, _, _, _, _, _, _, rfl, by decide +kernel⟩
  par := ⟨_, _, rfl⟩
  lSelf := by decide +kernel
  lN := by decide +kernel
  lSup := by decide +kernel
  lCls := by decide +kernel
  kind := rfl
  cor := rfl
  gen := rfl
  nc := by decide +kernel
  ne := by decide
  nd := by decide
  binds := fun _ _ _ _ _ _ _ _ _ _ _ => BindsTo.of_eq rfl
theorem ini_H : ErrIni s_BadHeaps "heaps" where
  body := ⟨_, _, _, _, _, _, _, _, _, _, rfl, by decide +kernel⟩
  par := ⟨_, _, rfl⟩
  lSelf := by decide +kernel
  lN := by decide +kernel
  lSup := by decide +kernel
  lCls := by decide +kernel
  kind := rfl
  cor := rfl
  gen := rfl
  nc := by decide +kernel
  ne := by decide
  nd := by decide
  binds := fun _ _ _ _ _ _ _ _ _ _ _ => BindsTo.of_eq rfl
/-- what else stands behind the top: the errors, the class Valley for isinstance -/
structure Errs (P : Program) (K : PySem.W.Frag) (mg : Str → Option Value) (T : Txt K mg) where
  CV : Addr
  fV : Addr
  CE : Addr
  fE : Addr
  CH : Addr
  fH : Addr
  eV : ErrTxt P K mg "BadValley" s_BadValley "thing" CV fV
  eE : ErrTxt P K mg "BadEvening" s_BadEvening "evening" CE fE
  eH : ErrTxt P K mg "BadHeaps" s_BadHeaps "heaps" CH fH
  kit7 : ∀ n ∈ tys7, PySem.W.kitOne K (.type n) (.ref T.C) = some false
  vCls : PySem.W.findIn K (.ref T.C) "__class__" = some (some (.builtin "object.__class__"))
  vGet : PySem.W.specialIn K (.builtin "object.__class__") "__get__" = some (some (.builtin "getset_descriptor.__get__"))
  vTak : PySem.W.takesIn K (.builtin "object.__class__") = some true
  vObj : PySem.W.mroIn K T.C (.type "object") = some true
/-- an own error leaves: its dict at d holds the thing -/
def Raised (E : XK) (H : Hp) (C : Addr) (n : Str) (v : V) : Prop := ∀ H' d, Same H H' → H' d = some (.xd [(n, v)]) → E (.ref C) (some d) H'
/-- a valley, or a thing that is none -/
inductive Val3 (K : PySem.W.Frag) (C : Addr) (H : Hp) : V → Bool → Prop
  | yes {v : Addr} {dx : Addr} {fs : List (Str × V)} (h : H v = some (.ins C dx fs)) : Val3 K C H (.ref v) true
  | no {v : V} {n : String} (t : TyN K H v n) : Val3 K C H v false
theorem Val3.same {K : PySem.W.Frag} {C : Addr} {H H' : Hp} {v : V} {b : Bool} (e : Same H H') (h : Val3 K C H v b) : Val3 K C H' v b := by
  cases h with
  | yes h => exact .yes (e _ _ h)
  | no t => exact .no (t.same e)
theorem ValAt.same {C : Addr} {H H' : Hp} {v : Addr} {N : List Str} {R : List Rd2} (e : Same H H') (h : ValAt C H v N R) : ValAt C H' v N R := by
  obtain ⟨dx, an, ar, ao, ap, fs, f, rs, pl, h1, h2, h3, h4, h5, h6, h7, h8, h9, h10, h11⟩ := h.ex
  exact ⟨dx, an, ar, ao, ap, fs, f, rs, pl, e _ _ h1, h2, e _ _ h3, h4, e _ _ h5, h6, e _ _ h7, h8.same e, h9, e _ _ h10, h11⟩
def spCheckValley (K : PySem.W.Frag) (C CV : Addr) : Sp := fun vs H Q E => ∃ v b, vs = [v] ∧ Val3 K C H v b ∧ (b = true → Q .non H) ∧ (b = false → Raised E H CV "thing" v)
theorem dp_of {A : Around} {k : Nat} (hr : Room k A) : A.units + 65 < cLine := by
  have := hr.un
  omega
/-! ### roads and evenings as they are passed -/
/-- a road that is passed: none, or two texts -/
inductive RoadArg (K : PySem.W.Frag) (H : Hp) : V → Option Rd2 → Prop
  | no {x : V} {n : String} (t : TyN K H x n) (h : isSeqN n = false) : RoadArg K H x none
  | len {a : Addr} {xs : List V} (s : Seq H a xs) (h : xs.length ≠ 2) : RoadArg K H (.ref a) none
  | two {a : Addr} {x y : Str} (s : Seq H a [.str x, .str y]) : RoadArg K H (.ref a) (some (x, y))
theorem RoadArg.same {K : PySem.W.Frag} {H H' : Hp} {x : V} {o : Option Rd2} (e : Same H H') (h : RoadArg K H x o) : RoadArg K H' x o := by
  cases h with
  | no t h => exact .no (t.same e) h
  | len s h => exact .len (s.same e) h
  | two s => exact .two (s.same e)
/-- an evening that is passed: no sequence, or its roads -/
inductive EvArg (K : PySem.W.Frag) (H : Hp) : V → Option (List (Option Rd2)) → Prop
  | no {x : V} {n : String} (t : TyN K H x n) (h : isSeqN n = false) : EvArg K H x none
  | seq {a : Addr} {xs : List V} {os : List (Option Rd2)} (s : Seq H a xs) (z : xs.length ≤ 1000) (h : Paired (RoadArg K H) xs os) : EvArg K H (.ref a) (some os)
theorem EvArg.same {K : PySem.W.Frag} {H H' : Hp} {x : V} {o : Option (List (Option Rd2))} (e : Same H H') (h : EvArg K H x o) : EvArg K H' x o := by
  cases h with
  | no t h => exact .no (t.same e) h
  | seq s z h => exact .seq (s.same e) z (paired_same (fun _ _ q => RoadArg.same e q) h)
def sameRd (p ab : Rd2) : Bool := decide (ab = p ∨ ab = (p.2, p.1))
/-- the valley's own road -/
def roadOf (R : List Rd2) (p : Rd2) : Option Rd2 := R.find? (sameRd p)
def roadIn (N : List Str) (R : List Rd2) (o : Option Rd2) : Option Rd2 := o.bind fun p => if p.1 ∈ N ∧ p.2 ∈ N then roadOf R p else none
/-- what known_evening finds -/
def knownEv (N : List Str) (R : List Rd2) (o : Option (List (Option Rd2))) : Option (List Rd2) := o.bind fun os =>
  if os.length = R.length ∧ (∀ p ∈ os, roadIn N R p ≠ none) ∧ (os.filterMap (roadIn N R)).Nodup then some (os.filterMap (roadIn N R)) else none
def spRoadIn (K : PySem.W.Frag) (C : Addr) : Sp := fun vs H Q _ => ∃ v x o N R, vs = [.ref v, x] ∧ ValAt C H v N R ∧ RoadArg K H x o ∧
  ∀ H', Same H H' → (roadIn N R o = none → Q .non H') ∧ (∀ ab r, roadIn N R o = some ab → H' r = some (.tup [.str ab.1, .str ab.2]) → Q (.ref r) H')
def spKnown (K : PySem.W.Frag) (C : Addr) : Sp := fun vs H Q _ => ∃ v x o N R, vs = [.ref v, x] ∧ ValAt C H v N R ∧ EvArg K H x o ∧ R.length ≤ 1000 ∧ (∀ ab ∈ R, PyData.strOk ab.1 = true ∧ PyData.strOk ab.2 = true) ∧
  ∀ H', Same H H' → (knownEv N R o = none → Q .non H') ∧ (∀ L p rs, knownEv N R o = some L → H' p = some (.lst (rs.map V.ref)) → PairsAt H' rs L → Q (.ref p) H')
theorem paired_left {α β : Type} {F : α → β → Prop} : ∀ {xs : List α} {ys : List β} {i : Nat} {y : β}, Paired F xs ys → ys[i]? = some y → ∃ x, xs[i]? = some x ∧ F x y
  | _, _, _, _, .nil, e => by cases e
  | _, _, 0, _, .cons r _, e => ⟨_, rfl, by
    obtain rfl := Option.some.inj (show some _ = some _ from e)
    exact r⟩
  | _, _, _ + 1, _, .cons _ t, e =>
    let ⟨x, h1, h2⟩ := paired_left t (show _[_]? = some _ from e)
    ⟨x, h1, h2⟩
/-- find by a place -/
theorem find_place {R : List Rd2} {p : Rd2} {pl : List (List Key × V)} (ok : PlaceOk pl R) : (∃ i ab, R[i]? = some ab ∧ roadOf R p = some ab ∧ valV pl (keyP p.1 p.2) = some (.int (i : Nat))) ∨ (roadOf R p = none ∧ valV pl (keyP p.1 p.2) = none) := by
  obtain ⟨a, b⟩ := p
  cases h : roadOf R (a, b) with
  | some ab =>
    obtain ⟨i, hi, e⟩ := List.mem_iff_getElem.mp (List.mem_of_find?_eq_some h)
    have q : sameRd (a, b) ab = true := List.find?_some h
    have q' : ab = (a, b) ∨ ab = (b, a) := of_decide_eq_true q
    refine .inl ⟨i, ab, (List.getElem?_eq_some_iff.mpr ⟨hi, e⟩), rfl, (ok a b).1 i ?_⟩
    rw [List.getElem?_eq_some_iff.mpr ⟨hi, e⟩]
    exact q'.imp (fun z => by rw [z]) fun z => by rw [z]
  | none =>
    refine .inr ⟨rfl, (ok a b).2 fun i => ?_⟩
    have no := List.find?_eq_none.mp h
    exact ⟨fun hc => no _ (List.mem_of_getElem? hc) (decide_eq_true (.inl rfl)), fun hc => no _ (List.mem_of_getElem? hc) (decide_eq_true (.inr rfl))⟩
section
variable {P : Program} {w : World} {K : PySem.W.Frag} {mg : Str → Option Value} {base : Heap}
theorem ok_check_valley (T : Txt K mg) (Z : Errs P K mg T) : FnOk P w K mg base (L2.CX P w) 3 T.check_valley.f T.check_valley.fd ["thing"] (spCheckValley K T.C Z.CV) := by
  refine T.check_valley.F.okX sc_check_valley (fun vs H Q E h => ?_) (fun cdv A outer s H vs Q E hr h => ?_)
  · obtain ⟨v, b, rfl, _⟩ := h
    rfl
  · obtain ⟨v, b, rfl, t, k1, k2⟩ := h
    -- slots: 0 thing
    refine ⟨_, (pss_one (ps_if (pt_not (pt_val (pe_callB call_isi (by rfl) T.n_isinstance (by decide +kernel) (pa_cons (pv 0) (pa_cons (pe_glob (v := .ref T.C) rfl T.mgValley rfl) pa_nil))))) (pss_one (ps_raiseErr rfl Z.eV ini_V hr (takes_of rfl rfl rfl rfl) (pa_cons (pv 0) pa_nil))) pss_nil)), ?_⟩
    cases t with
    | yes h =>
      refine ⟨_, rfl, _, _, _, _, true, rfl, .own T.C, .base (.ins h T.clC Z.vCls Z.vGet Z.vTak Z.vObj), by unfold PySem.W.kitOne; rw [beq_self_eq_true, if_pos rfl], ?_⟩
      exact ⟨_, rfl, iteF (k1 rfl)⟩
    | no t =>
      refine ⟨_, rfl, _, _, _, _, false, rfl, .own T.C, t.ty, Z.kit7 _ t.m, ?_⟩
      refine ⟨_, rfl, iteT ⟨_, rfl, _, rfl, fun d hd => ?_⟩⟩
      exact k2 rfl _ d (same_new hd) upd_same
theorem ok_road_in (T : Txt K mg) : FnOk P w K mg base CX0 2 T.road_in.f T.road_in.fd ["valley", "thing"] (spRoadIn K T.C) := by
  have G_is_list : FnOk P w K mg base CX0 1 T.is_list.f T.is_list.fd ["thing"] (spIsList K) := ok_is_list T
  have G_is_among : FnOk P w K mg base CX0 1 T.is_among.f T.is_among.fd ["known", "thing"] (spIsAmong K) := ok_is_among T
  refine T.road_in.F.ok sc_road_in (fun vs H Q E h => ?_) (fun cdv A outer s H vs Q E hr h => ?_)
  · obtain ⟨v, x, o, N, R, rfl, _⟩ := h
    rfl
  · obtain ⟨v, x, o, N, R, rfl, hV, ha, k⟩ := h
    -- slots: 0 valley*, 1 thing, 2 place, 3 name
    refine ⟨_, (pss_cons (ps_if (PW.pt (pw_or (pt_not (pt_val (pe_call G_is_list (hr.mono (by decide)) rfl T.is_list.mgx T.is_list.F.kp T.is_list.b .nil pass0 (pa_cons (pv 1) pa_nil)))) (pw_or (pt_cmpR op_ne (pe_callB call_len_seq (by rfl) T.n_len (by decide +kernel) (pa_cons (pv 1) pa_nil)) pe_int (nomark _)) (pw_or1 (pt_not (pt_val (pe_callB (cr_all rfl) (by rfl) T.n_all (by decide +kernel) (pa_cons (pe_lc (own := [("name", 3)]) (g := gName 3) (tt := tYes) rfl sc_road_in.nd (pi_seq (pv 1)) (blkOk_by (N := N_road_in) (own := [("name", 3)]) (sc := defScope s_road_in) (by decide +kernel)) (fun _ _ _ _ _ => (pg_name (i := 3) sc_road_in.nd rfl (Or.inl rfl))) (fun _ _ _ _ _ => pts_nil) (fun _ _ _ _ _ => (pe_call G_is_among (hr.mono (by decide)) rfl T.is_among.mgx T.is_among.F.kp T.is_among.b .nil pass0 (pa_cons (pe_fldK (K := K) rfl (pv 0) rfl) (pa_cons (pv 3) pa_nil))))) pa_nil)))))))) (pss_one (ps_ret pe_non)) pss_nil)
    (pss_cons (ps_set (i := 2) sc_road_in.nd rfl (Or.inl rfl) (pe_dget2 (hu_of hr) (pe_fld (pv 0) rfl) (pe_tup (pa_cons (pe_ix ix_seq (pv 1) pe_int (fun _ _ => rfl)) (pa_cons (pe_ix ix_seq (pv 1) pe_int (fun _ _ => rfl)) pa_nil))) pe_non ⟨rfl, rfl, rfl, rfl⟩))
    (pss_one (ps_ret (pe_ifExp (pt_cmpR op_isN (pv 2) pe_non (nomark _)) pe_non (pe_ix ix_tup (pe_fld (pv 0) rfl) (pv 2) (fun _ _ => rfl))))))), ?_⟩
    obtain ⟨dx, an, ar, ao, ap, fs, f, rs, pl, v1, v2, v3, v4, v5, v6, v7, v8, v9, v10, v11⟩ := hV.ex
    cases ha with
    | no t en =>
      refine ⟨_, rfl, _, _, rfl, t, fun H1 s1 => ⟨_, rfl, ?_⟩⟩
      rw [en]
      exact iteT ((k H1 s1).1 rfl)
    | len hS ne =>
      obtain ⟨n, ty, en⟩ := hS.ty (K := K)
      refine ⟨_, rfl, _, _, rfl, ty, fun H1 s1 => ⟨_, rfl, ?_⟩⟩
      rw [en]
      refine iteF ⟨_, rfl, _, _, rfl, (hS.same s1).or, rfl, true, ?_, iteT ((k H1 s1).1 rfl)⟩
      exact congrArg V.bl (congrArg Bool.not (decide_eq_false fun z => ne (by have q := V.int.inj z; omega)))
    | two hS =>
      rename_i u x y
      obtain ⟨n, ty, en⟩ := hS.ty (K := K)
      refine ⟨_, rfl, _, _, rfl, ty, fun H1 s1 => ⟨_, rfl, ?_⟩⟩
      rw [en]
      refine iteF ⟨_, rfl, _, _, rfl, (hS.same s1).or, rfl, false, rfl, iteF ?_⟩
      obtain ⟨k0, sq0⟩ := (hS.same s1).sq (K := K)
      refine ⟨_, rfl, u, k0, rfl, ⟨_, sq0 _ (Same.refl _)⟩, fun D hD => ?_⟩
      refine lcP (xs := [.str x, .str y]) walk_sq (fun _ => true) (fun z => match z with | .str z => .bl (decide (z ∈ N)) | _ => .bl false) hD (show 2 ≤ 100000 by decide) (fun H5 e5 => sq0 _ e5) (fun _ => rfl) (fun _ _ _ _ _ q => q _ (Same.refl _)) (fun y' H5 Q5 hy _ e5 q => ?_) fun H5 e5 h5 => ?_
      · have hyN : ∃ z, y' = .str z := by
          rcases List.mem_cons.mp hy with rfl | hy
          · exact ⟨_, rfl⟩
          · rw [List.mem_singleton.mp hy]
            exact ⟨_, rfl⟩
        obtain ⟨z, rfl⟩ := hyN
        refine ⟨_, rfl, v, T.C, dx, fs, _, rfl, (s1.trans e5) _ _ v1, T.clC, T.no_ranks, v4, _, rfl, ar, _, _, rfl, (s1.trans e5) _ _ v5, .inl ⟨z, rfl, ?_⟩⟩
        rw [isSome_dOf]
        exact q _ (Same.refl _)
      have s5 : Same H H5 := s1.trans e5
      refine ⟨D, [decide (x ∈ N), decide (y ∈ N)], rfl, SqL.of h5, _, rfl, ?_⟩
      by_cases hm : x ∈ N ∧ y ∈ N
      · rw [decide_eq_true hm.1, decide_eq_true hm.2]
        refine iteF ?_
        have hu : Seq H5 u [.str x, .str y] := hS.same s5
        refine ⟨_, rfl, v, T.C, dx, fs, _, rfl, s5 _ _ v1, T.clC, T.no_places, v9, ap, rfl, .inr ⟨pl, .inl (s5 _ _ v10)⟩, ?_⟩
        refine ⟨_, rfl, ix_pair hu (.inl ⟨rfl, rfl⟩) ⟨_, rfl, ix_pair hu (.inr ⟨rfl, rfl⟩) ⟨show 2 ≤ sizeLine by decide, fun t ht => ?_⟩⟩⟩
        have s6 : Same H (upd H5 t (.tup [.str x, .str y])) := s5.trans (same_new ht)
        refine ⟨_, .inr ⟨pl, keyP x y, t, .inl (s6 _ _ v10), rfl, upd_same, rfl⟩, ?_⟩
        generalize upd H5 t (.tup [.str x, .str y]) = H6 at s6
        have er : roadIn N R (some (x, y)) = roadOf R (x, y) := if_pos hm
        rcases find_place (p := (x, y)) v11 with ⟨i, ab, hi, e1, e2⟩ | ⟨e1, e2⟩
        · rw [show valV pl (keyP x y) = some (.int (i : Nat)) from e2]
          obtain ⟨r, hr2, hrr⟩ := paired_left v8 hi
          have ho : (rs.map V.ref)[i]? = some (.ref r) := by rw [List.getElem?_map, hr2]; rfl
          refine ⟨_, rfl, rfl, false, rfl, iteF ?_⟩
          refine ⟨_, rfl, v, T.C, dx, fs, _, rfl, s6 _ _ v1, T.clC, T.no_own_roads, v6, _, rfl, ?_⟩
          refine ⟨ao, _, _, _, rfl, rfl, SqT.of (s6 _ _ v7), atI_nat ho, ?_⟩
          exact (k _ s6).2 ab r (er.trans e1) (s6 _ _ hrr)
        · rw [show valV pl (keyP x y) = none from e2]
          refine ⟨_, rfl, rfl, true, rfl, iteT ?_⟩
          exact (k _ s6).1 (er.trans e1)
      · have e1 : ([decide (x ∈ N), decide (y ∈ N)].all id) = false := by
          rcases Decidable.not_and_iff_or_not.mp hm with z | z
          · rw [decide_eq_false z] <;> rfl
          · rw [decide_eq_false z, List.all_cons, List.all_cons, id, id, Bool.false_and, Bool.and_false]
        rw [e1]
        exact iteT ((k _ s5).1 (if_neg hm))
end
end K80
namespace K80
open PySem PySem.Spec PyProof.Rows L2
/-! ### a heap without what may change -/
def hid (Z : Addr → Bool) (H : Hp) : Hp := fun b => if Z b = true then none else H b
def noZ : Addr → Bool := fun _ => false
theorem hid_some {Z : Addr → Bool} {H : Hp} {b : Addr} {o : HO} (h : hid Z H b = some o) : H b = some o := by
  unfold hid at h
  split at h
  · cases h
  · exact h
theorem hid_not {Z : Addr → Bool} {H : Hp} {b : Addr} {o : HO} (h : hid Z H b = some o) : Z b = false := by
  unfold hid at h
  split at h
  · cases h
  · rename_i q
    simpa using q
theorem hid_of {Z : Addr → Bool} {H : Hp} {b : Addr} {o : HO} (h : H b = some o) (z : Z b = false) : hid Z H b = some o := by
  unfold hid
  rw [z, if_neg (by decide)]
  exact h
theorem hid_in {Z : Addr → Bool} {H : Hp} : Same (hid Z H) H := fun _ _ h => hid_some h
/-- kept but for Z -/
def KpZ (Z : Addr → Bool) (H H' : Hp) : Prop := Same (hid Z H) (hid Z H')
theorem KpZ.refl {Z : Addr → Bool} {H : Hp} : KpZ Z H H := fun _ _ h => h
theorem KpZ.trans {Z : Addr → Bool} {H H1 H2 : Hp} (a : KpZ Z H H1) (b : KpZ Z H1 H2) : KpZ Z H H2 := fun c o h => b c o (a c o h)
theorem KpZ.of {Z : Addr → Bool} {H H' : Hp} (a : Same H H') : KpZ Z H H' := fun b o h => hid_of (a b o (hid_some h)) (hid_not h)
theorem KpZ.at {Z : Addr → Bool} {H H' : Hp} (a : KpZ Z H H') {b : Addr} {o : HO} (h : H b = some o) (z : Z b = false) : H' b = some o := hid_some (a b o (hid_of h z))
/-- a new thing at p, or a change at p that was not there at first -/
theorem KpZ.new {Z : Addr → Bool} {H H' : Hp} {p : Addr} {o : HO} (a : KpZ Z H H') (h : H p = none) : KpZ Z H (upd H' p o) := fun b u e => by
  have q := a b u e
  refine hid_of ?_ (hid_not q)
  rw [upd_ne (ne_of_none (hid_some e) h)]
  exact hid_some q
theorem KpZ.put {Z : Addr → Bool} {H H' : Hp} {p : Addr} {o : HO} (a : KpZ Z H H') (h : Z p = true) : KpZ Z H (upd H' p o) := fun b u e => by
  have q := a b u e
  refine hid_of ?_ (hid_not q)
  rw [upd_ne (fun z => by
    have y := hid_not e
    rw [z, h] at y
    cases y)]
  exact hid_some q
/-- kept but for Z and D -/
def KpB (Z : Addr → Bool) (D : Addr) (H H' : Hp) : Prop := ∀ b o, H b = some o → Z b = false → b ≠ D → H' b = some o
theorem KpZ.but {Z : Addr → Bool} {D : Addr} {H H' : Hp} (a : KpZ Z H H') : KpB Z D H H' := fun _ _ h z _ => a.at h z
theorem KpB.upd {Z : Addr → Bool} {D : Addr} {H H' : Hp} {o : HO} (a : KpB Z D H H') : KpB Z D H (upd H' D o) := fun b u h z n => by
  rw [upd_ne n]
  exact a b u h z n
section
variable {J : It} {G : Hp → Prop} {H1 : Hp} {D : Addr} {Qd : Hp → Prop} {σ : L2.St} {vs : List Nat} {te tk tv : TE} {g : TG} {n : Nat} {Y : Nat → Hp → V → Hp → Prop}
/-- [e(x) for x in xs]: the value by a relation; what Z names may change (Iv tells how) -/
theorem lcZ (w : Walk J n G Y) (Z : Addr → Bool) (Iv : Nat → Hp → Prop) (Rel : Hp → Nat → V → Prop) (hD : H1 D = none) (zD : Z D = false) (hz : n ≤ 100000)
    (mono : ∀ (H H' : Hp) (i : Nat) (v : V) (acc : List V), H D = some (.lst acc) → KpB Z D H H' → Rel H i v → Rel H' i v) (ivu : ∀ i H o, Iv i H → Iv i (upd H D o)) (hG : ∀ H', KpZ Z H1 H' → G H') (h0 : Iv 0 H1)
    (he : ∀ (i : Nat) (x : V) (H' H2 : Hp) (acc : List V) (Q : VK), i < n → KpZ Z H1 H' → Iv i H' → H' D = some (.lst acc) → Y i H' x H2 → (∀ v H4, KpZ Z H' H4 → Iv (i + 1) H4 → Rel H4 i v → Q v H4) →
      g x (wipe σ vs) H2 fun σ2 H3 => wipe σ2 vs = wipe σ vs ∧ te σ2 H3 Q)
    (k : ∀ (H' : Hp) (ys : List V), KpZ Z H1 H' → Iv n H' → H' D = some (.lst ys) → ys.length = n → (∀ i v, ys[i]? = some v → Rel H' i v) → Qd H') :
    ∃ W : Nat → Nat → Hp → Prop, (∃ m, W 0 m (upd H1 D (.lst []))) ∧ ∀ i m H, W i m H → (J.stop i H ∧ Qd H) ∨ (J.go i H ∧ ∃ Nx : Hp → Prop, (∀ H', Nx H' → ∃ m', m' < m ∧ W (i + 1) m' H') ∧
      ∀ x H', J.yld i H x H' → g x (wipe σ vs) H' fun σ2 H2 => wipe σ2 vs = wipe σ vs ∧ tYes σ2 H2 fun b H3 => if b = true then te σ2 H3 fun y H4 => ∃ acc, H4 D = some (.lst acc) ∧ acc.length < sizeLine ∧ Nx (upd H4 D (.lst (acc ++ [y]))) else Nx H3) := by
  refine lc_it w (fun i H' => KpZ Z H1 H' ∧ Iv i H' ∧ ∃ ys, H' D = some (.lst ys) ∧ ys.length = i ∧ ∀ k v, ys[k]? = some v → Rel H' k v) ⟨KpZ.new KpZ.refl hD, ivu _ _ _ h0, [], upd_same, rfl, fun k v e => by cases e⟩ (fun i H' _ p => hG H' p.1) ?_ fun H' p => ?_
  · rintro i x H' H2 hi ⟨s1, e1, ys, e2, e3, e4⟩ hy
    refine he i x H' H2 ys _ hi s1 e1 e2 hy (fun v H4 r1 r2 r3 => ?_)
    have d4 : H4 D = some (.lst ys) := r1.at e2 zD
    refine ⟨ys, d4, by rw [e3]; exact Nat.lt_of_lt_of_le (show i < 100001 by omega) (by decide), KpZ.new (s1.trans r1) hD, ivu _ _ _ r2, ys ++ [v], upd_same, by rw [List.length_append, e3]; rfl, fun k u hk => ?_⟩
    by_cases hk2 : k < ys.length
    · rw [List.getElem?_append_left hk2] at hk
      exact mono H' _ _ _ _ e2 (KpB.upd r1.but) (e4 _ _ hk)
    · have kk : k = ys.length := by
        have q := (List.getElem?_eq_some_iff.mp hk).1
        rw [List.length_append] at q
        simp only [List.length_cons, List.length_nil] at q
        omega
      subst kk
      rw [List.getElem?_append_right (Nat.le_refl _), Nat.sub_self] at hk
      obtain rfl := Option.some.inj (show some v = some u from hk)
      rw [e3]
      exact mono H4 _ _ _ _ d4 (KpB.upd (KpZ.but KpZ.refl)) r3
  · obtain ⟨s1, e1, ys, e2, e3, e4⟩ := p
    exact k H' ys s1 e1 e2 e3 e4
end
end K80
namespace K80
open PySem PySem.Spec PyProof.Rows L2
theorem paired_of {α β : Type} {F : α → β → Prop} : ∀ {xs : List α} {ys : List β}, xs.length = ys.length → (∀ (i : Nat) x y, xs[i]? = some x → ys[i]? = some y → F x y) → Paired F xs ys
  | [], [], _, _ => .nil
  | [], _ :: _, e, _ => by cases e
  | _ :: _, [], e, _ => by cases e
  | x :: xs, y :: ys, e, h => .cons (h 0 x y rfl rfl) (paired_of (Nat.succ.inj e) fun i a b h1 h2 => h (i + 1) a b h1 h2)
theorem paired_map {α β γ : Type} {F : α → γ → Prop} {f : β → γ} : ∀ {xs : List α} {ys : List β}, Paired (fun x y => F x (f y)) xs ys → Paired F xs (ys.map f)
  | _, _, .nil => .nil
  | _, _, .cons r t => .cons r (paired_map t)
/-- a found road -/
def FoundAt (H : Hp) (v : V) (o : Option Rd2) : Prop := match o with
  | none => v = .non
  | some ab => ∃ r, v = .ref r ∧ H r = some (.tup [.str ab.1, .str ab.2])
theorem FoundAt.same {H H' : Hp} {v : V} {o : Option Rd2} (e : Same H H') (h : FoundAt H v o) : FoundAt H' v o := by
  cases o with
  | none => exact h
  | some ab =>
    obtain ⟨r, h1, h2⟩ := h
    exact ⟨r, h1, e _ _ h2⟩
/-- as data -/
def rdD (o : Option Rd2) : PyData := match o with
  | none => .none
  | some ab => .tuple [.str ab.1, .str ab.2]
theorem rdD_dp {K : PySem.W.Frag} {H : Hp} {v : V} {o : Option Rd2} (h : FoundAt H v o) : Dp K H v (rdD o) := by
  cases o with
  | none =>
    cases (show v = .non from h)
    exact .non
  | some ab =>
    obtain ⟨r, rfl, h2⟩ := h
    exact .tup (SqT.of h2) (.cons (.str _) (.cons (.str _) .nil))
theorem rdD_dps {K : PySem.W.Frag} {H : Hp} : ∀ {vs : List V} {os : List (Option Rd2)}, Paired (FoundAt H) vs os → DpAll K H vs (os.map rdD)
  | _, _, .nil => .nil
  | _, _, .cons r t => .cons (rdD_dp r) (rdD_dps t)
def OkRd (o : Option Rd2) : Prop := ∀ ab, o = some ab → PyData.strOk ab.1 = true ∧ PyData.strOk ab.2 = true
theorem rdD_lay {o : Option Rd2} (h : OkRd o) : (rdD o).canLay0 = true := by
  cases o with
  | none => simp [rdD, PyData.canLay0]
  | some ab =>
    obtain ⟨h1, h2⟩ := h ab rfl
    simp [rdD, PyData.canLay0, PyData.canLayAll0, h1, h2]
theorem rdD_depth (o : Option Rd2) : (rdD o).depth ≤ 1 := by
  cases o with
  | none => simp [rdD, PyData.depth]
  | some ab => simp [rdD, PyData.depth, PyData.depthAll]
theorem rdDs_lay : ∀ {os : List (Option Rd2)}, (∀ o ∈ os, OkRd o) → PyData.canLayAll0 (os.map rdD) = true
  | [], _ => by simp [PyData.canLayAll0]
  | o :: os, h => by
    rw [List.map_cons, PyData.canLayAll0, rdD_lay (h o List.mem_cons_self), rdDs_lay fun p hp => h p (List.mem_cons_of_mem _ hp)] <;> rfl
theorem rdDs_depth : ∀ os : List (Option Rd2), PyData.depthAll (os.map rdD) ≤ 1
  | [] => by simp [PyData.depthAll]
  | o :: os => by
    rw [List.map_cons, PyData.depthAll]
    exact Nat.max_le.mpr ⟨rdD_depth o, rdDs_depth os⟩
theorem rdDs_shaped {os : List (Option Rd2)} (h : ∀ o ∈ os, OkRd o) : SeqAt.shaped (.list (os.map rdD)) = true := by
  unfold SeqAt.shaped
  have d := rdDs_depth os
  rw [PyData.canLay0, rdDs_lay h, PyData.depth, decide_eq_true (by omega)] <;> rfl
theorem any_none : ∀ os : List (Option Rd2), ((os.map rdD).any fun z => PyData.eqv z .none) = os.any (·.isNone)
  | [] => rfl
  | none :: os => by simp [rdD, PyData.eqv]
  | some ab :: os => by
    rw [List.map_cons, List.any_cons, any_none os]
    simp [rdD, PyData.eqv]
/-- the keys of a dict that was built key by key -/
structure Built {κ : Type} [DecidableEq κ] (kvs : List (κ × V)) (ks : List κ) : Prop where
  le : kvs.length ≤ ks.length
  mem : ∀ k, (valV kvs k).isSome = decide (k ∈ ks)
  nd : kvs.length = ks.length ↔ ks.Nodup
theorem Built.nil {κ : Type} [DecidableEq κ] : Built ([] : List (κ × V)) [] := ⟨Nat.le_refl _, fun _ => rfl, ⟨fun _ => .nil, fun _ => rfl⟩⟩
theorem len_put_old {κ : Type} [DecidableEq κ] {kvs : List (κ × V)} {k : κ} {v : V} (h : (valV kvs k).isSome = true) : (putK kvs k v).length = kvs.length := by
  unfold putK
  rw [valV_any, h, if_pos rfl, List.length_map]
theorem Built.put {κ : Type} [DecidableEq κ] {kvs : List (κ × V)} {ks : List κ} (h : Built kvs ks) (k : κ) (v : V) : Built (putK kvs k v) (ks ++ [k]) := by
  have hm : ∀ j, (valV (putK kvs k v) j).isSome = decide (j ∈ ks ++ [k]) := fun j => by
    rw [valV_put]
    by_cases e : j = k
    · rw [if_pos e, e, decide_eq_true (List.mem_append_right _ (List.mem_singleton.mpr rfl))] <;> rfl
    · rw [if_neg e, h.mem]
      refine decide_eq_decide.mpr ⟨List.mem_append_left _, fun q => ?_⟩
      rcases List.mem_append.mp q with q | q
      · exact q
      · exact absurd (List.mem_singleton.mp q) e
  by_cases m : k ∈ ks
  · have l := len_put_old (v := v) (show (valV kvs k).isSome = true by rw [h.mem, decide_eq_true m])
    refine ⟨by rw [l, List.length_append]; exact Nat.le_trans h.le (Nat.le_add_right _ _), hm, ⟨fun e => ?_, fun e => ?_⟩⟩
    · rw [l, List.length_append] at e
      have := h.le
      simp only [List.length_cons, List.length_nil] at e
      omega
    · exact absurd rfl ((List.nodup_append.mp e).2.2 k m k (List.mem_singleton.mpr rfl))
  · have no : valV kvs k = none := by
      have q := h.mem k
      rw [decide_eq_false m] at q
      exact Option.not_isSome_iff_eq_none.mp (by rw [q]; decide)
    rw [putK_new v no] at hm ⊢
    refine ⟨by rw [List.length_append, List.length_append]; exact Nat.add_le_add_right h.le _, hm, ?_⟩
    rw [List.length_append, List.length_append]
    simp only [List.length_cons, List.length_nil]
    refine ⟨fun e => ?_, fun e => ?_⟩
    · refine List.nodup_append.mpr ⟨h.nd.mp (by omega), (List.pairwise_singleton _ _), fun a ha b hb => ?_⟩
      rw [List.mem_singleton.mp hb]
      exact fun q => m (q ▸ ha)
    · rw [h.nd.mpr (List.nodup_append.mp e).1]
theorem Built.no {κ : Type} [DecidableEq κ] {kvs : List (κ × V)} {ks : List κ} (h : Built kvs ks) {k : κ} (n : ¬ k ∈ ks) : valV kvs k = none := by
  have q := h.mem k
  rw [decide_eq_false n] at q
  exact Option.not_isSome_iff_eq_none.mp (by rw [q]; decide)
theorem walk_lstA {K : PySem.W.Frag} {a : Addr} {xs : List V} : Walk (Itl K a) xs.length (fun H => SqL K H a xs) (YAt xs) := walk_list
theorem ne_int (a b : Nat) : (!decide (V.int (a : Int) = V.int (b : Int))) = decide (a ≠ b) := by
  by_cases e : a = b
  · rw [e, decide_eq_true rfl, decide_eq_false (fun z => z rfl)] <;> rfl
  · rw [decide_eq_true e, decide_eq_false (fun z => e (by have q := V.int.inj z; omega))] <;> rfl
section
variable {P : Program} {w : World} {K : PySem.W.Frag} {mg : Str → Option Value} {base : Heap}
def keyR (ab : Rd2) : List Key := keyP ab.1 ab.2
theorem keyR_inj {a b : Rd2} (h : keyR a = keyR b) : a = b := by
  obtain ⟨h1, h2⟩ := keyP_inj h
  exact Prod.ext h1 h2
theorem nodup_keyR : ∀ {L : List Rd2}, L.Nodup → (L.map keyR).Nodup
  | [], _ => .nil
  | a :: L, h => by
    rw [List.map_cons]
    refine List.nodup_cons.mpr ⟨fun z => ?_, nodup_keyR (List.nodup_cons.mp h).2⟩
    obtain ⟨b, hb, e⟩ := List.mem_map.mp z
    exact (List.nodup_cons.mp h).1 (keyR_inj e ▸ hb)
theorem nodup_of_keyR : ∀ {L : List Rd2}, (L.map keyR).Nodup → L.Nodup
  | [], _ => .nil
  | a :: L, h => by
    rw [List.map_cons] at h
    exact List.nodup_cons.mpr ⟨fun z => (List.nodup_cons.mp h).1 (List.mem_map_of_mem z), nodup_of_keyR (List.nodup_cons.mp h).2⟩
theorem ok_known_evening (T : Txt K mg) : FnOk P w K mg base CX0 3 T.known_evening.f T.known_evening.fd ["valley", "thing"] (spKnown K T.C) := by
  have G_is_list : FnOk P w K mg base CX0 1 T.is_list.f T.is_list.fd ["thing"] (spIsList K) := ok_is_list T
  have G_road_in : FnOk P w K mg base CX0 2 T.road_in.f T.road_in.fd ["valley", "thing"] (spRoadIn K T.C) := ok_road_in T
  refine T.known_evening.F.ok sc_known_evening (fun vs H Q E h => ?_) (fun cdv A outer s H vs Q E hr h => ?_)
  · obtain ⟨v, x, o, N, R, rfl, _⟩ := h
    rfl
  · obtain ⟨v, x, o, N, R, rfl, hV, ha, hz, hok, k⟩ := h
    -- slots: 0 valley*, 1 thing, 2 found, 3 road
    refine ⟨_, (pss_cons (ps_if (PW.pt (pw_or (pt_not (pt_val (pe_call G_is_list (hr.mono (by decide)) rfl T.is_list.mgx T.is_list.F.kp T.is_list.b .nil pass0 (pa_cons (pv 1) pa_nil)))) (pw_or1 (pt_cmpR op_ne (pe_callB call_len_seq (by rfl) T.n_len (by decide +kernel) (pa_cons (pv 1) pa_nil)) (pe_callB call_len_seq (by rfl) T.n_len (by decide +kernel) (pa_cons (pe_fld (pv 0) rfl) pa_nil)) (nomark _))))) (pss_one (ps_ret pe_non)) pss_nil)
    (pss_cons (ps_setLc (i := 2) (own := [("road", 3)]) (g := gName 3) (tt := tYes) rfl sc_known_evening.nd rfl rfl (sw_true rfl rfl rfl (by decide +kernel)) (pi_seq (pv 1)) (blkOk_by (N := N_known_evening) (own := [("road", 3)]) (sc := defScope s_known_evening) (by decide +kernel)) (fun _ _ _ _ _ => (pg_name (i := 3) sc_known_evening.nd rfl (Or.inl rfl))) (fun _ _ _ _ _ => pts_nil) (fun _ _ _ _ _ => (pe_call G_road_in (hr.mono (by decide)) rfl T.road_in.mgx T.road_in.F.kp T.road_in.b .nil pass0 (pa_cons (pv 0) (pa_cons (pv 3) pa_nil)))))
    (pss_cons (ps_if (PW.pt (pw_or (pt_cmpR (op_inD (dp_of hr)) pe_non (pv 2) (by rfl)) (pw_or1 (pt_cmpR op_ne (pe_callB call_len_dT (by rfl) T.n_len (by decide +kernel) (pa_cons (pe_dcA (own := [("road", 3)]) (g := gName 3) (tt := tYes) (o0 := .dT []) (.inr rfl) (hu_of hr) rfl sc_known_evening.nd (pi_list (pv 2)) (blkOk_by (N := N_known_evening) (own := [("road", 3)]) (sc := defScope s_known_evening) (by decide +kernel)) (fun _ _ _ _ _ => (pg_name (i := 3) sc_known_evening.nd rfl (Or.inl rfl))) (fun _ _ _ _ _ => pts_nil) (fun _ _ _ _ _ => (pv 3)) (fun _ _ _ _ _ => pe_bl)) pa_nil)) (pe_callB call_len (by rfl) T.n_len (by decide +kernel) (pa_cons (pv 2) pa_nil)) (nomark _))))) (pss_one (ps_ret pe_non)) pss_nil)
    (pss_one (ps_ret (pv 2)))))), ?_⟩
    have hV' := hV
    obtain ⟨dx, an, ar, ao, ap, fs, f, rs, pl, v1, v2, v3, v4, v5, v6, v7, v8, v9, v10, v11⟩ := hV.ex
    cases ha with
    | no t en =>
      refine ⟨_, rfl, _, _, rfl, t, fun H1 s1 => ⟨_, rfl, ?_⟩⟩
      rw [en]
      exact iteT ((k H1 s1).1 rfl)
    | seq hS zz hP =>
      rename_i a xs os
      obtain ⟨n, ty, en⟩ := hS.ty (K := K)
      have lx : xs.length = os.length := Paired.length hP
      have lr : rs.length = R.length := Paired.length v8
      refine ⟨_, rfl, _, _, rfl, ty, fun H1 s1 => ⟨_, rfl, ?_⟩⟩
      rw [en]
      refine iteF ⟨_, rfl, _, _, rfl, (hS.same s1).or, _, rfl, v, T.C, dx, fs, _, rfl, s1 _ _ v1, T.clC, T.no_own_roads, v6, ao, _, rfl, .inr (SqT.of (s1 _ _ v7)), rfl, decide (os.length ≠ R.length), ?_, ?_⟩
      · rw [List.length_map, lr, lx]
        exact congrArg V.bl (ne_int _ _)
      refine ite2 (fun c => ?_) fun c => ?_
      · refine (k H1 s1).1 (if_neg fun z => ?_)
        exact of_decide_eq_true c z.1
      have hl : os.length = R.length := Decidable.byContradiction fun z => c (decide_eq_true z)
      obtain ⟨k0, sq0⟩ := (hS.same s1).sq (K := K)
      refine ⟨_, rfl, a, k0, rfl, ⟨_, sq0 _ (Same.refl _)⟩, fun D hD => ?_⟩
      refine lcZ walk_sq noZ (fun _ _ => True) (fun H' i u => ∀ o, os[i]? = some o → FoundAt H' u (roadIn N R o)) hD rfl (by omega) ?_ (fun _ _ _ _ => trivial) (fun H' e => sq0 _ e) trivial ?_ ?_
      · intro H2 H3 i u acc h2 e r o ho
        have q := r o ho
        cases z : roadIn N R o with
        | none =>
          rw [z] at q
          exact q
        | some ab =>
          rw [z] at q
          obtain ⟨r, h3, h4⟩ := q
          exact ⟨r, h3, e _ _ h4 rfl (ne_of h4 h2 (fun y => nomatch y))⟩
      · rintro i x H2 H3 acc Q2 hi s2 _ h2 ⟨rfl, hx⟩ q
        obtain ⟨o, ho⟩ : ∃ o, os[i]? = some o := ⟨_, List.getElem?_eq_getElem (lx ▸ hi)⟩
        have s2' : Same H1 H3 := s2
        have ra : RoadArg K H3 x o := (paired_at hP hx ho).same (s1.trans s2')
        refine ⟨rfl, ⟨_, rfl, _, rfl, ⟨v, x, o, N, R, rfl, hV'.same (s1.trans s2'), ra, fun H4 s4 => ⟨fun e => ?_, fun ab r e hr4 => ?_⟩⟩⟩⟩
        · refine q _ _ s4 trivial fun o' ho' => ?_
          rw [ho] at ho'
          cases ho'
          rw [e]
          rfl
        · refine q _ _ s4 trivial fun o' ho' => ?_
          rw [ho] at ho'
          cases ho'
          rw [e]
          exact ⟨r, rfl, hr4⟩
      intro H2 ys s2 _ h2 ly rel
      have s2' : Same H1 H2 := s2
      have s3 : Same H H2 := s1.trans s2'
      obtain ⟨gs, hgs⟩ : ∃ gs, gs = os.map (roadIn N R) := ⟨_, rfl⟩
      have lg : gs.length = os.length := by rw [hgs, List.length_map]
      have pg : Paired (FoundAt H2) ys gs := by
        rw [hgs]
        refine paired_map (paired_of (by rw [ly, lx]) fun i u o h5 h6 => rel i u h5 o h6)
      have okg : ∀ g ∈ gs, OkRd g := fun g hg ab e => by
        rw [hgs] at hg
        obtain ⟨o, ho, rfl⟩ := List.mem_map.mp hg
        cases o with
        | none => cases e
        | some p =>
          have e' : (if p.1 ∈ N ∧ p.2 ∈ N then roadOf R p else none) = some ab := e
          split at e'
          · exact hok ab (List.mem_of_find?_eq_some e')
          · cases e'
      -- None in found
      refine ⟨_, rfl, .none, gs.map rdD, .non, .lst (SqL.of h2) (rdD_dps pg), rfl, rdDs_shaped okg, _, rfl, ?_⟩
      rw [any_none]
      refine ite2 (fun c => ?_) fun c => ?_
      · refine (k H2 s3).1 (if_neg fun z => ?_)
        obtain ⟨g, hg, e⟩ := List.any_eq_true.mp c
        rw [hgs] at hg
        obtain ⟨o, ho, rfl⟩ := List.mem_map.mp hg
        exact z.2.1 o ho (Option.isNone_iff_eq_none.mp e)
      have all : ∀ g ∈ gs, g ≠ none := fun g hg e => c (List.any_eq_true.mpr ⟨g, hg, by rw [e] <;> rfl⟩)
      obtain ⟨L, hL⟩ : ∃ L : List Rd2, gs = L.map some := by
        clear hgs lg pg okg c
        induction gs with
        | nil => exact ⟨[], rfl⟩
        | cons g gs ih =>
          obtain ⟨L, e⟩ := ih fun g' h' => all g' (List.mem_cons_of_mem _ h')
          cases g with
          | none => exact absurd rfl (all none List.mem_cons_self)
          | some ab => exact ⟨ab :: L, by rw [e] <;> rfl⟩
      subst hL
      have fm : os.filterMap (roadIn N R) = L := by
        have q : os.filterMap (roadIn N R) = (os.map (roadIn N R)).filterMap id := by rw [List.filterMap_map]; rfl
        rw [q, ← hgs, List.filterMap_map]
        exact List.filterMap_some
      have lL : L.length = os.length := by rw [← lg, List.length_map]
      have refs : ∃ rs2 : List Addr, ys = rs2.map V.ref ∧ PairsAt H2 rs2 L := by
        clear hgs lg okg c all fm lL rel ly
        have gen : ∀ {ys : List V} {L : List Rd2}, Paired (FoundAt H2) ys (L.map some) → ∃ rs2 : List Addr, ys = rs2.map V.ref ∧ PairsAt H2 rs2 L := by
          intro ys L
          induction L generalizing ys with
          | nil =>
            intro p
            cases p
            exact ⟨[], rfl, .nil⟩
          | cons ab L ih =>
            intro p
            cases p with
            | cons r t =>
              obtain ⟨r1, rfl, h6⟩ := r
              obtain ⟨rs2, rfl, h7⟩ := ih t
              exact ⟨r1 :: rs2, rfl, .cons h6 h7⟩
        exact gen pg
      obtain ⟨rs2, rfl, hp2⟩ := refs
      have lr2 : rs2.length = L.length := Paired.length hp2
      -- the dict of the roads
      refine ⟨_, rfl, D, rfl, ⟨_, SqL.of h2⟩, fun D2 hD2 => ?_⟩
      refine dc_it (walk_list (xs := rs2.map V.ref)) (fun i H' => Same H2 H' ∧ ∃ kvs, H' D2 = some (.dT kvs) ∧ Built kvs ((L.map keyR).take i)) ⟨same_new hD2, [], upd_same, Built.nil⟩ (fun i H' _ p => SqL.of (p.1 _ _ h2)) ?_ fun H3 p => ?_
      · rintro i x H' H3 hi ⟨s4, kvs, e4, bu⟩ ⟨rfl, hx⟩
        obtain ⟨r, hr1, rfl⟩ := map_at hx
        have hiL : i < L.length := lr2 ▸ (List.getElem?_eq_some_iff.mp hr1).1
        obtain ⟨ab, hab⟩ : ∃ ab, L[i]? = some ab := ⟨_, List.getElem?_eq_getElem hiL⟩
        have h7 := paired_at hp2 hr1 hab
        have hk : (L.map keyR)[i]? = some (keyR ab) := by rw [List.getElem?_map, hab] <;> rfl
        have le := bu.le
        rw [List.length_take] at le
        refine ⟨rfl, yes_go ⟨_, rfl, ⟨_, .inr ⟨kvs, keyR ab, r, e4, rfl, s4 _ _ h7, ?_, rfl⟩, same_mut s4 hD2, _, upd_same, ?_⟩⟩⟩
        · exact Nat.lt_of_le_of_lt (show kvs.length ≤ 1000 by omega) (by decide)
        · rw [take_snoc hk]
          exact bu.put _ _
      obtain ⟨s4, kvs, e4, bu⟩ := p
      rw [List.take_of_length_le (by rw [List.length_map, List.length_map, lr2] <;> exact Nat.le_refl _)] at bu
      refine ⟨D2, kvs, rfl, e4, _, rfl, _, _, rfl, .inl ⟨_, SqL.of (s4 _ _ h2), rfl⟩, rfl, decide (¬ L.Nodup), ?_, ?_⟩
      · rw [List.length_map, lr2, ← List.length_map (f := keyR) (as := L)]
        refine congrArg V.bl ((ne_int _ _).trans (decide_eq_decide.mpr ?_))
        rw [Ne, bu.nd]
        exact not_congr ⟨fun q => nodup_of_keyR q, fun q => nodup_keyR q⟩
      have s5 : Same H H3 := s3.trans s4
      refine ite2 (fun c2 => ?_) fun c2 => ?_
      · refine (k H3 s5).1 (if_neg fun z => ?_)
        rw [fm] at z
        exact (of_decide_eq_true c2) z.2.2
      have ndL : L.Nodup := Decidable.byContradiction fun z => c2 (decide_eq_true z)
      refine ⟨_, rfl, (k H3 s5).2 L D rs2 ?_ (s4 _ _ h2) (hp2.same s4)⟩
      refine (if_pos ⟨hl, fun p hp => ?_, ?_⟩).trans (by rw [fm])
      · exact all _ (by rw [hgs]; exact List.mem_map_of_mem hp)
      · rw [fm]
        exact ndL
end
end K80
namespace K80
open PySem PySem.Spec PyProof.Rows L2
/-- what checked_evening is asked: a thing, an evening -/
structure EvOk (N : List Str) (R : List Rd2) : Prop where
  rz : R.length ≤ 1000
  ok : ∀ ab ∈ R, PyData.strOk ab.1 = true ∧ PyData.strOk ab.2 = true
def spChecked (K : PySem.W.Frag) (C CV CE : Addr) : Sp := fun vs H Q E => ∃ v x, vs = [v, x] ∧
  ((∃ n, TyN K H v n ∧ Raised E H CV "thing" v) ∨
   ∃ a N R o, v = .ref a ∧ ValAt C H a N R ∧ EvArg K H x o ∧ EvOk N R ∧ (knownEv N R o = none → Raised E H CE "evening" x) ∧
     ∀ L, knownEv N R o = some L → ∀ H' p rs, Same H H' → H' p = some (.lst (rs.map V.ref)) → PairsAt H' rs L → Q (.ref p) H')
theorem Raised.up {E : XK} {H H1 : Hp} {C : Addr} {n : Str} {v : V} (h : Raised E H C n v) (e : Same H H1) : Raised E H1 C n v := fun H' d e2 hd => h H' d (e.trans e2) hd
section
variable {P : Program} {w : World} {K : PySem.W.Frag} {mg : Str → Option Value} {base : Heap}
theorem ok_checked_evening (T : Txt K mg) (Z : Errs P K mg T) : FnOk P w K mg base (L2.CX P w) 4 T.checked_evening.f T.checked_evening.fd ["valley", "evening"] (spChecked K T.C Z.CV Z.CE) := by
  have G_check_valley : FnOk P w K mg base (L2.CX P w) 3 T.check_valley.f T.check_valley.fd ["thing"] (spCheckValley K T.C Z.CV) := ok_check_valley T Z
  have G_known_evening : FnOk P w K mg base CX0 3 T.known_evening.f T.known_evening.fd ["valley", "thing"] (spKnown K T.C) := ok_known_evening T
  refine T.checked_evening.F.okX sc_checked_evening (fun vs H Q E h => ?_) (fun cdv A outer s H vs Q E hr h => ?_)
  · obtain ⟨v, x, rfl, _⟩ := h
    rfl
  · obtain ⟨v, x, rfl, h⟩ := h
    -- slots: 0 valley, 1 evening, 2 found
    refine ⟨_, (pss_cons (ps_expr (pe_call G_check_valley (hr.mono (by decide)) rfl T.check_valley.mgx T.check_valley.F.kp T.check_valley.b .nil (passes_call (W := fun c d _ H => E c d H) (takes_of rfl rfl rfl rfl) (fun _ _ _ _ h => h)) (pa_cons (pv 0) pa_nil)))
    (pss_cons (ps_set (i := 2) sc_checked_evening.nd rfl (Or.inl rfl) (pe_call G_known_evening (hr.mono (by decide)) rfl T.known_evening.mgx T.known_evening.F.kp T.known_evening.b .nil pass0 (pa_cons (pv 0) (pa_cons (pv 1) pa_nil))))
    (pss_cons (ps_if (pt_cmpR op_isN (pv 2) pe_non (nomark _)) (pss_one (ps_raiseErr rfl Z.eE ini_E hr (takes_of rfl rfl rfl rfl) (pa_cons (pv 1) pa_nil))) pss_nil)
    (pss_one (ps_ret (pv 2)))))), ?_⟩
    rcases h with ⟨n, t, kr⟩ | ⟨a, N, R, o, rfl, hV, hE, hO, kn, ks⟩
    · exact ⟨_, rfl, v, false, rfl, .no t, fun q => Bool.noConfusion q, fun _ => kr⟩
    · obtain ⟨dx, an, ar, ao, ap, fs, f, rs, pl, v1, _⟩ := hV.ex
      refine ⟨_, rfl, _, true, rfl, .yes v1, fun _ => ?_, fun q => Bool.noConfusion q⟩
      refine ⟨_, rfl, _, rfl, a, x, o, N, R, rfl, hV, hE, hO.rz, hO.ok, fun H1 s1 => ⟨fun e => ?_, fun L p rs e hp hr2 => ?_⟩⟩
      · refine ⟨_, rfl, rfl, true, rfl, iteT ⟨_, rfl, _, rfl, fun d hd => ?_⟩⟩
        exact kn e _ d (s1.trans (same_new hd)) upd_same
      · refine ⟨_, rfl, rfl, false, rfl, iteF ⟨_, rfl, ?_⟩⟩
        exact ks L e H1 p rs s1 hp hr2
end
end K80
namespace K80
open PySem PySem.Spec PyProof.Rows L2
/-! ### who feasts: the plain words -/
def partStep (N : List Str) (lots : Str → List Str) (ab : Rd2) : List Str := N.filter fun n => decide (n ∈ lots ab.1 ++ lots ab.2)
def lotsStep (N : List Str) (lots : Str → List Str) (ab : Rd2) : Str → List Str := fun n => if n ∈ partStep N lots ab then partStep N lots ab else lots n
def lotsAll (N : List Str) (lots : Str → List Str) (L : List Rd2) : Str → List Str := L.foldl (lotsStep N) lots
def partFn (N : List Str) : (Str → List Str) → List Rd2 → Rd2 → List Str
  | _, [], _ => []
  | lots, ab :: r, x => if x = ab then partStep N lots ab else partFn N (lotsStep N lots ab) r x
def sing : Str → List Str := fun n => [n]
theorem partFn_at {N : List Str} {ab : Rd2} : ∀ {L : List Rd2} {lots : Str → List Str} {i : Nat}, L.Nodup → L[i]? = some ab → partFn N lots L ab = partStep N (lotsAll N lots (L.take i)) ab
  | [], _, _, _, e => by cases e
  | b :: L, lots, 0, nd, e => by
    obtain rfl := Option.some.inj (show some b = some ab from e)
    exact if_pos rfl
  | b :: L, lots, i + 1, nd, e => by
    have e' : L[i]? = some ab := e
    have ne : ¬ ab = b := fun z => (List.nodup_cons.mp nd).1 (z ▸ List.mem_of_getElem? e')
    show (if ab = b then _ else _) = _
    rw [if_neg ne, partFn_at (List.nodup_cons.mp nd).2 e']
    rfl
theorem lotsAll_snoc {N : List Str} {lots : Str → List Str} {L : List Rd2} {i : Nat} {ab : Rd2} (h : L[i]? = some ab) : lotsAll N lots (L.take (i + 1)) = lotsStep N (lotsAll N lots (L.take i)) ab := by
  unfold lotsAll
  rw [take_snoc h, List.foldl_append]
  rfl
theorem partStep_sub {N : List Str} {lots : Str → List Str} {ab : Rd2} {n : Str} (h : n ∈ partStep N lots ab) : n ∈ N := (List.mem_filter.mp h).1
theorem partFn_sub {N : List Str} {x : Rd2} {n : Str} : ∀ {L : List Rd2} {lots : Str → List Str}, n ∈ partFn N lots L x → n ∈ N
  | [], _, h => by cases h
  | ab :: r, lots, h => by
    have h' : n ∈ (if x = ab then partStep N lots ab else partFn N (lotsStep N lots ab) r x) := h
    split at h'
    · exact partStep_sub h'
    · exact partFn_sub h'
theorem partFn_nd {N : List Str} (nd : N.Nodup) {x : Rd2} : ∀ {L : List Rd2} {lots : Str → List Str}, (partFn N lots L x).Nodup
  | [], _ => .nil
  | ab :: r, lots => by
    show (if x = ab then partStep N lots ab else partFn N (lotsStep N lots ab) r x).Nodup
    split
    · exact List.Pairwise.filter _ nd
    · exact partFn_nd nd
theorem partFn_len {N : List Str} {x : Rd2} : ∀ {L : List Rd2} {lots : Str → List Str}, (partFn N lots L x).length ≤ N.length
  | [], _ => Nat.zero_le _
  | ab :: r, lots => by
    show (if x = ab then partStep N lots ab else partFn N (lotsStep N lots ab) r x).length ≤ _
    split
    · exact List.length_filter_le _ _
    · exact partFn_len
theorem lots_len {N : List Str} {n : Str} (h1 : 1 ≤ N.length) : ∀ {L : List Rd2} {lots : Str → List Str}, (∀ n, (lots n).length ≤ N.length) → (lotsAll N lots L n).length ≤ N.length
  | [], lots, h => h n
  | ab :: r, lots, h => by
    show (lotsAll N (lotsStep N lots ab) r n).length ≤ _
    refine lots_len h1 fun m => ?_
    unfold lotsStep
    split
    · exact List.length_filter_le _ _
    · exact h m
/-- a dict of parts, in the order of R -/
def PartsAt (H : Hp) (D : Addr) (R : List Rd2) (f : Rd2 → List Str) : Prop := ∃ (kvs : List (List Key × V)) (ls : List Addr), H D = some (.dT kvs) ∧ kvs.map (·.2) = ls.map V.ref ∧ Paired (fun l ab => H l = some (.lst ((f ab).map V.str))) ls R
theorem Same.kb {Z : Addr → Bool} {D : Addr} {H H' : Hp} (a : Same H H') : KpB Z D H H' := fun _ _ h _ _ => a _ _ h
section
variable {J : It} {G : Hp → Prop} {H1 : Hp} {D : Addr} {Qd : Hp → Prop} {σ : L2.St} {vs : List Nat} {j : Nat} {tv : TE}
/-- {n: e(n) for n in names}, the value by a relation -/
theorem dcR {N : List Str} (w : Walk J N.length G (YAt (N.map V.str))) (nd : N.Nodup) (Rel : Hp → Str → V → Prop) (hD : H1 D = none) (hz : N.length ≤ 100000)
    (mono : ∀ (H H' : Hp) (n : Str) (v : V) (kvs : List (Key × V)), H D = some (.dK kvs) → KpB noZ D H H' → Rel H n v → Rel H' n v) (hG : ∀ H', Same H1 H' → G H') (hw : ∀ x, wipe ((wipe σ vs).set j (some x)) vs = wipe σ vs) (hj : j < σ.length)
    (hv : ∀ n H' (Q : VK), n ∈ N → Same H1 H' → (∀ v H2, Same H' H2 → Rel H2 n v → Q v H2) → tv ((wipe σ vs).set j (some (.str n))) H' Q)
    (k : ∀ (H' : Hp) (f : Str → V), Same H1 H' → H' D = some (.dK (dOf N f)) → (∀ n ∈ N, Rel H' n (f n)) → Qd H') :
    ∃ W : Nat → Nat → Hp → Prop, (∃ m, W 0 m (upd H1 D (.dK []))) ∧ ∀ i m H, W i m H → (J.stop i H ∧ Qd H) ∨ (J.go i H ∧ ∃ Nx : Hp → Prop, (∀ H', Nx H' → ∃ m', m' < m ∧ W (i + 1) m' H') ∧
      ∀ x H', J.yld i H x H' → gName j x (wipe σ vs) H' fun σ2 H2 => wipe σ2 vs = wipe σ vs ∧ tYes σ2 H2 fun b H3 => if b = true then tVar j σ2 H3 fun y H4 => tv σ2 H4 fun z H5 => ∃ H6, DPut H5 D y z H6 ∧ Nx H6 else Nx H3) := by
  refine dc_it w (fun i H' => Same H1 H' ∧ ∃ f, H' D = some (.dK (dOf (N.take i) f)) ∧ ∀ n ∈ N.take i, Rel H' n (f n)) ⟨same_new hD, fun _ => .non, upd_same, fun n h => by cases h⟩ (fun i H' _ p => hG H' p.1) ?_ fun H' p => ?_
  · rintro i x H' H2 hi ⟨s1, f, e1, r1⟩ ⟨rfl, hx⟩
    obtain ⟨n, hn, rfl⟩ := map_strs_at hx
    have hm : n ∈ N := List.mem_of_getElem? hn
    have no := not_in_take nd hn
    refine ⟨hw _, yes_go ⟨.str n, ?_, ?_⟩⟩
    · rw [List.getElem?_set_self (by rw [wipe_length]; exact hj)]
    refine hv n H2 _ hm s1 fun v H3 s3 hr => ⟨_, .inl ⟨dOf (N.take i) f, Sum.inr n, s3 _ _ e1, rfl, ?_, rfl⟩, same_mut (s1.trans s3) hD, fun m => if m = n then v else f m, ?_, fun m hm2 => ?_⟩
    · rw [dOf_len, List.length_take]
      exact Nat.lt_of_lt_of_le (show min i N.length < 100001 by omega) (by decide)
    · have c1 : dOf (N.take i) f = dOf (N.take i) fun m => if m = n then v else f m := dOf_congr fun m h => (if_neg (fun z => no (by rw [← z]; exact h))).symm
      have c2 := put_dOf_next (f := fun m => if m = n then v else f m) nd hn
      rw [if_pos rfl] at c2
      rw [upd_same, c1, c2]
    · dsimp only
      by_cases e : m = n
      · rw [if_pos e, e]
        exact mono H3 _ _ _ _ (s3 _ _ e1) (KpB.upd (Same.kb (Same.refl _))) hr
      · rw [if_neg e]
        rw [take_snoc hn] at hm2
        rcases List.mem_append.mp hm2 with h | h
        · exact mono H2 _ _ _ _ e1 (KpB.upd (Same.kb s3)) (r1 m h)
        · exact absurd (List.mem_singleton.mp h) e
  · obtain ⟨s1, f, e1, r1⟩ := p
    rw [List.take_length] at e1 r1
    exact k H' f s1 e1 r1
end
theorem not_in_take_of {α : Type} {l : List α} {i : Nat} {x : α} (nd : l.Nodup) (h : l[i]? = some x) : ¬ x ∈ l.take i := fun z => by
  obtain ⟨j, hj, ej⟩ := List.mem_iff_getElem.mp z
  rw [List.length_take] at hj
  have e9 : l[j]? = some x := by
    rw [← ej, List.getElem_take]
    exact List.getElem?_eq_getElem (by omega)
  have : i = j := (List.getElem?_inj (l := l) (List.getElem?_eq_some_iff.mp h).1 nd).mp (h.trans e9.symm)
  omega
def spParts (C : Addr) : Sp := fun vs H Q _ => ∃ (v a : Addr) (N : List Str) (R L : List Rd2) (rs : List Addr), vs = [.ref v, .ref a] ∧ ValAt C H v N R ∧ N.Nodup ∧ 1 ≤ N.length ∧ N.length ≤ 1000 ∧ R.length ≤ 1000 ∧ L.length ≤ 1000 ∧
  H a = some (.lst (rs.map V.ref)) ∧ PairsAt H rs L ∧ L.Nodup ∧ R.Nodup ∧ (∀ ab ∈ R, ab ∈ L) ∧ (∀ ab ∈ L, ab.1 ∈ N ∧ ab.2 ∈ N) ∧ ∀ H' D, Same H H' → H D = none → PartsAt H' D R (partFn N sing L) → Q (.ref D) H'
section
variable {P : Program} {w : World} {K : PySem.W.Frag} {mg : Str → Option Value} {base : Heap}
theorem ok_parts_by (T : Txt K mg) : FnOk P w K mg base CX0 1 T.parts_by.f T.parts_by.fd ["valley", "known"] (spParts T.C) := by
  refine T.parts_by.F.ok sc_parts_by (fun vs H Q E h => ?_) (fun cdv A outer s H vs Q E hr h => ?_)
  · obtain ⟨v, a, N, R, L, rs, rfl, _⟩ := h
    rfl
  · obtain ⟨v, a, N, R, L, rs, rfl, hV, nd, n1, nz, rz, lz, ha, hL, ndL, ndR, sub, ends, k⟩ := h
    -- slots: 0 valley, 1 known, 2 lots, 3 found*, 4 one, 5 other, 6 both*, 7 part, 8 name, 9 road
    refine ⟨_, (pss_cons (ps_asg (pe_tup (pa_cons (pe_dcA (own := [("name", 8)]) (g := gName 8) (tt := tYes) (o0 := .dK []) (.inl rfl) (hu_of hr) rfl sc_parts_by.nd (pi_tup (pe_fld (pv 0) rfl)) (blkOk_by (N := N_parts_by) (own := [("name", 8)]) (sc := defScope s_parts_by) (by decide +kernel)) (fun _ _ _ _ _ => (pg_name (i := 8) sc_parts_by.nd rfl (Or.inl rfl))) (fun _ _ _ _ _ => pts_nil) (fun _ _ _ _ _ => (pv 8)) (fun _ _ _ _ _ => (pe_lst (pa_cons (pv 8) pa_nil)))) (pa_cons pe_dnewT pa_nil))) (pg_tup rfl (pgs_cons (pg_name (i := 2) sc_parts_by.nd rfl (Or.inl rfl)) (pgs_cons (pg_name (i := 3) sc_parts_by.nd rfl (Or.inr rfl)) pgs_nil))))
    (pss_cons (ps_for PassesOwn.never rfl (pi_list (pv 1)) (pg_tup rfl (pgs_cons (pg_name (i := 4) sc_parts_by.nd rfl (Or.inl rfl)) (pgs_cons (pg_name (i := 5) sc_parts_by.nd rfl (Or.inl rfl)) pgs_nil)))
      (pss_cons (ps_set (i := 6) sc_parts_by.nd rfl (Or.inr rfl) (pe_dcA (own := [("name", 8)]) (g := gName 8) (tt := tYes) (o0 := .dK []) (.inl rfl) (hu_of hr) rfl sc_parts_by.nd (pi_list (pe_op op_cat (pe_dget (hu_of hr) (pv 2) (pv 4) (fun _ _ => rfl)) (pe_dget (hu_of hr) (pv 2) (pv 5) (fun _ _ => rfl)))) (blkOk_by (N := N_parts_by) (own := [("name", 8)]) (sc := defScope s_parts_by) (by decide +kernel)) (fun _ _ _ _ _ => (pg_name (i := 8) sc_parts_by.nd rfl (Or.inl rfl))) (fun _ _ _ _ _ => pts_nil) (fun _ _ _ _ _ => (pv 8)) (fun _ _ _ _ _ => pe_bl)))
    (pss_cons (ps_setLc (i := 7) (own := [("name", 8)]) (g := gName 8) rfl sc_parts_by.nd rfl rfl (sw_true rfl rfl rfl (by decide +kernel)) (pi_tup (pe_fld (pv 0) rfl)) (blkOk_by (N := N_parts_by) (own := [("name", 8)]) (sc := defScope s_parts_by) (by decide +kernel)) (fun _ _ _ _ _ => (pg_name (i := 8) sc_parts_by.nd rfl (Or.inl rfl))) (fun _ _ _ _ _ => (pts_one (pt_cmp (pc_din (hu_of hr) (pv 8) (pv 6)) rfl))) (fun _ _ _ _ _ => (pv 8)))
    (pss_cons (ps_dput (hu_of hr) (pv 3) (pe_tup (pa_cons (pv 4) (pa_cons (pv 5) pa_nil))) (pv 7) rfl)
    (pss_one (ps_for PassesOwn.never rfl (pi_list (pv 7)) (pg_name (i := 8) sc_parts_by.nd rfl (Or.inl rfl))
      (pss_one (ps_dput (hu_of hr) (pv 2) (pv 8) (pv 7) rfl))))))))
    (pss_one (ps_ret (pe_dcA (own := [("road", 9)]) (g := gName 9) (tt := tYes) (o0 := .dT []) (.inr rfl) (hu_of hr) rfl sc_parts_by.nd (pi_tup (pe_fld (pv 0) rfl)) (blkOk_by (N := N_parts_by) (own := [("road", 9)]) (sc := defScope s_parts_by) (by decide +kernel)) (fun _ _ _ _ _ => (pg_name (i := 9) sc_parts_by.nd rfl (Or.inl rfl))) (fun _ _ _ _ _ => pts_nil) (fun _ _ _ _ _ => (pv 9)) (fun _ _ _ _ _ => (pe_callTy (call_list_ofK (K := K) rfl) (by rfl) T.n_list (by decide +kernel) (pa_cons (pe_dget (hu_of hr) (pv 3) (pv 9) (fun _ _ => rfl)) pa_nil)))))))), ?_⟩
    obtain ⟨dx, an, ar, ao, ap, fs, f, rs0, pl, v1, v2, v3, v4, v5, v6, v7, v8, v9, v10, v11⟩ := hV.ex
    have lrs : rs.length = L.length := Paired.length hL
    refine ⟨_, rfl, v, T.C, dx, fs, _, rfl, v1, T.clC, T.no_names, v2, an, rfl, ⟨_, SqT.of v3⟩, fun dd hdd => ?_⟩
    refine dcR walk_tupN nd (fun H' n u => ∃ l, u = .ref l ∧ H' l = some (.lst [.str n])) hdd (by omega) (fun H1 H2 n u kvs e1 e2 r => ?_) (fun H' e => SqT.of (e _ _ v3)) (fun _ => rfl) (by exact (by decide : 8 < 10)) (fun n H' Q2 hn e q => ?_) fun H1 g s1 e1 r1 => ?_
    · obtain ⟨l, rfl, h⟩ := r
      exact ⟨l, rfl, e2 _ _ h rfl (ne_of h e1 (fun z => nomatch z))⟩
    · exact ⟨_, rfl, ⟨show 1 ≤ sizeLine by decide, fun l hl => q _ _ (same_new hl) ⟨l, rfl, upd_same⟩⟩⟩
    refine fun fd hfd => ⟨(show 2 ≤ sizeLine by decide), fun t ht => ⟨t, _, rfl, SqT.of upd_same, rfl, _, _, rfl, _, _, rfl, rfl, ?_⟩⟩
    have dfd : dd ≠ fd := ne_of_none e1 hfd
    have s2 : Same H (upd (upd H1 fd (.dT [])) t (.tup [.ref dd, .ref fd])) := (s1.trans (same_new hfd)).trans (same_new ht)
    have m2 : Same H1 (upd (upd H1 fd (.dT [])) t (.tup [.ref dd, .ref fd])) := (same_new hfd).trans (same_new ht)
    have hfd2 : upd (upd H1 fd (.dT [])) t (.tup [.ref dd, .ref fd]) fd = some (.dT []) := by
      rw [upd_ne (ne_of_none upd_same ht), upd_same]
    have hfd0 : H fd = none := s1.free hfd
    generalize upd (upd H1 fd (.dT [])) t (.tup [.ref dd, .ref fd]) = H2 at s2 m2 hfd2
    refine ⟨_, rfl, a, rfl, ⟨_, SqL.of (s2 _ _ ha)⟩, ?_⟩
    refine for_it (walk_list (xs := rs.map V.ref)) (fun i σ H' => Same H H' ∧ ∃ (o4 o5 o6 o7 o8 : Option V) (l : Str → Addr) (fkv : List (List Key × V)), σ = [some (.ref v), some (.ref a), some (.ref dd), some (.ref fd), o4, o5, o6, o7, o8, none] ∧
      H' dd = some (.dK (dOf N fun n => .ref (l n))) ∧ (∀ n ∈ N, H' (l n) = some (.lst ((lotsAll N sing (L.take i) n).map V.str))) ∧ H' fd = some (.dT fkv) ∧ Built fkv ((L.map keyR).take i) ∧
      ∀ j ab, j < i → L[j]? = some ab → ∃ p, valV fkv (keyR ab) = some (.ref p) ∧ H' p = some (.lst ((partStep N (lotsAll N sing (L.take j)) ab).map V.str))) ?_ (fun i σ H' _ p => SqL.of (p.1 _ _ ha)) ?_ ?_
    · obtain ⟨l, hl⟩ : ∃ l : Str → Addr, ∀ n ∈ N, g n = .ref (l n) ∧ H1 (l n) = some (.lst [.str n]) := by
        refine ⟨fun n => if h : n ∈ N then Classical.choose (r1 n h) else 0, fun n hn => ?_⟩
        dsimp only
        rw [dif_pos hn]
        exact Classical.choose_spec (r1 n hn)
      refine ⟨s2, none, none, none, none, none, l, [], rfl, ?_, fun n hn => ?_, hfd2, Built.nil, fun j ab hj => absurd hj (Nat.not_lt_zero _)⟩
      · rw [m2 _ _ e1, dOf_congr fun n hn => (hl n hn).1]
      · exact m2 _ _ (hl n hn).2
    · rintro i x σ H' H3 hi ⟨s4, o4, o5, o6, o7, o8, l, fkv, rfl, hd, hl, hf, bu, old⟩ ⟨rfl, hx⟩
      obtain ⟨u0, hu0, rfl⟩ := map_at hx
      have hiL : i < L.length := lrs ▸ (List.getElem?_eq_some_iff.mp hu0).1
      obtain ⟨⟨a0, b0⟩, hab⟩ : ∃ ab, L[i]? = some ab := ⟨_, List.getElem?_eq_getElem hiL⟩
      obtain ⟨ma, mb⟩ : a0 ∈ N ∧ b0 ∈ N := ends _ (List.mem_of_getElem? hab)
      have hu := s4 _ _ (paired_at hL hu0 hab)
      have la : (lotsAll N sing (L.take i) a0).length ≤ N.length := lots_len n1 fun _ => n1
      have lb : (lotsAll N sing (L.take i) b0).length ≤ N.length := lots_len n1 fun _ => n1
      refine ⟨u0, _, rfl, SqT.of hu, rfl, _, _, rfl, _, _, rfl, rfl, ?_⟩
      -- both
      refine ⟨_, rfl, _, rfl, dd, _, rfl, dget_dOf hd ma, _, rfl, _, rfl, dd, _, rfl, dget_dOf hd mb, l a0, l b0, _, _, rfl, rfl, hl _ ma, hl _ mb, ?_, fun q hq => ?_⟩
      · rw [List.length_map, List.length_map]
        exact Nat.le_trans (show _ ≤ 2000 by omega) (by decide)
      obtain ⟨both, hboth⟩ : ∃ both : List Str, both = lotsAll N sing (L.take i) a0 ++ lotsAll N sing (L.take i) b0 := ⟨_, rfl⟩
      rw [← List.map_append, ← hboth]
      have lbo : both.length ≤ 2000 := by rw [hboth, List.length_append]; omega
      refine ⟨q, rfl, ⟨_, SqL.of upd_same⟩, fun D hD => ?_⟩
      have s5 : Same H (upd H3 q (.lst (both.map V.str))) := s4.trans (same_new hq)
      have t5 : Same H3 (upd H3 q (.lst (both.map V.str))) := same_new hq
      have hq5 : upd H3 q (.lst (both.map V.str)) q = some (.lst (both.map V.str)) := upd_same
      generalize upd H3 q (.lst (both.map V.str)) = H5 at hD s5 t5 hq5 ⊢
      refine dc_it (walk_list (xs := both.map V.str)) (fun i H' => Same H5 H' ∧ ∃ kvs : List (Key × V), H' D = some (.dK kvs) ∧ Built kvs ((both.map Sum.inr).take i)) ⟨same_new hD, [], upd_same, Built.nil⟩ (fun i H' _ p => SqL.of (p.1 _ _ hq5)) ?_ fun H6 p => ?_
      · rintro i x H' H3 hi ⟨s6, kvs, e6, bu6⟩ ⟨rfl, hx⟩
        obtain ⟨n, hn, rfl⟩ := map_strs_at hx
        have hk : (both.map (Sum.inr : Str → Key))[i]? = some (Sum.inr n) := by rw [List.getElem?_map, hn] <;> rfl
        have le := bu6.le
        rw [List.length_take, List.length_map] at le
        refine ⟨rfl, yes_go ⟨_, rfl, ⟨_, .inl ⟨kvs, Sum.inr n, e6, rfl, ?_, rfl⟩, same_mut s6 hD, _, upd_same, ?_⟩⟩⟩
        · exact Nat.lt_of_le_of_lt (show kvs.length ≤ 2000 by omega) (by decide)
        · rw [take_snoc hk]
          exact bu6.put _ _
      obtain ⟨s6, bkv, e6, bu6⟩ := p
      rw [List.take_of_length_le (by rw [List.length_map, List.length_map] <;> exact Nat.le_refl _)] at bu6
      have s7 : Same H H6 := s5.trans s6
      have t7 : Same H3 H6 := t5.trans s6
      -- part
      refine ⟨_, rfl, v, T.C, dx, fs, _, rfl, s7 _ _ v1, T.clC, T.no_names, v2, an, rfl, ⟨_, SqT.of (s7 _ _ v3)⟩, fun D2 hD2 => ?_⟩
      refine lcP (xs := N.map V.str) walk_tup (fun x => match x with | .str n => decide (n ∈ both) | _ => false) (fun x => x) hD2 (by rw [List.length_map]; omega) (fun H7 e7 => SqT.of (e7 _ _ (s7 _ _ v3))) (fun _ => rfl) (fun x H7 Q7 hm e7 q7 => ?_) (fun x H7 Q7 hm _ e7 q7 => ⟨_, rfl, q7 _ (Same.refl _)⟩) fun H7 e7 h7 => ?_
      · obtain ⟨n, hn, rfl⟩ := List.mem_map.mp hm
        refine ⟨_, rfl, _, rfl, D, _, rfl, .inl ⟨bkv, Sum.inr n, .inl (e7 _ _ e6), rfl, rfl⟩, _, rfl, ?_⟩
        have e8 : (valV bkv (Sum.inr n)).isSome = decide (n ∈ both) := by
          rw [bu6.mem]
          refine decide_eq_decide.mpr ⟨fun z => ?_, fun z => List.mem_map_of_mem z⟩
          obtain ⟨m, hm2, e⟩ := List.mem_map.mp z
          exact Sum.inr.inj e ▸ hm2
        rw [e8]
        exact q7 _ (Same.refl _)
      have hpart : H7 D2 = some (.lst ((partStep N (lotsAll N sing (L.take i)) (a0, b0)).map V.str)) := by
        rw [h7, List.map_id', List.filter_map, hboth]
        rfl
      obtain ⟨part, hpt⟩ : ∃ part, part = partStep N (lotsAll N sing (L.take i)) (a0, b0) := ⟨_, rfl⟩
      rw [← hpt] at hpart
      have s8 : Same H H7 := s7.trans e7
      have t8 : Same H3 H7 := t7.trans e7
      -- found[one, other] = part
      have fnew : valV fkv (keyR (a0, b0)) = none := bu.no (not_in_take_of (nodup_keyR ndL) (by rw [List.getElem?_map, hab] <;> rfl))
      have flen : fkv.length ≤ 1000 := by
        have := bu.le
        rw [List.length_take, List.length_map] at this
        omega
      have hf7 : H7 fd = some (.dT fkv) := t8 _ _ hf
      refine ⟨_, rfl, _, rfl, _, rfl, _, rfl, ⟨show 2 ≤ sizeLine by decide, fun t2 ht2 => ⟨fd, _, rfl, .inr ⟨fkv, keyR (a0, b0), t2, ?_, rfl, upd_same, Nat.lt_of_le_of_lt flen (by decide), rfl⟩, ?_⟩⟩⟩
      · rw [upd_ne (ne_of_none hf7 ht2)]
        exact hf7
      have s9 : Same H (upd (upd H7 t2 (.tup [.str a0, .str b0])) fd (.dT (putK fkv (keyR (a0, b0)) (.ref D2)))) := same_mut (s8.trans (same_new ht2)) hfd0
      have b9 : KpB noZ fd H7 (upd (upd H7 t2 (.tup [.str a0, .str b0])) fd (.dT (putK fkv (keyR (a0, b0)) (.ref D2)))) := KpB.upd (Same.kb (same_new ht2))
      have f9 : upd (upd H7 t2 (.tup [.str a0, .str b0])) fd (.dT (putK fkv (keyR (a0, b0)) (.ref D2))) fd = some (.dT (putK fkv (keyR (a0, b0)) (.ref D2))) := upd_same
      generalize upd (upd H7 t2 (.tup [.str a0, .str b0])) fd (.dT (putK fkv (keyR (a0, b0)) (.ref D2))) = H9 at s9 b9 f9 ⊢
      have lst9 : ∀ b xs, H7 b = some (.lst xs) → H9 b = some (.lst xs) := fun b xs e => b9 b _ e rfl (ne_of e hf7 (fun z => nomatch z))
      have d9 : H9 dd = some (.dK (dOf N fun n => .ref (l n))) := b9 _ _ (t8 _ _ hd) rfl dfd
      have p9 := lst9 _ _ hpart
      have psub : ∀ n ∈ part, n ∈ N := fun n hn => by
        rw [hpt] at hn
        exact partStep_sub hn
      refine ⟨_, rfl, D2, rfl, ⟨_, SqL.of p9⟩, ?_⟩
      have hdd0 : H dd = none := hdd
      refine for_it (walk_list (xs := part.map V.str)) (fun k σ Hk => Same H Hk ∧ KpB noZ dd H9 Hk ∧ (∃ o8, σ = [some (.ref v), some (.ref a), some (.ref dd), some (.ref fd), some (.str a0), some (.str b0), some (.ref D), some (.ref D2), o8, none]) ∧
        Hk dd = some (.dK (dOf N fun n => .ref (if n ∈ part.take k then D2 else l n)))) ?_ (fun k σ Hk _ p => SqL.of (p.2.1 _ _ p9 rfl (ne_of p9 d9 (fun z => nomatch z)))) ?_ ?_
      · refine ⟨s9, fun _ _ e _ _ => e, ⟨_, rfl⟩, ?_⟩
        rw [d9]
        refine congrArg (fun z => some (HO.dK z)) (dOf_congr fun n _ => ?_)
        rw [if_neg (fun z => by cases z)]
      · rintro k' x σ Hk Hk2 hk ⟨sk, bk, ⟨o8', rfl⟩, dk⟩ ⟨rfl, hx2⟩
        obtain ⟨n, hn, rfl⟩ := map_strs_at hx2
        have nN : n ∈ N := psub n (List.mem_of_getElem? hn)
        refine ⟨_, rfl, _, rfl, _, rfl, dd, _, rfl, .inl ⟨_, Sum.inr n, dk, rfl, by rw [dOf_len]; exact Nat.lt_of_le_of_lt nz (by decide), rfl⟩, same_mut sk hdd0, KpB.upd bk, ⟨_, rfl⟩, ?_⟩
        rw [upd_same, put_dOf nN]
        refine congrArg (fun z => some (HO.dK z)) (dOf_congr fun m _ => ?_)
        rw [take_snoc hn]
        by_cases e : m = n
        · rw [if_pos e, if_pos (List.mem_append_right _ (List.mem_singleton.mpr e))]
        · rw [if_neg e]
          refine congrArg V.ref ?_
          by_cases e2 : m ∈ part.take k'
          · rw [if_pos e2, if_pos (List.mem_append_left _ e2)]
          · rw [if_neg e2, if_neg]
            intro z
            rcases List.mem_append.mp z with z | z
            · exact e2 z
            · exact e (List.mem_singleton.mp z)
      · rintro σ Hk ⟨sk, bk, ⟨o8', rfl⟩, dk⟩
        rw [List.length_map, List.take_length] at dk
        have fk : Hk fd = some (.dT (putK fkv (keyR (a0, b0)) (.ref D2))) := bk _ _ f9 rfl (Ne.symm dfd)
        have lk : ∀ b xs, H7 b = some (.lst xs) → Hk b = some (.lst xs) := fun b xs e => bk _ _ (lst9 _ _ e) rfl (ne_of (lst9 _ _ e) d9 (fun z => nomatch z))
        refine ⟨sk, _, _, _, _, _, (fun n => if n ∈ part then D2 else l n), _, rfl, dk, fun n hn => ?_, fk, ?_, fun j ab hj hj2 => ?_⟩
        · rw [lotsAll_snoc hab]
          show Hk (if n ∈ part then D2 else l n) = some (.lst (List.map V.str (if n ∈ partStep N (lotsAll N sing (L.take i)) (a0, b0) then partStep N (lotsAll N sing (L.take i)) (a0, b0) else lotsAll N sing (L.take i) n)))
          rw [← hpt]
          by_cases e : n ∈ part
          · rw [if_pos e, if_pos e]
            exact lk _ _ hpart
          · rw [if_neg e, if_neg e]
            exact lk _ _ (t8 _ _ (hl n hn))
        · have hk2 : (L.map keyR)[i]? = some (keyR (a0, b0)) := by rw [List.getElem?_map, hab] <;> rfl
          rw [take_snoc hk2]
          exact bu.put _ _
        · rw [valV_put]
          by_cases e : j = i
          · subst e
            rw [hab] at hj2
            cases hj2
            exact ⟨D2, if_pos rfl, by rw [← hpt]; exact lk _ _ hpart⟩
          · obtain ⟨p, hp1, hp2⟩ := old j ab (by omega) hj2
            refine ⟨p, ?_, lk _ _ (t8 _ _ hp2)⟩
            rw [if_neg, hp1]
            intro z
            have e3 := keyR_inj z
            rw [e3] at hj2
            exact e ((List.getElem?_inj (l := L) (by omega) ndL).mp (hj2.trans hab.symm))
    · rintro σ H3 ⟨s4, o4, o5, o6, o7, o8, l, fkv, rfl, hd, hl, hf, bu, old⟩
      refine ⟨_, rfl, v, T.C, dx, fs, _, rfl, s4 _ _ v1, T.clC, T.no_own_roads, v6, ao, rfl, ⟨_, SqT.of (s4 _ _ v7)⟩, fun D hD => ?_⟩
      refine dc_it (walk_tup (xs := rs0.map V.ref)) (fun i H' => Same H3 H' ∧ ∃ (kvs : List (List Key × V)) (ls : List Addr), H' D = some (.dT kvs) ∧ Built kvs ((R.map keyR).take i) ∧ kvs.map (·.2) = ls.map V.ref ∧
        Paired (fun l ab => H' l = some (.lst ((partFn N sing L ab).map V.str))) ls (R.take i)) ⟨same_new hD, [], [], upd_same, Built.nil, rfl, .nil⟩ (fun i H' _ p => SqT.of (p.1 _ _ (s4 _ _ v7))) ?_ fun H' p => ?_
      · rintro i x H' H4 hi ⟨s5, kvs, ls, e5, bu5, ev, hp⟩ ⟨rfl, hx⟩
        obtain ⟨r, hr1, rfl⟩ := map_at hx
        have lr0 : rs0.length = R.length := Paired.length v8
        have hiR : i < R.length := lr0 ▸ (List.getElem?_eq_some_iff.mp hr1).1
        obtain ⟨ab, hab⟩ : ∃ ab, R[i]? = some ab := ⟨_, List.getElem?_eq_getElem hiR⟩
        have hrt := s5 _ _ (s4 _ _ (paired_at v8 hr1 hab))
        obtain ⟨j, hj, ej⟩ := List.mem_iff_getElem.mp (sub ab (List.mem_of_getElem? hab))
        have hLj : L[j]? = some ab := by rw [← ej]; exact List.getElem?_eq_getElem hj
        obtain ⟨p, hp1, hp2⟩ := old j ab (by rw [List.length_map, lrs]; exact hj) hLj
        rw [← partFn_at ndL hLj] at hp2
        have hk : (R.map keyR)[i]? = some (keyR ab) := by rw [List.getElem?_map, hab] <;> rfl
        have le := bu5.le
        rw [List.length_take, List.length_map] at le
        have knew : valV kvs (keyR ab) = none := bu5.no (not_in_take_of (nodup_keyR ndR) hk)
        refine ⟨rfl, yes_go ⟨_, rfl, ?_⟩⟩
        refine ⟨_, rfl, _, rfl, fd, _, rfl, .inr ⟨fkv, keyR ab, r, .inl (s5 _ _ hf), rfl, hrt, hp1.symm⟩, p, _, rfl, .inl (SqL.of (s5 _ _ hp2)), fun l2 hl2 => ?_⟩
        have dl : D ≠ l2 := ne_of_none e5 hl2
        refine ⟨_, .inr ⟨kvs, keyR ab, r, by rw [upd_ne dl]; exact e5, rfl, same_new hl2 _ _ hrt, Nat.lt_of_le_of_lt (show kvs.length ≤ 1000 by omega) (by decide), rfl⟩, same_mut (s5.trans (same_new hl2)) hD, _, ls ++ [l2], upd_same, ?_, ?_, ?_⟩
        · rw [take_snoc hk]
          exact bu5.put _ _
        · rw [putK_new _ knew, List.map_append, List.map_append, ev]
          rfl
        · rw [take_snoc hab]
          refine paired_snoc ?_ (paired_same (F := fun l ab => H4 l = some (.lst ((partFn N sing L ab).map V.str))) (fun l ab h => ?_) hp)
          · rw [upd_ne (Ne.symm dl), upd_same]
          · rw [upd_ne (ne_of h e5 (fun z => nomatch z)), upd_ne (ne_of_none h hl2)]
            exact h
      · obtain ⟨s5, kvs, ls, e5, bu5, ev, hp⟩ := p
        rw [show (rs0.map V.ref).length = R.length by rw [List.length_map]; exact Paired.length v8, List.take_length] at hp
        exact k H' D (s4.trans s5) (s4.free hD) ⟨kvs, ls, e5, ev, hp⟩
end
end K80
namespace K80
open PySem PySem.Spec PyProof.Rows L2
/-- how often n is among the parts -/
def cntFn (R : List Rd2) (f : Rd2 → List Str) (n : Str) : Nat := R.countP fun ab => decide (n ∈ f ab)
theorem cnt_snoc {R : List Rd2} {f : Rd2 → List Str} {n : Str} {i : Nat} {ab : Rd2} (h : R[i]? = some ab) : cntFn (R.take (i + 1)) f n = cntFn (R.take i) f n + if n ∈ f ab then 1 else 0 := by
  unfold cntFn
  rw [take_snoc h, List.countP_append, List.countP_singleton]
  by_cases e : n ∈ f ab
  · rw [if_pos e, if_pos (decide_eq_true e)]
  · rw [if_neg e, if_neg (fun z => e (of_decide_eq_true z))]
def spFeasts (C : Addr) : Sp := fun vs H Q _ => ∃ (v D : Addr) (N : List Str) (R : List Rd2) (f : Rd2 → List Str), vs = [.ref v, .ref D] ∧ ValAt C H v N R ∧ N.Nodup ∧ N.length ≤ 1000 ∧ R.length ≤ 1000 ∧ PartsAt H D R f ∧
  (∀ ab, (f ab).Nodup ∧ (f ab).length ≤ 1000 ∧ ∀ n ∈ f ab, n ∈ N) ∧ ∀ H' c, KpB noZ D H H' → H c = none → H' c = some (.dK (dOf N fun n => .int (cntFn R f n : Nat))) → Q (.ref c) H'
theorem vals_at {H : Hp} {D : Addr} {R : List Rd2} {f : Rd2 → List Str} (h : PartsAt H D R f) : ∃ u ls, H D = some u ∧ DVals u (ls.map V.ref) ∧ Paired (fun l ab => H l = some (.lst ((f ab).map V.str))) ls R ∧ (∀ xs, u ≠ .lst xs) ∧ (∀ xs, u ≠ .dK xs) ∧ (∀ xs, u ≠ .tup xs) ∧ (∀ a b c, u ≠ .ins a b c) := by
  obtain ⟨kvs, ls, e, ev, hp⟩ := h
  exact ⟨.dT kvs, ls, e, .inr ⟨kvs, rfl, ev.symm⟩, hp, (fun _ z => by cases z), (fun _ z => by cases z), (fun _ z => by cases z), (fun _ _ _ z => by cases z)⟩
section
variable {P : Program} {w : World} {K : PySem.W.Frag} {mg : Str → Option Value} {base : Heap}
theorem ok_feasts_by (T : Txt K mg) : FnOk P w K mg base CX0 1 T.feasts_by.f T.feasts_by.fd ["valley", "found"] (spFeasts T.C) := by
  refine T.feasts_by.F.ok sc_feasts_by (fun vs H Q E h => ?_) (fun cdv A outer s H vs Q E hr h => ?_)
  · obtain ⟨v, D, N, R, f, rfl, _⟩ := h
    rfl
  · obtain ⟨v, D, N, R, f, rfl, hV, nd, nz, rz, hP, hf, k⟩ := h
    -- slots: 0 valley, 1 found, 2 counts, 3 part, 4 name
    refine ⟨_, (pss_cons (ps_setDc (i := 2) (own := [("name", 4)]) (g := gName 4) (tt := tYes) (o0 := .dK []) (.inl rfl) (hu_of hr) rfl sc_feasts_by.nd rfl rfl (swD_true rfl rfl rfl (by decide +kernel)) (pi_tup (pe_fld (pv 0) rfl)) (blkOk_by (N := N_feasts_by) (own := [("name", 4)]) (sc := defScope s_feasts_by) (by decide +kernel)) (fun _ _ _ _ _ => (pg_name (i := 4) sc_feasts_by.nd rfl (Or.inl rfl))) (fun _ _ _ _ _ => pts_nil) (fun _ _ _ _ _ => (pv 4)) (fun _ _ _ _ _ => pe_int))
    (pss_cons (ps_for PassesOwn.never rfl (pi_valuesF (pv 1)) (pg_name (i := 3) sc_feasts_by.nd rfl (Or.inl rfl))
      (pss_one (ps_for PassesOwn.never rfl (pi_list (pv 3)) (pg_name (i := 4) sc_feasts_by.nd rfl (Or.inl rfl))
      (pss_one (ps_daug (hu_of hr) (pv 2) (pv 4) pe_int in_add (fun _ _ _ => rfl))))))
    (pss_one (ps_ret (pv 2))))), ?_⟩
    obtain ⟨dx, an, ar, ao, ap, fs, f0, rs0, pl, v1, v2, v3, v4, v5, v6, v7, v8, v9, v10, v11⟩ := hV.ex
    obtain ⟨u, ls, hD, dv, hp, u1, u2, u3, u4⟩ := vals_at hP
    have ll : ls.length = R.length := Paired.length hp
    refine ⟨_, rfl, v, T.C, dx, fs, _, rfl, v1, T.clC, T.no_names, v2, an, rfl, ⟨_, SqT.of v3⟩, fun c hc => ?_⟩
    refine dcN walk_tupN nd (fun _ => .int 0) hc (by omega) (fun H' e => SqT.of (e _ _ v3)) (fun _ => rfl) (by exact (by decide : 4 < 5)) (fun n H' Q2 hn e q => q _ (Same.refl _)) fun H1 s1 e1 => ?_
    have dc : D ≠ c := ne_of_none hD hc
    refine ⟨_, rfl, D, u, ls.map V.ref, rfl, s1 _ _ hD, dv, fun o => ?_⟩
    refine for_it walk_itf (fun i σ H' => KpB noZ D H H' ∧ H' D = some (.frz o u) ∧ (∃ o3 o4 : Option V, σ = [some (.ref v), some (.ref D), some (.ref c), o3, o4]) ∧ H' c = some (.dK (dOf N fun n => .int (cntFn (R.take i) f n : Nat)))) ?_ (fun i σ H' _ p => p.2.1) ?_ ?_
    · refine ⟨KpB.upd (Same.kb s1), upd_same, ⟨_, _, rfl⟩, ?_⟩
      rw [upd_ne (Ne.symm dc), e1]
      rfl
    · rintro i x σ H' H3 hi ⟨b1, hD1, ⟨o3, o4, rfl⟩, c1⟩ ⟨rfl, hx⟩
      obtain ⟨l, hl, rfl⟩ := map_at hx
      have hiR : i < R.length := ll ▸ (List.getElem?_eq_some_iff.mp hl).1
      obtain ⟨ab, hab⟩ : ∃ ab, R[i]? = some ab := ⟨_, List.getElem?_eq_getElem hiR⟩
      have hl0 := paired_at hp hl hab
      have lD : l ≠ D := fun z => by rw [z, hD] at hl0; exact u1 _ (Option.some.inj hl0)
      have hl1 := b1 _ _ hl0 rfl lD
      obtain ⟨nd2, lz2, sub2⟩ := hf ab
      refine ⟨_, rfl, l, rfl, ⟨_, SqL.of hl1⟩, ?_⟩
      refine for_it (walk_list (xs := (f ab).map V.str)) (fun k σ H' => KpB noZ D H H' ∧ H' D = some (.frz o u) ∧ (∃ o4 : Option V, σ = [some (.ref v), some (.ref D), some (.ref c), some (.ref l), o4]) ∧
        H' c = some (.dK (dOf N fun n => .int ((cntFn (R.take i) f n + if n ∈ (f ab).take k then 1 else 0 : Nat) : Nat)))) ?_ (fun k σ H' _ p => SqL.of (p.1 _ _ hl0 rfl lD)) ?_ ?_
      · refine ⟨b1, hD1, ⟨_, rfl⟩, ?_⟩
        rw [c1]
        refine congrArg (fun z => some (HO.dK z)) (dOf_congr fun n _ => ?_)
        rw [if_neg (fun z => by cases z)] <;> rfl
      · rintro k' x H2 σ H' hk ⟨b2, hD2, ⟨o4', rfl⟩, c2⟩ ⟨rfl, hx2⟩
        obtain ⟨n, hn, rfl⟩ := map_strs_at hx2
        have nN : n ∈ N := sub2 n (List.mem_of_getElem? hn)
        have nk : ¬ n ∈ (f ab).take k' := not_in_take_of nd2 hn
        refine ⟨_, rfl, _, rfl, c, _, rfl, dget_dOf c2 nN, ?_⟩
        rw [if_neg nk]
        refine ⟨_, _, rfl, rfl, _, .inl ⟨_, Sum.inr n, c2, rfl, by rw [dOf_len]; exact Nat.lt_of_le_of_lt nz (by decide), rfl⟩, ?_⟩
        have cD : D ≠ c := dc
        refine ⟨fun b o h1 h2 h3 => ?_, ?_, ⟨_, rfl⟩, ?_⟩
        · rw [upd_ne (ne_of_none h1 hc)]
          exact b2 b o h1 h2 h3
        · rw [upd_ne cD]
          exact hD2
        · rw [upd_same, put_dOf nN]
          refine congrArg (fun z => some (HO.dK z)) (dOf_congr fun m _ => ?_)
          rw [take_snoc hn]
          by_cases e : m = n
          · rw [if_pos e, e, if_pos (List.mem_append_right _ (List.mem_singleton.mpr rfl))] <;> rfl
          · rw [if_neg e]
            by_cases e2 : m ∈ (f ab).take k'
            · rw [if_pos e2, if_pos (List.mem_append_left _ e2)]
            · rw [if_neg e2, if_neg]
              intro z
              rcases List.mem_append.mp z with z | z
              · exact e2 z
              · exact e (List.mem_singleton.mp z)
      · rintro σ H4 ⟨b2, hD2, ⟨o4', rfl⟩, c2⟩
        refine ⟨b2, hD2, ⟨_, _, rfl⟩, ?_⟩
        rw [List.length_map, List.take_length] at c2
        rw [c2]
        refine congrArg (fun z => some (HO.dK z)) (dOf_congr fun n _ => ?_)
        rw [cnt_snoc hab]
    · rintro σ H4 ⟨b2, hD2, ⟨o3, o4', rfl⟩, c2⟩
      refine ⟨_, rfl, k _ c b2 hc ?_⟩
      rw [List.length_map, ll, List.take_length] at c2
      exact c2
end
end K80
namespace K80
open PySem PySem.Spec PyProof.Rows L2
/-- what is plain about a valley -/
structure VOk (N : List Str) (R : List Rd2) : Prop where
  nd : N.Nodup
  n1 : 1 ≤ N.length
  nz : N.length ≤ 1000
  rz : R.length ≤ 1000
  ends : ∀ ab ∈ R, ab.1 ∈ N ∧ ab.2 ∈ N
  ok : ∀ ab ∈ R, PyData.strOk ab.1 = true ∧ PyData.strOk ab.2 = true
  ndR : R.Nodup
theorem nodup_le {α : Type} [DecidableEq α] : ∀ {L R : List α}, L.Nodup → (∀ x ∈ L, x ∈ R) → L.length ≤ R.length
  | [], _, _, _ => Nat.zero_le _
  | a :: L, R, nd, sub => by
    have ha := sub a List.mem_cons_self
    have h := nodup_le (R := R.erase a) (List.nodup_cons.mp nd).2 fun x hx => (List.mem_erase_of_ne (fun z => (List.nodup_cons.mp nd).1 (by rw [← z]; exact hx))).mpr (sub x (List.mem_cons_of_mem _ hx))
    rw [List.length_erase_of_mem ha] at h
    have := List.length_pos_of_mem ha
    rw [List.length_cons]
    omega
theorem sub_full {α : Type} [DecidableEq α] {L R : List α} (nd : L.Nodup) (sub : ∀ x ∈ L, x ∈ R) (le : R.length ≤ L.length) : ∀ x ∈ R, x ∈ L := fun x hx => Decidable.byContradiction fun no => by
  have h := nodup_le (L := x :: L) (R := R) (List.nodup_cons.mpr ⟨no, nd⟩) fun y hy => by
    rcases List.mem_cons.mp hy with rfl | hy
    · exact hx
    · exact sub y hy
  rw [List.length_cons] at h
  omega
/-- a known evening holds the valley's roads, each once -/
theorem known_facts {N : List Str} {R L : List Rd2} {o : Option (List (Option Rd2))} (h : knownEv N R o = some L) : L.Nodup ∧ L.length = R.length ∧ (∀ ab ∈ L, ab ∈ R) ∧ ∀ ab ∈ R, ab ∈ L := by
  cases o with
  | none => cases h
  | some os =>
    have h' : (if os.length = R.length ∧ (∀ p ∈ os, roadIn N R p ≠ none) ∧ (os.filterMap (roadIn N R)).Nodup then some (os.filterMap (roadIn N R)) else none) = some L := h
    split at h'
    · rename_i c
      obtain rfl := Option.some.inj h'
      have ln : (os.filterMap (roadIn N R)).length = os.length := by
        have c2 := c.2.1
        clear c h h'
        induction os with
        | nil => rfl
        | cons p os ih =>
          have np := c2 p List.mem_cons_self
          cases e : roadIn N R p with
          | none => exact absurd e np
          | some ab =>
            rw [List.filterMap_cons, e]
            exact congrArg (· + 1) (ih fun q hq => c2 q (List.mem_cons_of_mem _ hq))
      have sub : ∀ ab ∈ os.filterMap (roadIn N R), ab ∈ R := fun ab hab => by
        obtain ⟨p, _, e⟩ := List.mem_filterMap.mp hab
        cases p with
        | none => cases e
        | some q =>
          have e' : (if q.1 ∈ N ∧ q.2 ∈ N then roadOf R q else none) = some ab := e
          split at e'
          · exact List.mem_of_find?_eq_some e'
          · cases e'
      exact ⟨c.2.2, ln.trans c.1, sub, sub_full c.2.2 sub (by rw [ln, c.1] <;> exact Nat.le_refl _)⟩
    · cases h'
/-! ### heaps as they are passed -/
inductive HpArg (K : PySem.W.Frag) (H : Hp) : V → Option (List (Key × V)) → Prop
  | no {x : V} {n : String} (t : TyN K H x n) (h : (n == "dict") = false) : HpArg K H x none
  | dict {d : Addr} {kvs : List (Key × V)} (e : H d = some (.dK kvs)) (h : ∀ n v, valV kvs (Sum.inr n) = some v → ∃ o, NumV K H v o) : HpArg K H (.ref d) (some kvs)
theorem NumV.same {K : PySem.W.Frag} {H H' : Hp} {v : V} {o : Option Int} (e : Same H H') (h : NumV K H v o) : NumV K H' v o := by
  cases h with
  | int i => exact .int i
  | no t h => exact .no (t.same e) h
theorem HpArg.same {K : PySem.W.Frag} {H H' : Hp} {x : V} {o : Option (List (Key × V))} (e : Same H H') (h : HpArg K H x o) : HpArg K H' x o := by
  cases h with
  | no t h => exact .no (t.same e) h
  | dict e2 h => exact .dict (e _ _ e2) fun n v q => let ⟨o, z⟩ := h n v q; ⟨o, z.same e⟩
def hpOk (kvs : List (Key × V)) (n : Str) : Bool := match valV kvs (Sum.inr n) with
  | some (.int i) => decide (0 ≤ i)
  | _ => false
def heapsOk (N : List Str) (o : Option (List (Key × V))) : Prop := ∃ kvs, o = some kvs ∧ kvs.length = N.length ∧ ∀ n ∈ N, hpOk kvs n = true
def heapOf (kvs : List (Key × V)) (n : Str) : Int := match valV kvs (Sum.inr n) with
  | some (.int i) => i
  | _ => 0
theorem hpOk_val {kvs : List (Key × V)} {n : Str} (h : hpOk kvs n = true) : valV kvs (Sum.inr n) = some (.int (heapOf kvs n)) ∧ 0 ≤ heapOf kvs n := by
  unfold hpOk at h
  unfold heapOf
  split at h
  · rename_i i e
    rw [e]
    exact ⟨rfl, of_decide_eq_true h⟩
  · cases h
/-- how often each feasts -/
def oftN (N : List Str) (R L : List Rd2) (n : Str) : Nat := cntFn R (partFn N sing L) n
theorem ty_int {K : PySem.W.Frag} {H : Hp} {i : Int} {n : String} (t : TyN K H (.int i) n) : n = "int" := by
  have h := t.ty
  cases h with
  | base h =>
    cases h
    rfl
theorem hpOk_num {K : PySem.W.Frag} {H : Hp} {kvs : List (Key × V)} {n : Str} {v : V} {o : Option Int} (e : valV kvs (Sum.inr n) = some v) (h : NumV K H v o) : numB o = hpOk kvs n := by
  unfold hpOk
  rw [e]
  cases h with
  | int i => rfl
  | no t h =>
    cases v with
    | int i =>
      rw [ty_int t] at h
      cases h
    | _ => rfl
inductive Outc where
  | badV | badE | badH
  | good (N : List Str) (R L : List Rd2) (h : Str → Int)
inductive AskIn (K : PySem.W.Frag) (C : Addr) (H : Hp) : V → V → V → Outc → Prop
  | badV {v x y : V} {n : String} (t : TyN K H v n) : AskIn K C H v x y .badV
  | badE {v : Addr} {x y : V} {N : List Str} {R : List Rd2} {o : Option (List (Option Rd2))} (hV : ValAt C H v N R) (ok : VOk N R) (he : EvArg K H x o) (hk : knownEv N R o = none) : AskIn K C H (.ref v) x y .badE
  | badH {v : Addr} {x y : V} {N : List Str} {R L : List Rd2} {o : Option (List (Option Rd2))} {oh : Option (List (Key × V))} (hV : ValAt C H v N R) (ok : VOk N R) (he : EvArg K H x o) (hk : knownEv N R o = some L) (hh : HpArg K H y oh) (no : ¬ heapsOk N oh) : AskIn K C H (.ref v) x y .badH
  | good {v d : Addr} {x : V} {N : List Str} {R L : List Rd2} {o : Option (List (Option Rd2))} {kvs : List (Key × V)} (hV : ValAt C H v N R) (ok : VOk N R) (he : EvArg K H x o) (hk : knownEv N R o = some L) (hd : H d = some (.dK kvs)) (hl : kvs.length = N.length) (hh : ∀ n ∈ N, hpOk kvs n = true)
      (hb : ∀ n ∈ N, heapOf kvs n < 2 ^ 100) : AskIn K C H (.ref v) x (.ref d) (.good N R L (heapOf kvs))
structure Answers (CV CE CH : Addr) (v x y : V) (oc : Outc) (Fin : List Str → List Rd2 → List Rd2 → (Str → Int) → Prop) (H : Hp) (E : XK) : Prop where
  bv : oc = .badV → Raised E H CV "thing" v
  be : oc = .badE → Raised E H CE "evening" x
  bh : oc = .badH → Raised E H CH "heaps" y
  gd : ∀ N R L h, oc = .good N R L h → Fin N R L h
def spShares (K : PySem.W.Frag) (C CV CE CH : Addr) : Sp := fun vs H Q E => ∃ v x y oc, vs = [v, x, y] ∧ AskIn K C H v x y oc ∧ Answers CV CE CH v x y oc (fun N R L h =>
  ∀ H' p c c2, Same H H' → H' p = some (.tup [.ref c, .ref c2]) → H' c = some (.dK (dOf N fun n => .int (oftN N R L n : Nat))) → H' c2 = some (.dK (dOf N fun n => .int (h n))) → Q (.ref p) H') H E
section
variable {P : Program} {w : World} {K : PySem.W.Frag} {mg : Str → Option Value} {base : Heap}
theorem VOk.ev {N : List Str} {R : List Rd2} (h : VOk N R) : EvOk N R := ⟨h.rz, h.ok⟩
theorem ok_checked_shares (T : Txt K mg) (Z : Errs P K mg T) : FnOk P w K mg base (L2.CX P w) 5 T.checked_shares.f T.checked_shares.fd ["valley", "evening", "heaps"] (spShares K T.C Z.CV Z.CE Z.CH) := by
  have G_checked_evening : FnOk P w K mg base (L2.CX P w) 4 T.checked_evening.f T.checked_evening.fd ["valley", "evening"] (spChecked K T.C Z.CV Z.CE) := ok_checked_evening T Z
  have G_parts_by : FnOk P w K mg base CX0 1 T.parts_by.f T.parts_by.fd ["valley", "known"] (spParts T.C) := ok_parts_by T
  have G_feasts_by : FnOk P w K mg base CX0 1 T.feasts_by.f T.feasts_by.fd ["valley", "found"] (spFeasts T.C) := ok_feasts_by T
  have G_is_number : FnOk P w K mg base CX0 2 T.is_number.f T.is_number.fd ["thing"] (spIsNumber K) := ok_is_number T
  refine T.checked_shares.F.okX sc_checked_shares (fun vs H Q E h => ?_) (fun cdv A outer s H vs Q E hr h => ?_)
  · obtain ⟨v, x, y, oc, rfl, _⟩ := h
    rfl
  · obtain ⟨v, x, y, oc, rfl, hA, ans⟩ := h
    -- slots: 0 valley, 1 evening, 2 heaps*, 3 often, 4 name
    refine ⟨_, (pss_cons (ps_set (i := 3) sc_checked_shares.nd rfl (Or.inl rfl) (pe_call G_feasts_by (hr.mono (by decide)) rfl T.feasts_by.mgx T.feasts_by.F.kp T.feasts_by.b .nil pass0 (pa_cons (pv 0) (pa_cons (pe_call G_parts_by (hr.mono (by decide)) rfl T.parts_by.mgx T.parts_by.F.kp T.parts_by.b .nil pass0 (pa_cons (pv 0) (pa_cons (pe_call G_checked_evening (hr.mono (by decide)) rfl T.checked_evening.mgx T.checked_evening.F.kp T.checked_evening.b .nil (passes_call (W := fun c d _ H => E c d H) (takes_of rfl rfl rfl rfl) (fun _ _ _ _ h => h)) (pa_cons (pv 0) (pa_cons (pv 1) pa_nil))) pa_nil))) pa_nil))))
    (pss_cons (ps_if (PW.pt (pw_or (pt_not (pt_val (pe_callB call_isi (by rfl) T.n_isinstance (by decide +kernel) (pa_cons (pv 2) (pa_cons (pe_bltn (v := .ty "dict") (by rfl) T.n_dict (by decide +kernel) rfl) pa_nil))))) (pw_or1 (pt_cmpR op_ne (pe_callB call_lenD (by rfl) T.n_len (by decide +kernel) (pa_cons (pv 2) pa_nil)) (pe_callB call_len_seq (by rfl) T.n_len (by decide +kernel) (pa_cons (pe_fld (pv 0) rfl) pa_nil)) (nomark _))))) (pss_one (ps_raiseErr rfl Z.eH ini_H hr (takes_of rfl rfl rfl rfl) (pa_cons (pv 2) pa_nil))) pss_nil)
    (pss_cons (ps_if (pt_not (pt_val (pe_callB (cr_all rfl) (by rfl) T.n_all (by decide +kernel) (pa_cons (pe_lc (own := [("name", 4)]) (g := gName 4) (tt := tYes) rfl sc_checked_shares.nd (pi_tup (pe_fld (pv 0) rfl)) (blkOk_by (N := N_checked_shares) (own := [("name", 4)]) (sc := defScope s_checked_shares) (by decide +kernel)) (fun _ _ _ _ _ => (pg_name (i := 4) sc_checked_shares.nd rfl (Or.inl rfl))) (fun _ _ _ _ _ => pts_nil) (fun _ _ _ _ _ => (pe_and (pe_cmp (pc_din (hu_of hr) (pv 4) (pv 2)) rfl) (pe_one (pe_call G_is_number (hr.mono (by decide)) rfl T.is_number.mgx T.is_number.F.kp T.is_number.b .nil pass0 (pa_cons (pe_dget (hu_of hr) (pv 2) (pv 4) (fun _ _ => rfl)) pa_nil)))))) pa_nil)))) (pss_one (ps_raiseErr rfl Z.eH ini_H hr (takes_of rfl rfl rfl rfl) (pa_cons (pv 2) pa_nil))) pss_nil)
    (pss_one (ps_ret (pe_tup (pa_cons (pv 3) (pa_cons (pe_dcA (own := [("name", 4)]) (g := gName 4) (tt := tYes) (o0 := .dK []) (.inl rfl) (hu_of hr) rfl sc_checked_shares.nd (pi_tup (pe_fld (pv 0) rfl)) (blkOk_by (N := N_checked_shares) (own := [("name", 4)]) (sc := defScope s_checked_shares) (by decide +kernel)) (fun _ _ _ _ _ => (pg_name (i := 4) sc_checked_shares.nd rfl (Or.inl rfl))) (fun _ _ _ _ _ => pts_nil) (fun _ _ _ _ _ => (pv 4)) (fun _ _ _ _ _ => (pe_dget (hu_of hr) (pv 2) (pv 4) (fun _ _ => rfl)))) pa_nil)))))))), ?_⟩
    -- behind checked_evening: the parts, the counts
    have front : ∀ {E1 E2 : XK} {a : Addr} {N : List Str} {R L : List Rd2} {o : Option (List (Option Rd2))} (F : V → Hp → Prop), v = .ref a → ValAt T.C H a N R → VOk N R → knownEv N R o = some L →
        (∀ H2 c, Same H H2 → H c = none → H2 c = some (.dK (dOf N fun n => .int (oftN N R L n : Nat))) → F (.ref c) H2) → ∀ H' p rs, Same H H' → H' p = some (.lst (rs.map V.ref)) → PairsAt H' rs L →
        spParts T.C [.ref a, .ref p] H' (fun x H1 => spFeasts T.C [.ref a, x] H1 F E2) E1 := by
      intro E1 E2 a N R L o F ev hV ok hk f H' p rs s1 hp hrs
      obtain ⟨ndL, lL, sLR, sRL⟩ := known_facts hk
      refine ⟨a, p, N, R, L, rs, rfl, hV.same s1, ok.nd, ok.n1, ok.nz, ok.rz, by rw [lL]; exact ok.rz, hp, hrs, ndL, ok.ndR, sRL, fun ab hab => ok.ends ab (sLR ab hab), fun H2 D s2 hD hP => ?_⟩
      refine ⟨a, D, N, R, _, rfl, (hV.same s1).same s2, ok.nd, ok.nz, ok.rz, hP, fun ab => ⟨partFn_nd ok.nd, Nat.le_trans partFn_len ok.nz, fun n hn => partFn_sub hn⟩, fun H3 c b3 hc hc3 => ?_⟩
      have s3 : Same H' H3 := fun b u e => b3 b u (s2 b u e) rfl (ne_of_none e hD)
      exact f H3 c (s1.trans s3) ((s1.trans s2).free hc) hc3
    cases hA with
    | badV t => exact ⟨_, rfl, _, rfl, _, rfl, _, rfl, _, _, rfl, .inl ⟨_, t, ans.bv rfl⟩⟩
    | badE hV ok he hk =>
      exact ⟨_, rfl, _, rfl, _, rfl, _, rfl, _, _, rfl, .inr ⟨_, _, _, _, rfl, hV, he, ok.ev, fun _ => ans.be rfl, fun L e => by rw [hk] at e; cases e⟩⟩
    | badH hV ok he hk hh no =>
      rename_i a N R L o oh
      refine ⟨_, rfl, _, rfl, _, rfl, _, rfl, _, _, rfl, .inr ⟨_, _, _, _, rfl, hV, he, ok.ev, (fun e => by rw [hk] at e; cases e), fun L' e H1 p rs s1 hp hrs => ?_⟩⟩
      rw [hk] at e
      cases e
      dsimp only [tNil, List.cons_append, List.nil_append, List.append_nil]
      refine front _ rfl hV ok hk (fun H2 c s2 _ hc => ?_) H1 p rs s1 hp hrs
      have kr : Raised E H Z.CH "heaps" y := ans.bh rfl
      obtain ⟨dx, an, ar, ao, ap, fs, f0, rs0, pl, v1, v2, v3, v4, v5, v6, v7, v8, v9, v10, v11⟩ := (hV.same s2).ex
      cases hh with
      | no t e =>
        refine ⟨_, rfl, _, _, _, _, _, rfl, .ty _, (t.same s2).ty, kit_dict t.m, _, rfl, ?_⟩
        rw [e]
        exact iteT ⟨_, rfl, _, rfl, fun d hd => kr _ d (s2.trans (same_new hd)) upd_same⟩
      | dict hd hn =>
        rename_i d kvs
        refine ⟨_, rfl, _, _, _, _, _, rfl, .ty _, (TyN.dK (s2 _ _ hd)).ty, kit_dict (by decide), _, rfl, iteF ?_⟩
        refine ⟨_, rfl, d, kvs, rfl, s2 _ _ hd, _, rfl, a, T.C, dx, fs, _, rfl, v1, T.clC, T.no_names, v2, an, _, rfl, .inr (SqT.of v3), rfl, decide (kvs.length ≠ N.length), ?_, ?_⟩
        · rw [List.length_map]
          exact congrArg V.bl (ne_int _ _)
        refine ite2 (fun _ => ⟨_, rfl, _, rfl, fun d hd => kr _ d (s2.trans (same_new hd)) upd_same⟩) fun c2 => ?_
        have hl : kvs.length = N.length := Decidable.byContradiction fun z => c2 (decide_eq_true z)
        refine ⟨_, rfl, a, T.C, dx, fs, _, rfl, v1, T.clC, T.no_names, v2, an, rfl, ⟨_, SqT.of v3⟩, fun D hD => ?_⟩
        refine lcP (xs := N.map V.str) walk_tup (fun _ => true) (fun z => match z with | .str z => .bl (hpOk kvs z) | _ => .bl false) hD (by rw [List.length_map]; exact Nat.le_trans ok.nz (by decide)) (fun H5 e5 => SqT.of (e5 _ _ v3)) (fun _ => rfl) (fun _ _ _ _ _ q => q _ (Same.refl _)) (fun z H5 Q5 hm _ e5 q => ?_) fun H5 e5 h5 => ?_
        · obtain ⟨n, hnN, rfl⟩ := List.mem_map.mp hm
          have hd5 := e5 _ _ (s2 _ _ hd)
          refine ⟨_, rfl, _, rfl, d, _, rfl, .inl ⟨kvs, Sum.inr n, .inl hd5, rfl, rfl⟩, ?_⟩
          refine ⟨_, rfl, ite2 (fun c3 => ?_) fun c3 => ?_⟩
          · obtain ⟨u, hu⟩ := Option.isSome_iff_exists.mp c3
            obtain ⟨ou, hou⟩ := hn n u hu
            refine ⟨_, rfl, _, rfl, d, _, rfl, .inl ⟨kvs, Sum.inr n, .inl hd5, rfl, hu.symm⟩, u, ou, rfl, (hou.same s2).same e5, ?_⟩
            rw [hpOk_num hu hou]
            exact q _ (Same.refl _)
          · have e9 : hpOk kvs n = false := by
              unfold hpOk
              rw [Option.not_isSome_iff_eq_none.mp (fun z => c3 z)]
            have q' := q _ (Same.refl _)
            dsimp only at q'
            rw [e9] at q'
            exact q'
        have hfin : (N.map (hpOk kvs)).all id = false := by
          refine Bool.eq_false_iff.mpr fun z => no ⟨kvs, rfl, hl, fun n hnN => ?_⟩
          exact List.all_eq_true.mp z _ (List.mem_map_of_mem hnN)
        refine ⟨D, N.map (hpOk kvs), rfl, SqL.of ?_, _, rfl, ?_⟩
        · rw [h5]
          rw [List.filter_eq_self.mpr (fun _ _ => rfl), List.map_map, List.map_map]
          rfl
        rw [hfin]
        exact iteT ⟨_, rfl, _, rfl, fun d hd => kr _ d ((s2.trans e5).trans (same_new hd)) upd_same⟩
    | good hV ok he hk hd hl hh hb =>
      rename_i a d N R L o kvs
      refine ⟨_, rfl, _, rfl, _, rfl, _, rfl, _, _, rfl, .inr ⟨_, _, _, _, rfl, hV, he, ok.ev, (fun e => by rw [hk] at e; cases e), fun L' e H1 p rs s1 hp hrs => ?_⟩⟩
      rw [hk] at e
      cases e
      dsimp only [tNil, List.cons_append, List.nil_append, List.append_nil]
      refine front _ rfl hV ok hk (fun H2 c s2 _ hc => ?_) H1 p rs s1 hp hrs
      have fin := ans.gd N R L _ rfl
      obtain ⟨dx, an, ar, ao, ap, fs, f0, rs0, pl, v1, v2, v3, v4, v5, v6, v7, v8, v9, v10, v11⟩ := (hV.same s2).ex
      refine ⟨_, rfl, _, _, _, _, _, rfl, .ty _, (TyN.dK (s2 _ _ hd)).ty, kit_dict (by decide), _, rfl, iteF ?_⟩
      refine ⟨_, rfl, d, kvs, rfl, s2 _ _ hd, _, rfl, a, T.C, dx, fs, _, rfl, v1, T.clC, T.no_names, v2, an, _, rfl, .inr (SqT.of v3), rfl, false, ?_, iteF ?_⟩
      · rw [List.length_map, hl]
        exact congrArg V.bl ((ne_int _ _).trans (decide_eq_false fun z => z rfl))
      refine ⟨_, rfl, a, T.C, dx, fs, _, rfl, v1, T.clC, T.no_names, v2, an, rfl, ⟨_, SqT.of v3⟩, fun D hD => ?_⟩
      refine lcP (xs := N.map V.str) walk_tup (fun _ => true) (fun z => .bl true) hD (by rw [List.length_map]; exact Nat.le_trans ok.nz (by decide)) (fun H5 e5 => SqT.of (e5 _ _ v3)) (fun _ => rfl) (fun _ _ _ _ _ q => q _ (Same.refl _)) (fun z H5 Q5 hm _ e5 q => ?_) fun H5 e5 h5 => ?_
      · obtain ⟨n, hnN, rfl⟩ := List.mem_map.mp hm
        have hd5 := e5 _ _ (s2 _ _ hd)
        obtain ⟨e6, e7⟩ := hpOk_val (hh n hnN)
        refine ⟨_, rfl, _, rfl, d, _, rfl, .inl ⟨kvs, Sum.inr n, .inl hd5, rfl, rfl⟩, _, rfl, ?_⟩
        rw [e6]
        refine iteT ⟨_, rfl, _, rfl, d, _, rfl, .inl ⟨kvs, Sum.inr n, .inl hd5, rfl, e6.symm⟩, _, _, rfl, .int _, ?_⟩
        rw [show numB (some (heapOf kvs n)) = true from decide_eq_true e7]
        exact q _ (Same.refl _)
      have hfin : (N.map fun _ : Str => true).all id = true := List.all_eq_true.mpr fun b hb2 => by
        obtain ⟨_, _, rfl⟩ := List.mem_map.mp hb2
        rfl
      refine ⟨D, N.map fun _ : Str => true, rfl, SqL.of ?_, _, rfl, ?_⟩
      · rw [h5]
        rw [List.filter_eq_self.mpr (fun _ _ => rfl), List.map_map, List.map_map]
        rfl
      rw [hfin]
      refine iteF ⟨_, rfl, ?_⟩
      have v15 := e5 _ _ v1
      have v35 := e5 _ _ v3
      refine ⟨_, rfl, a, T.C, dx, fs, _, rfl, v15, T.clC, T.no_names, v2, an, rfl, ⟨_, SqT.of v35⟩, fun D2 hD2 => ?_⟩
      refine dcN walk_tupN ok.nd (fun n => .int (heapOf kvs n)) hD2 (Nat.le_trans ok.nz (by decide)) (fun H' e => SqT.of (e _ _ v35)) (fun _ => rfl) (by exact (by decide : 4 < 5)) (fun n H6 Q2 hn e6 q => ?_) fun H6 e6 h6 => ?_
      · refine ⟨_, rfl, _, rfl, d, _, rfl, .inl ⟨kvs, Sum.inr n, .inl (e6 _ _ (e5 _ _ (s2 _ _ hd))), rfl, (hpOk_val (hh n hn)).1.symm⟩, q _ (Same.refl _)⟩
      refine ⟨show 2 ≤ sizeLine by decide, fun p2 hp2 => ?_⟩
      have s7 : Same H6 (upd H6 p2 (.tup [.ref c, .ref D2])) := same_new hp2
      exact fin _ p2 c D2 (((s2.trans e5).trans e6).trans s7) upd_same (s7 _ _ (e6 _ _ (e5 _ _ hc))) (s7 _ _ h6)
end
end K80
namespace K80
open PySem PySem.Spec PyProof.Rows L2
theorem oft_le {N : List Str} {R L : List Rd2} {n : Str} : oftN N R L n ≤ R.length := List.countP_le_length
def lowV (a b : Int) : List V := [.int (low a b).1, .int (low a b).2]
/-- what is left in each house: a new dict at d, its pairs at g -/
structure LeftAt (H' : Hp) (N : List Str) (R L : List Rd2) (h : Str → Int) (d : Addr) (g : Str → Addr) : Prop where
  d : H' d = some (.dK (dOf N fun n => .ref (g n)))
  t : ∀ n ∈ N, H' (g n) = some (.tup (lowV (h n) (2 ^ oftN N R L n)))
def spLeavings (K : PySem.W.Frag) (C CV CE CH : Addr) : Sp := fun vs H Q E => ∃ v x y oc, vs = [v, x, y] ∧ AskIn K C H v x y oc ∧ Answers CV CE CH v x y oc (fun N R L h =>
  ∀ H' d g, Same H H' → H d = none → LeftAt H' N R L h d g → Q (.ref d) H') H E
/-- most often -/
def mostN (N : List Str) (R L : List Rd2) : Nat := (N.map (oftN N R L)).foldl max 0
def topN (N : List Str) (R L : List Rd2) (h : Str → Int) : Int := (N.map fun n => h n * 2 ^ (mostN N R L - oftN N R L n)).sum
def spTogether (K : PySem.W.Frag) (C CV CE CH : Addr) : Sp := fun vs H Q E => ∃ v x y oc, vs = [v, x, y] ∧ AskIn K C H v x y oc ∧ Answers CV CE CH v x y oc (fun N R L h =>
  ∀ H' p, Same H H' → H' p = some (.tup (lowV (topN N R L h) (2 ^ mostN N R L))) → Q (.ref p) H') H E
theorem foldl_max_le {l : List Nat} {m : Nat} : ∀ {a : Nat}, a ≤ m → (∀ x ∈ l, x ≤ m) → l.foldl max a ≤ m := by
  induction l with
  | nil => intro a h _; exact h
  | cons x l ih => intro a h h2; exact ih (Nat.max_le.mpr ⟨h, h2 x List.mem_cons_self⟩) fun y hy => h2 y (List.mem_cons_of_mem _ hy)
theorem foldl_max_ge {l : List Nat} : ∀ {a : Nat}, a ≤ l.foldl max a ∧ ∀ x ∈ l, x ≤ l.foldl max a := by
  induction l with
  | nil => intro a; exact ⟨Nat.le_refl _, fun x h => by cases h⟩
  | cons x l ih =>
    intro a
    obtain ⟨h1, h2⟩ := ih (a := max a x)
    refine ⟨Nat.le_trans (Nat.le_max_left _ _) h1, fun y hy => ?_⟩
    rcases List.mem_cons.mp hy with rfl | hy
    · exact Nat.le_trans (Nat.le_max_right _ _) h1
    · exact h2 y hy
theorem oft_most {N : List Str} {R L : List Rd2} {n : Str} (h : n ∈ N) : oftN N R L n ≤ mostN N R L := foldl_max_ge.2 _ (List.mem_map_of_mem h)
theorem most_le {N : List Str} {R L : List Rd2} : mostN N R L ≤ R.length := foldl_max_le (Nat.zero_le _) fun x hx => by
  obtain ⟨n, _, rfl⟩ := List.mem_map.mp hx
  exact oft_le
theorem pow_small {k : Nat} (h : k ≤ 1000) : ((2 : Int) ^ k).natAbs < 2 ^ 9000 := by
  rw [Int.natAbs_pow]
  exact Nat.pow_lt_pow_right (by decide) (by omega)
theorem pow_one_le (k : Nat) : (1 : Int) ≤ 2 ^ k := by
  have : (0 : Int) < 2 ^ k := Int.pow_pos (by decide)
  omega
section
variable {P : Program} {w : World} {K : PySem.W.Frag} {mg : Str → Option Value} {base : Heap}
theorem ok_leavings (T : Txt K mg) (Z : Errs P K mg T) : FnOk P w K mg base (L2.CX P w) 6 T.leavings.f T.leavings.fd ["valley", "evening", "heaps"] (spLeavings K T.C Z.CV Z.CE Z.CH) := by
  have G_checked_shares : FnOk P w K mg base (L2.CX P w) 5 T.checked_shares.f T.checked_shares.fd ["valley", "evening", "heaps"] (spShares K T.C Z.CV Z.CE Z.CH) := ok_checked_shares T Z
  have G_lowest : FnOk P w K mg base CX0 1 T.lowest.f T.lowest.fd ["top", "bottom"] spLowest := ok_lowest T
  have G_doubled : FnOk P w K mg base CX0 1 T.doubled.f T.doubled.fd ["times"] spDoubled := ok_doubled T
  refine T.leavings.F.okX sc_leavings (fun vs H Q E h => ?_) (fun cdv A outer s H vs Q E hr h => ?_)
  · obtain ⟨v, x, y, oc, rfl, _⟩ := h
    rfl
  · obtain ⟨v, x, y, oc, rfl, hA, ans⟩ := h
    -- slots: 0 valley, 1 evening, 2 heaps, 3 often*, 4 known*, 5 name
    refine ⟨_, (pss_cons (ps_asg (pe_call G_checked_shares (hr.mono (by decide)) rfl T.checked_shares.mgx T.checked_shares.F.kp T.checked_shares.b .nil (passes_call (W := fun c d _ H => E c d H) (takes_of rfl rfl rfl rfl) (fun _ _ _ _ h => h)) (pa_cons (pv 0) (pa_cons (pv 1) (pa_cons (pv 2) pa_nil)))) (pg_tup rfl (pgs_cons (pg_name (i := 3) sc_leavings.nd rfl (Or.inr rfl)) (pgs_cons (pg_name (i := 4) sc_leavings.nd rfl (Or.inr rfl)) pgs_nil))))
    (pss_one (ps_ret (pe_dcA (own := [("name", 5)]) (g := gName 5) (tt := tYes) (o0 := .dK []) (.inl rfl) (hu_of hr) rfl sc_leavings.nd (pi_tup (pe_fld (pv 0) rfl)) (blkOk_by (N := N_leavings) (own := [("name", 5)]) (sc := defScope s_leavings) (by decide +kernel)) (fun _ _ _ _ _ => (pg_name (i := 5) sc_leavings.nd rfl (Or.inl rfl))) (fun _ _ _ _ _ => pts_nil) (fun _ _ _ _ _ => (pv 5)) (fun _ _ _ _ _ => (pe_call G_lowest (hr.mono (by decide)) rfl T.lowest.mgx T.lowest.F.kp T.lowest.b .nil pass0 (pa_cons (pe_dget (hu_of hr) (pv 4) (pv 5) (fun _ _ => rfl)) (pa_cons (pe_call G_doubled (hr.mono (by decide)) rfl T.doubled.mgx T.doubled.F.kp T.doubled.b .nil pass0 (pa_cons (pe_dget (hu_of hr) (pv 3) (pv 5) (fun _ _ => rfl)) pa_nil)) pa_nil)))))))), ?_⟩
    refine ⟨_, rfl, _, rfl, _, rfl, v, x, y, oc, rfl, hA, ans.bv, ans.be, ans.bh, fun N R L h e => ?_⟩
    have fin := ans.gd N R L h e
    subst e
    cases hA with
    | good hV ok he hk hd hl hh hb =>
      rename_i a d o kvs
      intro H1 p c c2 s1 hp hc hc2
      refine ⟨p, _, rfl, SqT.of hp, rfl, _, _, rfl, _, _, rfl, rfl, ?_⟩
      obtain ⟨dx, an, ar, ao, ap, fs, f0, rs0, pl, v1, v2, v3, v4, v5, v6, v7, v8, v9, v10, v11⟩ := (hV.same s1).ex
      refine ⟨_, rfl, a, T.C, dx, fs, _, rfl, v1, T.clC, T.no_names, v2, an, rfl, ⟨_, SqT.of v3⟩, fun D hD => ?_⟩
      refine dcR walk_tupN ok.nd (fun H' n u => ∃ l, u = .ref l ∧ H' l = some (.tup (lowV (heapOf kvs n) (2 ^ oftN N R L n)))) hD (Nat.le_trans ok.nz (by decide)) (fun H1 H2 n u kvs e1 e2 r => ?_) (fun H' e => SqT.of (e _ _ v3)) (fun _ => rfl) (by exact (by decide : 5 < 6)) (fun n H' Q2 hn e q => ?_) fun H2 g s2 e2 r2 => ?_
      · obtain ⟨l, rfl, h⟩ := r
        exact ⟨l, rfl, e2 _ _ h rfl (ne_of h e1 (fun z => nomatch z))⟩
      · have lo : oftN N R L n ≤ 1000 := Nat.le_trans oft_le ok.rz
        refine ⟨_, rfl, _, rfl, c2, _, rfl, dget_dOf (e _ _ hc2) hn, _, rfl, _, rfl, c, _, rfl, dget_dOf (e _ _ hc) hn, oftN N R L n, rfl, by omega, ?_⟩
        exact ⟨_, _, rfl, (hpOk_val (hh n hn)).2, pow_one_le _, pow_small lo, fun p2 hp2 => q _ _ (same_new hp2) ⟨p2, rfl, upd_same⟩⟩
      · obtain ⟨l, hl2⟩ : ∃ l : Str → Addr, ∀ n ∈ N, g n = .ref (l n) ∧ H2 (l n) = some (.tup (lowV (heapOf kvs n) (2 ^ oftN N R L n))) := by
          refine ⟨fun n => if h : n ∈ N then Classical.choose (r2 n h) else 0, fun n hn => ?_⟩
          dsimp only
          rw [dif_pos hn]
          exact Classical.choose_spec (r2 n hn)
        refine fin H2 D l (s1.trans s2) (s1.free hD) ⟨?_, fun n hn => (hl2 n hn).2⟩
        rw [e2, dOf_congr fun n hn => (hl2 n hn).1]
theorem most_is {N : List Str} {R L : List Rd2} {m : Int} (n1 : 1 ≤ N.length) (h1 : m ∈ N.map fun n => (oftN N R L n : Int)) (h2 : ∀ y ∈ N.map (fun n => (oftN N R L n : Int)), y ≤ m) : m = (mostN N R L : Nat) := by
  obtain ⟨n, hn, rfl⟩ := List.mem_map.mp h1
  have le : mostN N R L ≤ oftN N R L n := foldl_max_le (Nat.zero_le _) fun x hx => by
    obtain ⟨k, hk, rfl⟩ := List.mem_map.mp hx
    have := h2 _ (List.mem_map_of_mem (f := fun n => (oftN N R L n : Int)) hk)
    omega
  have ge := oft_most (R := R) (L := L) hn
  omega
theorem sum_pos : ∀ {l : List Int}, (∀ x ∈ l, 0 ≤ x) → 0 ≤ l.sum
  | [], _ => Int.le_refl _
  | x :: l, h => by
    rw [List.sum_cons]
    exact Int.add_nonneg (h x List.mem_cons_self) (sum_pos fun y hy => h y (List.mem_cons_of_mem _ hy))
theorem top_pos {N : List Str} {R L : List Rd2} {h : Str → Int} (hh : ∀ n ∈ N, 0 ≤ h n) : 0 ≤ topN N R L h := sum_pos fun x hx => by
  obtain ⟨n, hn, rfl⟩ := List.mem_map.mp hx
  exact Int.mul_nonneg (hh n hn) (Int.le_of_lt (Int.pow_pos (by decide)))
theorem ok_left_together (T : Txt K mg) (Z : Errs P K mg T) : FnOk P w K mg base (L2.CX P w) 6 T.left_together.f T.left_together.fd ["valley", "evening", "heaps"] (spTogether K T.C Z.CV Z.CE Z.CH) := by
  have G_checked_shares : FnOk P w K mg base (L2.CX P w) 5 T.checked_shares.f T.checked_shares.fd ["valley", "evening", "heaps"] (spShares K T.C Z.CV Z.CE Z.CH) := ok_checked_shares T Z
  have G_lowest : FnOk P w K mg base CX0 1 T.lowest.f T.lowest.fd ["top", "bottom"] spLowest := ok_lowest T
  have G_doubled : FnOk P w K mg base CX0 1 T.doubled.f T.doubled.fd ["times"] spDoubled := ok_doubled T
  refine T.left_together.F.okX sc_left_together (fun vs H Q E h => ?_) (fun cdv A outer s H vs Q E hr h => ?_)
  · obtain ⟨v, x, y, oc, rfl, _⟩ := h
    rfl
  · obtain ⟨v, x, y, oc, rfl, hA, ans⟩ := h
    -- slots: 0 valley, 1 evening, 2 heaps, 3 often*, 4 known*, 5 most*, 6 name
    refine ⟨_, (pss_cons (ps_asg (pe_call G_checked_shares (hr.mono (by decide)) rfl T.checked_shares.mgx T.checked_shares.F.kp T.checked_shares.b .nil (passes_call (W := fun c d _ H => E c d H) (takes_of rfl rfl rfl rfl) (fun _ _ _ _ h => h)) (pa_cons (pv 0) (pa_cons (pv 1) (pa_cons (pv 2) pa_nil)))) (pg_tup rfl (pgs_cons (pg_name (i := 3) sc_left_together.nd rfl (Or.inr rfl)) (pgs_cons (pg_name (i := 4) sc_left_together.nd rfl (Or.inr rfl)) pgs_nil))))
    (pss_cons (ps_set (i := 5) sc_left_together.nd rfl (Or.inr rfl) (pe_callB (cr_maxV rfl) (by rfl) T.n_max (by decide +kernel) (pa_cons (pe_bm0 PySem.F.plainAttrs_dict PySem.F.slot_dict_values PySem.F.type_dict_values mt_values (pv 3)) pa_nil)))
    (pss_one (ps_ret (pe_call G_lowest (hr.mono (by decide)) rfl T.lowest.mgx T.lowest.F.kp T.lowest.b .nil pass0 (pa_cons (pe_callB (cr_sum rfl) (by rfl) T.n_sum (by decide +kernel) (pa_cons (pe_lc (own := [("name", 6)]) (g := gName 6) (tt := tYes) rfl sc_left_together.nd (pi_tup (pe_fld (pv 0) rfl)) (blkOk_by (N := N_left_together) (own := [("name", 6)]) (sc := defScope s_left_together) (by decide +kernel)) (fun _ _ _ _ _ => (pg_name (i := 6) sc_left_together.nd rfl (Or.inl rfl))) (fun _ _ _ _ _ => pts_nil) (fun _ _ _ _ _ => (pe_op op_mulW (pe_dget (hu_of hr) (pv 4) (pv 6) (fun _ _ => rfl)) (pe_call G_doubled (hr.mono (by decide)) rfl T.doubled.mgx T.doubled.F.kp T.doubled.b .nil pass0 (pa_cons (pe_op op_sub (pv 5) (pe_dget (hu_of hr) (pv 3) (pv 6) (fun _ _ => rfl))) pa_nil))))) pa_nil)) (pa_cons (pe_call G_doubled (hr.mono (by decide)) rfl T.doubled.mgx T.doubled.F.kp T.doubled.b .nil pass0 (pa_cons (pv 5) pa_nil)) pa_nil))))))), ?_⟩
    refine ⟨_, rfl, _, rfl, _, rfl, v, x, y, oc, rfl, hA, ans.bv, ans.be, ans.bh, fun N R L h e => ?_⟩
    have fin := ans.gd N R L h e
    subst e
    cases hA with
    | good hV ok he hk hd hl hh hb =>
      rename_i a d o kvs
      intro H1 p c c2 s1 hp hc hc2
      refine ⟨p, _, rfl, SqT.of hp, rfl, _, _, rfl, _, _, rfl, rfl, ?_⟩
      refine ⟨_, rfl, .inr (.inr (.inl ⟨rfl, .inl ⟨_, hc⟩⟩)), c, _, _, rfl, rfl, Rd.of hc, .inl ⟨_, rfl, rfl⟩, fun q hq => ?_⟩
      have dv : DVals (.dK (dOf N fun n => .int (oftN N R L n : Nat))) ((N.map fun n => (oftN N R L n : Int)).map V.int) := .inl ⟨_, rfl, by
        unfold dOf
        rw [List.map_map, List.map_map]
        rfl⟩
      refine ⟨q, c, _, _, rfl, upd_same, Rd.of (same_new hq _ _ hc), dv, by rw [List.length_map]; exact ok.n1, fun m hm hmax => ?_⟩
      obtain rfl := most_is ok.n1 hm fun y hy => by simpa using hmax y hy
      have s2 : Same H (upd H1 q (valuesO q c)) := s1.trans (same_new hq)
      have hc' := same_new (o := valuesO q c) hq _ _ hc
      have hc2' := same_new (o := valuesO q c) hq _ _ hc2
      generalize upd H1 q (valuesO q c) = H2 at s2 hc' hc2'
      obtain ⟨dx, an, ar, ao, ap, fs, f0, rs0, pl, v1, v2, v3, v4, v5, v6, v7, v8, v9, v10, v11⟩ := (hV.same s2).ex
      refine ⟨_, rfl, a, T.C, dx, fs, _, rfl, v1, T.clC, T.no_names, v2, an, rfl, ⟨_, SqT.of v3⟩, fun D hD => ?_⟩
      refine lcP (xs := N.map V.str) walk_tup (fun _ => true) (fun z => match z with | .str n => .int (heapOf kvs n * 2 ^ (mostN N R L - oftN N R L n)) | _ => .non) hD (by rw [List.length_map]; exact Nat.le_trans ok.nz (by decide)) (fun H5 e5 => SqT.of (e5 _ _ v3)) (fun _ => rfl) (fun _ _ _ _ _ q => q _ (Same.refl _)) (fun z H5 Q5 hm2 _ e5 q => ?_) fun H5 e5 h5 => ?_
      · obtain ⟨n, hn, rfl⟩ := List.mem_map.mp hm2
        have lo : oftN N R L n ≤ 1000 := Nat.le_trans oft_le ok.rz
        have lm : mostN N R L ≤ 1000 := Nat.le_trans most_le ok.rz
        have le := oft_most (R := R) (L := L) hn
        refine ⟨_, rfl, _, rfl, c2, _, rfl, dget_dOf (e5 _ _ hc2') hn, ?_⟩
        refine ⟨_, rfl, _, rfl, _, rfl, c, _, rfl, dget_dOf (e5 _ _ hc') hn, _, _, rfl, rfl, ?_⟩
        refine ⟨mostN N R L - oftN N R L n, ?_, by omega, ?_⟩
        · exact congrArg (fun z => [V.int z]) (Int.ofNat_sub le).symm
        refine ⟨_, _, rfl, rfl, ?_, q _ (Same.refl _)⟩
        refine wide_mul (a := 100) (b := 1001) ?_ ?_ (by decide) (by decide) (by decide)
        · have h1 := hb n hn
          have h2 := (hpOk_val (hh n hn)).2
          omega
        · rw [Int.natAbs_pow]
          exact Nat.pow_lt_pow_right (by decide) (by omega)
      refine ⟨_, N.map fun n => heapOf kvs n * 2 ^ (mostN N R L - oftN N R L n), rfl, SqL.of ?_, ?_⟩
      · rw [h5]
        rw [List.filter_eq_self.mpr (fun _ _ => rfl), List.map_map, List.map_map]
        rfl
      refine ⟨_, rfl, mostN N R L, rfl, Nat.le_trans most_le (Nat.le_trans ok.rz (by decide)), ?_⟩
      refine ⟨topN N R L (heapOf kvs), _, rfl, ?_, pow_one_le _, pow_small (Nat.le_trans most_le ok.rz), fun p2 hp2 => ?_⟩
      · exact top_pos fun n hn => (hpOk_val (hh n hn)).2
      · exact fin _ p2 ((s2.trans e5).trans (same_new hp2)) upd_same
end
end K80
namespace K80
open PySem PySem.Spec PyProof.Rows L2
/-! ### the stream of draws: a list of four at st, what is left of the script at g -/
structure Strm (H : Hp) (st g : Addr) (c : Nat) : Prop where
  ex : ∃ (ns : List Int) (m k r : Int), H st = some (.lst [.ref g, .int m, .int k, .int r]) ∧ H g = some (.lst (ns.map V.int)) ∧ (∀ n ∈ ns, 0 < n) ∧ 0 ≤ m ∧ m < 2147483629 ∧ 0 ≤ k ∧ k ≤ (c : Nat) ∧ 0 ≤ r
theorem Strm.mono {H : Hp} {st g : Addr} {c d : Nat} (h : Strm H st g c) (le : c ≤ d) : Strm H st g d := by
  obtain ⟨ns, m, k, r, h1, h2, h3, h4, h5, h6, h7, h8⟩ := h.ex
  exact ⟨ns, m, k, r, h1, h2, h3, h4, h5, h6, by omega, h8⟩
theorem Strm.st {H : Hp} {st g : Addr} {c : Nat} (h : Strm H st g c) : ∃ xs, H st = some (.lst xs) := by
  obtain ⟨ns, m, k, r, h1, _⟩ := h.ex
  exact ⟨_, h1⟩
theorem Strm.g {H : Hp} {st g : Addr} {c : Nat} (h : Strm H st g c) : ∃ xs, H g = some (.lst xs) := by
  obtain ⟨ns, m, k, r, h1, h2, _⟩ := h.ex
  exact ⟨_, h2⟩
theorem Strm.up {H : Hp} {st g p : Addr} {c : Nat} {o : HO} (h : Strm H st g c) (n1 : p ≠ st) (n2 : p ≠ g) : Strm (upd H p o) st g c := by
  obtain ⟨ns, m, k, r, h1, h2, h3⟩ := h.ex
  exact ⟨ns, m, k, r, by rw [upd_ne (Ne.symm n1)]; exact h1, by rw [upd_ne (Ne.symm n2)]; exact h2, h3⟩
theorem Strm.new {H : Hp} {st g p : Addr} {c : Nat} {o : HO} (h : Strm H st g c) (hp : H p = none) : Strm (upd H p o) st g c := by
  obtain ⟨xs, h1⟩ := h.st
  obtain ⟨ys, h2⟩ := h.g
  exact h.up (Ne.symm (ne_of_none h1 hp)) (Ne.symm (ne_of_none h2 hp))
theorem Strm.same {H H' : Hp} {st g : Addr} {c : Nat} (h : Strm H st g c) (e : Same H H') : Strm H' st g c := by
  obtain ⟨ns, m, k, r, h1, h2, h3⟩ := h.ex
  exact ⟨ns, m, k, r, e _ _ h1, e _ _ h2, h3⟩
def zst (st g : Addr) : Addr → Bool := fun b => decide (b = st ∨ b = g)
theorem zst_new {H : Hp} {st g p : Addr} {c : Nat} (h : Strm H st g c) (hp : H p = none) : zst st g p = false := by
  obtain ⟨xs, h1⟩ := h.st
  obtain ⟨ys, h2⟩ := h.g
  refine decide_eq_false fun z => ?_
  rcases z with z | z
  · exact ne_of_none h1 hp z.symm
  · exact ne_of_none h2 hp z.symm
theorem zst_st {st g : Addr} : zst st g st = true := decide_eq_true (.inl rfl)
theorem zst_g {st g : Addr} : zst st g g = true := decide_eq_true (.inr rfl)
theorem KpZ.free {Z : Addr → Bool} {H H' : Hp} {p : Addr} (e : KpZ Z H H') (h : H' p = none) (z : Z p = false) : H p = none := by
  cases q : H p with
  | none => rfl
  | some o =>
    have := e.at q z
    rw [h] at this
    cases this
theorem dp_of64 {A : Around} {k : Nat} (hr : Room k A) : A.units + 64 < cLine := by
  have := hr.un
  omega
def spStart (K : PySem.W.Frag) : Sp := fun vs H Q _ => ∃ (a : Addr) (ns : List Int), vs = [.ref a] ∧ SqL K H a (ns.map V.int) ∧ ns.length ≤ 1000 ∧ ∀ H' st g, Same H H' → H st = none → H g = none → Strm H' st g 0 → Q (.ref st) H'
def spDraw : Sp := fun vs H Q _ => ∃ (st g : Addr) (c : Nat) (many : Int), vs = [.ref st, .int many] ∧ Strm H st g c ∧ c < 1000000 ∧ 1 ≤ many ∧ many < 2 ^ 64 ∧
  ∀ H' d, KpZ (zst st g) H H' → Strm H' st g (c + 1) → 0 ≤ d → d < many → Q (.int d) H'
section
variable {P : Program} {w : World} {K : PySem.W.Frag} {mg : Str → Option Value} {base : Heap}
theorem SqL.same {H H' : Hp} {a : Addr} {xs : List V} (e : Same H H') (h : SqL K H a xs) : SqL K H' a xs := by
  rcases h with (h | ⟨o, h⟩) | h
  · exact .inl (.inl (e _ _ h))
  · exact .inl (.inr ⟨o, e _ _ h⟩)
  · exact .inr h
theorem ok_start (T : Txt K mg) : FnOk P w K mg base CX0 1 T.law_start.f T.law_start.fd ["_law_script"] (spStart K) := by
  refine T.law_start.F.ok sc_law_start (fun vs H Q E h => ?_) (fun cdv A outer s H vs Q E hr h => ?_)
  · obtain ⟨a, ns, rfl, _⟩ := h
    rfl
  · obtain ⟨a, ns, rfl, hS, hz, k⟩ := h
    -- slots: 0 _law_script, 1 _law_mix, 2 _law_cell
    refine ⟨_, (pss_cons (ps_set (i := 1) sc_law_start.nd rfl (Or.inl rfl) pe_int)
    (pss_cons (ps_for PassesOwn.never rfl (pi_list (pv 0)) (pg_name (i := 2) sc_law_start.nd rfl (Or.inl rfl))
      (pss_one (ps_set (i := 1) sc_law_start.nd rfl (Or.inl rfl) (pe_op op_mod (pe_callTy call_int1 (by rfl) T.n_int (by decide +kernel) (pa_cons (pe_op op_add (pe_op op_add (pe_op op_mul (pv 1) pe_int) (pv 2)) pe_int) pa_nil)) pe_int))))
    (pss_one (ps_ret (pe_lst (pa_cons (pe_lc (own := [("_law_cell", 2)]) (g := gName 2) rfl sc_law_start.nd (pi_list (pv 0)) (blkOk_by (N := N_law_start) (own := [("_law_cell", 2)]) (sc := defScope s_law_start) (by decide +kernel)) (fun _ _ _ _ _ => (pg_name (i := 2) sc_law_start.nd rfl (Or.inl rfl))) (fun _ _ _ _ _ => (pts_one (pt_cmpR op_ge (pv 2) (pe_op op_pow pe_int pe_int) (nomark _)))) (fun _ _ _ _ _ => (pv 2))) (pa_cons (pv 1) (pa_cons pe_int (pa_cons pe_int pa_nil))))))))), ?_⟩
    refine ⟨_, rfl, a, rfl, ⟨_, hS⟩, ?_⟩
    refine for_it (walk_list (xs := ns.map V.int)) (fun i σ H' => H' = H ∧ ∃ (m : Int) (o : Option V), σ = [some (.ref a), some (.int m), o] ∧ 0 ≤ m ∧ m < 2147483629) ⟨rfl, 17, none, rfl, by decide, by decide⟩ (fun i σ H' _ p => p.1 ▸ hS) ?_ ?_
    · rintro i x σ H' H2 hi ⟨rfl, m, o, rfl, m1, m2⟩ ⟨rfl, hx⟩
      obtain ⟨z, hz2, rfl⟩ := map_at hx
      refine ⟨_, rfl, _, _, rfl, rfl, .inl ⟨by omega, by omega⟩, _, rfl, _, _, rfl, rfl, _, _, rfl, rfl, .inl ⟨_, rfl, _, _, rfl, rfl, show (0 : Int) < 2147483629 by decide, ?_⟩⟩
      exact ⟨rfl, _, _, rfl, Int.emod_nonneg _ (by decide), Int.emod_lt_of_pos _ (by decide)⟩
    · rintro σ H' ⟨rfl, m, o, rfl, m1, m2⟩
      refine ⟨_, rfl, a, rfl, ⟨_, hS⟩, fun D hD => ?_⟩
      refine lcP (xs := ns.map V.int) walk_list (fun x => match x with | .int i => decide (10 ^ 18 ≤ i) | _ => false) (fun x => x) hD (by rw [List.length_map]; omega) (fun H7 e7 => SqL.same e7 hS) (fun _ => rfl) (fun x H7 Q7 hm e7 q7 => ?_) (fun x H7 Q7 hm _ e7 q7 => ⟨_, rfl, q7 _ (Same.refl _)⟩) fun H7 e7 h7 => ?_
      · obtain ⟨i, hi, rfl⟩ := List.mem_map.mp hm
        refine ⟨_, rfl, _, _, rfl, rfl, ⟨by decide, by decide, by decide⟩, _, _, rfl, rfl, _, rfl, q7 _ (Same.refl _)⟩
      rw [List.map_id', List.filter_map] at h7
      refine ⟨_, rfl, show 4 ≤ sizeLine by decide, fun l hl => ?_⟩
      have g7 := same_new (o := .lst [.ref D, .int m, .int 0, .int 0]) hl _ _ h7
      refine k _ l D (e7.trans (same_new hl)) (e7.free hl) hD ⟨_, m, 0, 0, upd_same, g7, fun n hn => ?_, m1, m2, by decide, by decide, by decide⟩
      have := (List.mem_filter.mp hn).2
      have q : 10 ^ 18 ≤ n := of_decide_eq_true this
      omega
theorem ints_dp {H : Hp} : ∀ ns : List Int, DpAll K H (ns.map V.int) (ns.map PyData.int)
  | [] => .nil
  | n :: ns => .cons (.int n) (ints_dp ns)
theorem ints_lay : ∀ ns : List Int, PyData.canLayAll0 (ns.map PyData.int) = true
  | [] => by simp [PyData.canLayAll0]
  | n :: ns => by
    rw [List.map_cons, PyData.canLayAll0, ints_lay ns] <;> simp [PyData.canLay0]
theorem ints_depth : ∀ ns : List Int, PyData.depthAll (ns.map PyData.int) ≤ 0
  | [] => by simp [PyData.depthAll]
  | n :: ns => by
    rw [List.map_cons, PyData.depthAll]
    exact Nat.max_le.mpr ⟨by simp [PyData.depth], ints_depth ns⟩
theorem ints_shaped (ns : List Int) : SeqAt.shaped (.list (ns.map PyData.int)) = true := by
  unfold SeqAt.shaped
  have d := ints_depth ns
  rw [PyData.canLay0, ints_lay, PyData.depth, decide_eq_true (by omega)] <;> rfl
theorem ints_ne (ns : List Int) : (!PyData.eqv (.list (ns.map PyData.int)) (.list [])) = decide (ns ≠ []) := by
  cases ns with
  | nil => simp [PyData.eqv, PyData.eqvAll]
  | cons n ns => simp [PyData.eqv, PyData.eqvAll]
theorem seqIx0 {n : Nat} : seqIndex? 0 (n + 1) = some 0 := by
  simp [seqIndex?]
theorem ok_draw (T : Txt K mg) : FnOk P w K mg base CX0 1 T.law_draw.f T.law_draw.fd ["_law_stream", "_law_many"] spDraw := by
  refine T.law_draw.F.ok sc_law_draw (fun vs H Q E h => ?_) (fun cdv A outer s H vs Q E hr h => ?_)
  · obtain ⟨st, g, c, many, rfl, _⟩ := h
    rfl
  · obtain ⟨st, g, c, many, rfl, hS, hc, m1, m2, kk⟩ := h
    -- slots: 0 _law_stream, 1 _law_many, 2 _law_digit, 3 _law_mixed_here
    refine ⟨_, (pss_cons (ps_asg (pe_op op_add (pe_ix ix_list (pv 0) pe_int (fun _ _ => rfl)) pe_int) (pg_sub (pv 0) pe_int set_list))
    (pss_cons (ps_if (PW.pt (pw_and (pt_cmpR op_eq (pe_ix ix_list (pv 0) pe_int (fun _ _ => rfl)) pe_int (nomark _)) (pw_and1 (pt_cmpR (op_neD (dp_of64 hr)) (pe_ix ix_list (pv 0) pe_int (fun _ _ => rfl)) (pe_lst pa_nil) (nomark _))))) (pss_one (ps_asg (pe_bm PySem.F.plainAttrs_list PySem.F.slot_list_pop PySem.F.type_list_pop mt_popAt (pe_ix ix_list (pv 0) pe_int (fun _ _ => rfl)) (pa_cons pe_int pa_nil)) (pg_sub (pv 0) pe_int set_list))) pss_nil)
    (pss_cons (ps_if (pt_cmpR op_gt (pe_ix ix_list (pv 0) pe_int (fun _ _ => rfl)) pe_int (nomark _)) (pss_cons (ps_set (i := 2) sc_law_draw.nd rfl (Or.inl rfl) (pe_op op_mod (pe_callTy call_int1 (by rfl) T.n_int (by decide +kernel) (pa_cons (pe_ix ix_list (pv 0) pe_int (fun _ _ => rfl)) pa_nil)) (pv 1)))
    (pss_cons (ps_asg (pe_op op_fdivW (pe_ix ix_list (pv 0) pe_int (fun _ _ => rfl)) (pv 1)) (pg_sub (pv 0) pe_int set_list))
    (pss_one (ps_ret (pv 2))))) pss_nil)
    (pss_cons (ps_set (i := 3) sc_law_draw.nd rfl (Or.inl rfl) (pe_op op_mod (pe_op op_pow (pe_callTy call_int1 (by rfl) T.n_int (by decide +kernel) (pa_cons (pe_op op_add (pe_op op_add (pe_ix ix_list (pv 0) pe_int (fun _ _ => rfl)) (pe_op op_mul pe_int (pe_ix ix_list (pv 0) pe_int (fun _ _ => rfl)))) pe_int) pa_nil)) pe_int) pe_int))
    (pss_one (ps_ret (pe_op op_mod (pe_op op_fdivW (pe_op op_mod (pe_op op_pow (pe_callTy call_int1 (by rfl) T.n_int (by decide +kernel) (pa_cons (pe_op op_add (pe_op op_add (pe_op op_mul (pv 3) pe_int) (pe_op op_mul pe_int (pe_ix ix_list (pv 0) pe_int (fun _ _ => rfl)))) pe_int) pa_nil)) pe_int) pe_int) pe_int) (pv 1)))))))), ?_⟩
    obtain ⟨ns, m, k, r, h1, h2, h3, h4, h5, h6, h7, h8⟩ := hS.ex
    have sg : st ≠ g := fun z => by
      rw [z, h2] at h1
      cases ns with
      | nil => cases h1
      | cons n ns => cases h1
    have at0 : ∀ {a b d : V} {e : V}, atI [a, b, d, e] 0 = some a := fun {a b d e} => atI_nat (j := 0) rfl
    have at1 : ∀ {a b d : V} {e : V}, atI [a, b, d, e] 1 = some b := fun {a b d e} => atI_nat (j := 1) rfl
    have at2 : ∀ {a b d : V} {e : V}, atI [a, b, d, e] 2 = some d := fun {a b d e} => atI_nat (j := 2) rfl
    have at3 : ∀ {a b d : V} {e : V}, atI [a, b, d, e] 3 = some e := fun {a b d e} => atI_nat (j := 3) rfl
    -- stream[2] = stream[2] + 1
    refine ⟨_, rfl, ⟨st, _, _, _, rfl, rfl, SqL.of h1, at2, ?_⟩⟩
    refine ⟨_, _, rfl, rfl, _, rfl, st, _, _, 2, rfl, rfl, h1, rfl, ?_⟩
    obtain ⟨H1, eH⟩ : ∃ H1, H1 = upd H st (HO.lst ([V.ref g, V.int m, V.int k, V.int r].set 2 ((fun i j => V.int (i + j)) k 1))) := ⟨_, rfl⟩
    rw [← eH]
    have s1 : KpZ (zst st g) H H1 := by
      rw [eH]
      exact KpZ.put KpZ.refl zst_st
    have e1 : H1 st = some (.lst [.ref g, .int m, .int (k + 1), .int r]) := by
      rw [eH]
      exact upd_same
    have e2 : H1 g = some (.lst (ns.map V.int)) := by
      rw [eH, upd_ne (Ne.symm sg)]
      exact h2
    refine ⟨_, rfl, ⟨st, _, _, _, rfl, rfl, SqL.of e1, at3, rfl, decide (r = 0), ?_, ?_⟩⟩
    · exact congrArg V.bl (decide_eq_decide.mpr ⟨fun z => V.int.inj z, fun z => by rw [z]⟩)
    refine ite2 (fun c0 => ?b1) fun c0 => ?b3
    case' b1 =>
      refine ⟨_, rfl, ⟨st, _, _, _, rfl, rfl, SqL.of e1, at0, show 0 ≤ sizeLine by decide, fun l hl => ?_⟩⟩
      have lst : l ≠ st := Ne.symm (ne_of_none e1 hl)
      have lg : l ≠ g := Ne.symm (ne_of_none e2 hl)
      have s2 := KpZ.new (o := .lst []) s1 (s1.free hl (by refine decide_eq_false fun z => ?_; exact z.elim lst lg))
      have e3 : upd H1 l (.lst []) st = some (.lst [.ref g, .int m, .int (k + 1), .int r]) := by rw [upd_ne (Ne.symm lst)]; exact e1
      have e4 : upd H1 l (.lst []) g = some (.lst (ns.map V.int)) := by rw [upd_ne (Ne.symm lg)]; exact e2
      have e5 : upd H1 l (.lst []) l = some (.lst []) := upd_same
      generalize upd H1 l (.lst []) = H2 at s2 e3 e4 e5 ⊢
      refine ⟨.list (ns.map PyData.int), .list [], .lst (SqL.of e4) (ints_dp ns), .lst (SqL.of e5) .nil, ints_shaped ns, by decide, decide (ns ≠ []), congrArg V.bl (ints_ne ns), ite2 (fun c1 => ?b2) fun c1 => ?b4⟩
      case' b2 =>
        obtain ⟨z, ns2, rfl⟩ : ∃ z ns2, ns = z :: ns2 := by
          cases ns with
          | nil => exact absurd rfl (of_decide_eq_true c1)
          | cons z ns2 => exact ⟨z, ns2, rfl⟩
        have z0 : 0 < z := h3 z List.mem_cons_self
        refine ⟨_, rfl, ⟨st, _, _, _, rfl, rfl, SqL.of e3, at0, .inl ⟨rfl, _, SqL.of e4⟩, g, _, 0, 0, .int z, rfl, rfl, e4, by decide, by decide, seqIx0, rfl, ?_⟩⟩
        have e6 : upd H2 g (.lst (((z :: ns2).map V.int).eraseIdx 0)) st = some (.lst [.ref g, .int m, .int (k + 1), .int r]) := by rw [upd_ne sg]; exact e3
        refine ⟨_, rfl, st, _, _, 3, rfl, rfl, e6, rfl, ?_⟩
        have p2 : ∀ n ∈ ns2, 0 < n := fun n hn => h3 n (List.mem_cons_of_mem _ hn)
        have q2 : 0 ≤ z := Int.le_of_lt z0
        obtain ⟨H4, eH4⟩ : ∃ H4, H4 = upd (upd H2 g (HO.lst (((z :: ns2).map V.int).eraseIdx 0))) st (HO.lst ([V.ref g, V.int m, V.int (k + 1), V.int r].set 3 (V.int z))) := ⟨_, rfl⟩
        rw [← eH4]
        have s5 : KpZ (zst st g) H H4 := by rw [eH4]; exact KpZ.put (KpZ.put s2 zst_g) zst_st
        have e7 : H4 st = some (.lst [.ref g, .int m, .int (k + 1), .int z]) := by rw [eH4]; exact upd_same
        have e8 : H4 g = some (.lst (ns2.map V.int)) := by
          rw [eH4, upd_ne (Ne.symm sg), upd_same]
          rfl
        clear eH4 e6 e3 e4 e5 s2 e1 e2 s1 eH c0 c1
    case' b3 =>
      have s5 := s1
      have e7 := e1
      have e8 := e2
      have p2 := h3
      have q2 := h8
    case' b4 =>
      have s5 := s2
      have e7 := e3
      have e8 := e4
      have p2 := h3
      have q2 := h8
    all_goals
      refine ⟨_, rfl, ⟨st, _, _, _, rfl, rfl, SqL.of e7, at3, _, _, rfl, rfl, _, rfl, ite2 (fun c2 => ?_) fun c2 => ?_⟩⟩
      · refine ⟨_, rfl, ⟨st, _, _, _, rfl, rfl, SqL.of e7, at3, .inl ⟨_, rfl, _, rfl, _, _, rfl, rfl, show (0 : Int) < many by omega, ?_⟩⟩⟩
        refine ⟨_, rfl, ⟨st, _, _, _, rfl, rfl, SqL.of e7, at3, _, rfl, _, _, rfl, rfl, ⟨by omega, ?_⟩, _, rfl, st, _, _, 3, rfl, rfl, e7, rfl, ?_⟩⟩
        · exact Nat.lt_of_lt_of_le (PySem.Flt.log2_lt_of (n := many.natAbs) (k := 64) (by decide) (by omega)) (by decide)
        · refine ⟨_, rfl, kk _ _ (KpZ.put s5 zst_st) ⟨_, m, k + 1, _, upd_same, (upd_ne (Ne.symm sg)).trans e8, p2, h4, h5, by omega, by omega, Int.ediv_nonneg q2 (by omega)⟩ (Int.emod_nonneg _ (by omega)) (Int.emod_lt_of_pos _ (by omega))⟩
      · have b1 : 0 ≤ m + 7919 * (k + 1) + 104729 ∧ m + 7919 * (k + 1) + 104729 < 2 ^ 40 := by omega
        refine ⟨_, rfl, ⟨st, _, _, _, rfl, rfl, SqL.of e7, at1, _, rfl, ⟨st, _, _, _, rfl, rfl, SqL.of e7, at2, _, _, rfl, rfl, .inl ⟨by decide, by decide⟩, _, _, rfl, rfl, _, _, rfl, rfl, .inl ⟨_, rfl, _, _, rfl, rfl, ⟨by decide, by decide, by omega⟩, _, _, rfl, rfl, show (0 : Int) < 2147483647 by decide, ?_⟩⟩⟩⟩
        obtain ⟨y, hy⟩ : ∃ y, y = (m + 7919 * (k + 1) + 104729) ^ (5 : Int).toNat % 2147483647 := ⟨_, rfl⟩
        have y0 : 0 ≤ y := by rw [hy]; exact Int.emod_nonneg _ (by decide)
        have y1 : y < 2147483647 := by rw [hy]; exact Int.emod_lt_of_pos _ (by decide)
        dsimp only
        rw [← hy]
        refine ⟨_, rfl, _, _, rfl, rfl, .inl ⟨by omega, by omega⟩, _, rfl, ⟨st, _, _, _, rfl, rfl, SqL.of e7, at2, _, _, rfl, rfl, .inl ⟨by decide, by decide⟩, _, _, rfl, rfl, _, _, rfl, rfl, .inl ⟨_, rfl, _, _, rfl, rfl, ⟨by decide, by decide, by omega⟩, _, _, rfl, rfl, show (0 : Int) < 1000000007 by decide, _, _, rfl, rfl, ⟨by decide, by decide⟩, ?_⟩⟩⟩
        refine ⟨_, rfl, _, _, rfl, rfl, show (0 : Int) < many by omega, kk _ _ s5 ⟨_, m, k + 1, _, e7, e8, p2, h4, h5, by omega, by omega, q2⟩ (Int.emod_nonneg _ (by omega)) (Int.emod_lt_of_pos _ (by omega))⟩
end
end K80
namespace K80
open PySem PySem.Spec PyProof.Rows L2
def spPick : Sp := fun vs H Q _ => ∃ (st g a : Addr) (c : Nat) (xs : List V), vs = [.ref st, .ref a] ∧ Strm H st g c ∧ c < 1000000 ∧ H a = some (.lst xs) ∧ zst st g a = false ∧ 1 ≤ xs.length ∧ xs.length ≤ 1000 ∧
  ∀ H' x, KpZ (zst st g) H H' → Strm H' st g (c + 1) → x ∈ xs → Q x H'
def spMixed (K : PySem.W.Frag) : Sp := fun vs H Q _ => ∃ (st g a : Addr) (c : Nat) (xs : List V), vs = [.ref st, .ref a] ∧ Strm H st g c ∧ c + xs.length ≤ 1000000 ∧ (SqL K H a xs ∨ SqT K H a xs) ∧ xs.length ≤ 1000 ∧
  ∀ H' l ys, KpZ (zst st g) H H' → H l = none → zst st g l = false → Strm H' st g (c + xs.length) → H' l = some (.lst ys) → ys.Perm xs → Q (.ref l) H'
theorem pop_perm {α : Type} : ∀ (l : List α) (i : Nat) (y : α), l[i]? = some y → (y :: l.eraseIdx i).Perm l
  | [], _, _, h => by cases h
  | a :: l, 0, y, h => by
    obtain rfl := Option.some.inj (show some a = some y from h)
    exact List.Perm.refl _
  | a :: l, i + 1, y, h => ((List.Perm.swap a y _).trans ((pop_perm l i y h).cons a) : (y :: a :: l.eraseIdx i).Perm (a :: l))
theorem perm_move {α : Type} {fd lf xs : List α} {k : Nat} {x : α} (h : (fd ++ lf).Perm xs) (e : lf[k]? = some x) : ((fd ++ [x]) ++ lf.eraseIdx k).Perm xs := by
  refine List.Perm.trans ?_ h
  rw [List.append_assoc]
  refine List.Perm.append_left fd ?_
  exact pop_perm lf k x e
section
variable {P : Program} {w : World} {K : PySem.W.Frag} {mg : Str → Option Value} {base : Heap}
theorem ok_pick (T : Txt K mg) : FnOk P w K mg base CX0 2 T.law_pick.f T.law_pick.fd ["_law_stream", "_law_things"] spPick := by
  have G_law_draw : FnOk P w K mg base CX0 1 T.law_draw.f T.law_draw.fd ["_law_stream", "_law_many"] spDraw := ok_draw T
  refine T.law_pick.F.ok sc_law_pick (fun vs H Q E h => ?_) (fun cdv A outer s H vs Q E hr h => ?_)
  · obtain ⟨st, g, a, c, xs, rfl, _⟩ := h
    rfl
  · obtain ⟨st, g, a, c, xs, rfl, hS, hc, ha, za, l1, l2, k⟩ := h
    -- slots: 0 _law_stream, 1 _law_things
    refine ⟨_, (pss_one (ps_ret (pe_ix ix_list (pv 1) (pe_call G_law_draw (hr.mono (by decide)) rfl T.law_draw.mgx T.law_draw.F.kp T.law_draw.b .nil pass0 (pa_cons (pv 0) (pa_cons (pe_callB call_len (by rfl) T.n_len (by decide +kernel) (pa_cons (pv 1) pa_nil)) pa_nil))) (fun _ _ => rfl)))), ?_⟩
    refine ⟨_, rfl, _, rfl, _, rfl, _, _, rfl, .inl ⟨_, SqL.of ha, rfl⟩, ?_⟩
    refine ⟨st, g, c, _, rfl, hS, hc, by omega, by omega, fun H1 d s1 t1 d0 d1 => ?_⟩
    have ha1 := s1.at ha za
    obtain ⟨j, rfl⟩ : ∃ j : Nat, d = (j : Int) := ⟨d.toNat, by omega⟩
    obtain ⟨x, hx⟩ : ∃ x, xs[j]? = some x := ⟨_, List.getElem?_eq_getElem (by omega)⟩
    exact ⟨a, _, _, _, rfl, rfl, SqL.of ha1, atI_nat hx, k _ _ s1 t1 (List.mem_of_getElem? hx)⟩
theorem ok_mixed (T : Txt K mg) : FnOk P w K mg base CX0 2 T.law_mixed.f T.law_mixed.fd ["_law_stream", "_law_things"] (spMixed K) := by
  have G_law_draw : FnOk P w K mg base CX0 1 T.law_draw.f T.law_draw.fd ["_law_stream", "_law_many"] spDraw := ok_draw T
  refine T.law_mixed.F.ok sc_law_mixed (fun vs H Q E h => ?_) (fun cdv A outer s H vs Q E hr h => ?_)
  · obtain ⟨st, g, a, c, xs, rfl, _⟩ := h
    rfl
  · obtain ⟨st, g, a, c, xs, rfl, hS, hc, ha, lz, k⟩ := h
    -- slots: 0 _law_stream, 1 _law_things, 2 _law_left_here, 3 _law_found, 4 _law_k
    refine ⟨_, (pss_cons (ps_par (i := 2) (j := 3) (by rfl) sc_law_mixed.nd rfl rfl (by decide) rfl rfl (pa_cons (pe_callTy call_list_of (by rfl) T.n_list (by decide +kernel) (pa_cons (pv 1) pa_nil)) (pa_cons (pe_lst pa_nil) pa_nil)) (by rfl))
    (pss_cons (ps_for PassesOwn.never rfl (pi_range1 (by rfl) T.n_range (pa_cons (pe_callB call_len_seq (by rfl) T.n_len (by decide +kernel) (pa_cons (pv 2) pa_nil)) pa_nil)) (pg_name (i := 4) sc_law_mixed.nd rfl (Or.inl rfl))
      (pss_one (ps_expr (pe_bm PySem.F.plainAttrs_list PySem.F.slot_list_append PySem.F.type_list_append mt_append (pv 3) (pa_cons (pe_bm PySem.F.plainAttrs_list PySem.F.slot_list_pop PySem.F.type_list_pop mt_popAt (pv 2) (pa_cons (pe_call G_law_draw (hr.mono (by decide)) rfl T.law_draw.mgx T.law_draw.F.kp T.law_draw.b .nil pass0 (pa_cons (pv 0) (pa_cons (pe_callB call_len_seq (by rfl) T.n_len (by decide +kernel) (pa_cons (pv 2) pa_nil)) pa_nil))) pa_nil)) pa_nil)))))
    (pss_one (ps_ret (pv 3))))), ?_⟩
    refine ⟨_, rfl, a, xs, rfl, ha, fun l hl => ⟨show 0 ≤ sizeLine by decide, fun f hf => ?_⟩⟩
    have zl := zst_new hS hl
    have lf : l ≠ f := ne_of_none upd_same hf
    have hf0 : H f = none := (same_new hl).free hf
    have zf := zst_new hS hf0
    have s1 : KpZ (zst st g) H (upd (upd H l (.lst xs)) f (.lst [])) := KpZ.of ((same_new hl).trans (same_new hf))
    have t1 : Strm (upd (upd H l (.lst xs)) f (.lst [])) st g c := (hS.new hl).new hf
    have l1 : upd (upd H l (.lst xs)) f (.lst []) l = some (.lst xs) := by rw [upd_ne lf, upd_same]
    have f1 : upd (upd H l (.lst xs)) f (.lst []) f = some (.lst []) := upd_same
    generalize upd (upd H l (.lst xs)) f (.lst []) = H1 at s1 t1 l1 f1 ⊢
    refine ⟨_, _, rfl, _, rfl, l, xs, rfl, .inl (SqL.of l1), _, rfl, by omega, by omega, ?_⟩
    refine for_range (fun i σ H' => KpZ (zst st g) H H' ∧ Strm H' st g (c + i) ∧ ∃ (o : Option V) (fd lv : List V), σ = [some (.ref st), some (.ref a), some (.ref l), some (.ref f), o] ∧ H' l = some (.lst lv) ∧ H' f = some (.lst fd) ∧
      (fd ++ lv).Perm xs ∧ lv.length + i = xs.length) ⟨s1, t1, none, [], xs, rfl, l1, f1, .refl _, rfl⟩ ?_ ?_
    · rintro i σ H2 hi ⟨s2, t2, o, fd, lv, rfl, l2, f2, pm, len⟩
      have hi' : i < xs.length := by omega
      have lfd := pm.length_eq
      rw [List.length_append] at lfd
      refine ⟨_, rfl, .inl ⟨rfl, _, SqL.of f2⟩, _, rfl, .inl ⟨rfl, _, SqL.of l2⟩, _, rfl, _, rfl, l, lv, rfl, .inl (SqL.of l2), ?_⟩
      refine ⟨st, g, c + i, _, rfl, t2, by omega, by omega, by omega, fun H3 d s3 t3 d0 d1 => ?_⟩
      have l3 := s3.at l2 zl
      have f3 := s3.at f2 zf
      obtain ⟨j, rfl⟩ : ∃ j : Nat, d = (j : Int) := ⟨d.toNat, by omega⟩
      obtain ⟨x, hx⟩ : ∃ x, lv[j]? = some x := ⟨_, List.getElem?_eq_getElem (by omega)⟩
      refine ⟨l, lv, _, j, x, rfl, rfl, l3, by omega, by omega, ?_, hx, ?_⟩
      · rw [seqIndex_of d0 d1]
        rfl
      have lf' : f ≠ l := Ne.symm lf
      refine ⟨f, fd, x, rfl, rfl, by rw [upd_ne lf']; exact f3, Nat.lt_of_le_of_lt (show fd.length ≤ 1000 by omega) (by decide), ?_⟩
      refine ⟨KpZ.new (KpZ.new (s2.trans s3) hl) hf0, (t3.up (fun z => ?_) fun z => ?_).up (fun z => ?_) fun z => ?_, _, fd ++ [x], lv.eraseIdx j, rfl, ?_, upd_same, perm_move pm hx, ?_⟩
      · rw [z, zst_st] at zl; cases zl
      · rw [z, zst_g] at zl; cases zl
      · rw [z, zst_st] at zf; cases zf
      · rw [z, zst_g] at zf; cases zf
      · rw [upd_ne lf, upd_same]
      · rw [List.length_eraseIdx_of_lt (by omega)]
        omega
    · rintro σ H2 ⟨s2, t2, o, fd, lv, rfl, l2, f2, pm, len⟩
      obtain rfl : lv = [] := List.eq_nil_of_length_eq_zero (by rw [show (xs.length : Int).toNat = xs.length by omega] at len; omega)
      rw [List.append_nil] at pm
      refine ⟨_, rfl, k _ f fd s2 hf0 zf ?_ f2 pm⟩
      rw [show (xs.length : Int).toNat = xs.length by omega] at t2
      exact t2
end
end K80
namespace K80
open PySem PySem.Spec PyProof.Rows L2
/-! ### _law_loose: a leaf, a sequence of leaves, a sequence of roads -/
def Leaf (v : V) : Prop := (∃ z, v = .str z) ∨ ∃ i, v = .int i
theorem Leaf.ty {K : PySem.W.Frag} {H : Hp} {v : V} (h : Leaf v) : ∃ n, TyN K H v n ∧ isSeqN n = false := by
  rcases h with ⟨z, rfl⟩ | ⟨i, rfl⟩
  · exact ⟨_, TyN.str, rfl⟩
  · exact ⟨_, TyN.int, rfl⟩
def spLoose0 : Sp := fun vs H Q _ => ∃ (st : Addr) (v : V), vs = [.ref st, v] ∧ Leaf v ∧ ∀ H', Same H H' → Q v H'
def spLoose1 : Sp := fun vs H Q _ => ∃ (st g a : Addr) (c : Nat) (xs : List V), vs = [.ref st, .ref a] ∧ Strm H st g c ∧ c + 1 ≤ 1000000 ∧ Seq (hid (zst st g) H) a xs ∧ xs.length ≤ 1000 ∧ (∀ x ∈ xs, Leaf x) ∧
  ∀ H' l, KpZ (zst st g) H H' → H l = none → zst st g l = false → Strm H' st g (c + 1) → Seq H' l xs → Q (.ref l) H'
def spLoose2 : Sp := fun vs H Q _ => ∃ (st g a : Addr) (c : Nat) (R : List Rd2), vs = [.ref st, .ref a] ∧ Strm H st g c ∧ c + R.length + 1 ≤ 1000000 ∧ RoadsIn (hid (zst st g) H) a R ∧ R.length ≤ 1000 ∧
  ∀ H' l, KpZ (zst st g) H H' → H l = none → zst st g l = false → Strm H' st g (c + R.length + 1) → RoadsIn (hid (zst st g) H') l R → Q (.ref l) H'
theorem Seq.hid {Z : Addr → Bool} {H : Hp} {a : Addr} {xs : List V} (h : Seq H a xs) (z : Z a = false) : Seq (hid Z H) a xs := h.elim (fun q => .inl (hid_of q z)) fun q => .inr (hid_of q z)
section
variable {P : Program} {w : World} {K : PySem.W.Frag} {mg : Str → Option Value} {base : Heap}
theorem fn_never {CX : CXT} {k : Nat} {f : Addr} {fd : FuncData} {ps : List Str} : FnOk P w K mg base CX k f fd ps (fun _ _ _ _ => False) := ⟨fun _ _ _ _ h => h.elim, fun _ _ _ _ _ _ _ _ _ _ _ _ _ h => h.elim⟩
theorem ok_loose0 (T : Txt K mg) : FnOk P w K mg base CX0 2 T.law_loose.f T.law_loose.fd ["_law_stream", "_law_thing"] spLoose0 := by
  have G_law_draw : FnOk P w K mg base CX0 1 T.law_draw.f T.law_draw.fd ["_law_stream", "_law_many"] spDraw := ok_draw T
  have G_law_loose : FnOk P w K mg base CX0 1 T.law_loose.f T.law_loose.fd ["_law_stream", "_law_thing"] (fun _ _ _ _ => False) := fn_never
  refine T.law_loose.F.ok sc_law_loose (fun vs H Q E h => ?_) (fun cdv A outer s H vs Q E hr h => ?_)
  · obtain ⟨st, v, rfl, _⟩ := h
    rfl
  · obtain ⟨st, v, rfl, lf, k⟩ := h
    -- slots: 0 _law_stream*, 1 _law_thing, 2 _law_some, 3 _law_one
    refine ⟨_, (pss_cons (ps_if (pt_val (pe_callB call_isiT (by rfl) T.n_isinstance (by decide +kernel) (pa_cons (pv 1) (pa_cons (pe_tup (pa_cons (pe_bltn (v := .ty "list") (by rfl) T.n_list (by decide +kernel) rfl) (pa_cons (pe_bltn (v := .ty "tuple") (by rfl) T.n_tuple (by decide +kernel) rfl) pa_nil))) pa_nil)))) (pss_cons (ps_setLc (i := 2) (own := [("_law_one", 3)]) (g := gName 3) (tt := tYes) rfl sc_law_loose.nd rfl rfl (sw_true rfl rfl rfl (by decide +kernel)) (pi_seq (pv 1)) (blkOk_by (N := N_law_loose) (own := [("_law_one", 3)]) (sc := defScope s_law_loose) (by decide +kernel)) (fun _ _ _ _ _ => (pg_name (i := 3) sc_law_loose.nd rfl (Or.inl rfl))) (fun _ _ _ _ _ => pts_nil) (fun _ _ _ _ _ => (pe_call G_law_loose (hr.mono (by decide)) rfl T.law_loose.mgx T.law_loose.F.kp T.law_loose.b .nil pass0 (pa_cons (pv 0) (pa_cons (pv 3) pa_nil)))))
    (pss_one (ps_ret (pe_ifExp (pt_cmpR op_eq (pe_call G_law_draw (hr.mono (by decide)) rfl T.law_draw.mgx T.law_draw.F.kp T.law_draw.b .nil pass0 (pa_cons (pv 0) (pa_cons pe_int pa_nil))) pe_int (nomark _)) (pv 2) (pe_callTy call_tuple_of (by rfl) T.n_tuple (by decide +kernel) (pa_cons (pv 2) pa_nil)))))) pss_nil)
    (pss_one (ps_ret (pv 1)))), ?_⟩
    obtain ⟨n, t, en⟩ := lf.ty (K := K) (H := H)
    refine ⟨_, rfl, (show 2 ≤ sizeLine by decide), fun p hp => ?_⟩
    refine ⟨_, p, _, _, _, _, rfl, upd_same, .cons (.ty _) (.cons (.ty _) .nil), TyX.same (same_new hp) t.ty, kit_seq t.m, _, rfl, ?_⟩
    show if isSeqN n = true then _ else _
    rw [en]
    exact iteF ⟨_, rfl, k _ (same_new hp)⟩
theorem ok_loose1 (T : Txt K mg) : FnOk P w K mg base CX0 3 T.law_loose.f T.law_loose.fd ["_law_stream", "_law_thing"] spLoose1 := by
  have G_law_draw : FnOk P w K mg base CX0 1 T.law_draw.f T.law_draw.fd ["_law_stream", "_law_many"] spDraw := ok_draw T
  have G_law_loose : FnOk P w K mg base CX0 2 T.law_loose.f T.law_loose.fd ["_law_stream", "_law_thing"] spLoose0 := ok_loose0 T
  refine T.law_loose.F.ok sc_law_loose (fun vs H Q E h => ?_) (fun cdv A outer s H vs Q E hr h => ?_)
  · obtain ⟨st, g, a, c, xs, rfl, _⟩ := h
    rfl
  · obtain ⟨st, g, a, c, xs, rfl, hS, hc, ha, lz, lf, k⟩ := h
    -- slots: 0 _law_stream*, 1 _law_thing, 2 _law_some, 3 _law_one
    refine ⟨_, (pss_cons (ps_if (pt_val (pe_callB call_isiT (by rfl) T.n_isinstance (by decide +kernel) (pa_cons (pv 1) (pa_cons (pe_tup (pa_cons (pe_bltn (v := .ty "list") (by rfl) T.n_list (by decide +kernel) rfl) (pa_cons (pe_bltn (v := .ty "tuple") (by rfl) T.n_tuple (by decide +kernel) rfl) pa_nil))) pa_nil)))) (pss_cons (ps_setLc (i := 2) (own := [("_law_one", 3)]) (g := gName 3) (tt := tYes) rfl sc_law_loose.nd rfl rfl (sw_true rfl rfl rfl (by decide +kernel)) (pi_seq (pv 1)) (blkOk_by (N := N_law_loose) (own := [("_law_one", 3)]) (sc := defScope s_law_loose) (by decide +kernel)) (fun _ _ _ _ _ => (pg_name (i := 3) sc_law_loose.nd rfl (Or.inl rfl))) (fun _ _ _ _ _ => pts_nil) (fun _ _ _ _ _ => (pe_call G_law_loose (hr.mono (by decide)) rfl T.law_loose.mgx T.law_loose.F.kp T.law_loose.b .nil pass0 (pa_cons (pv 0) (pa_cons (pv 3) pa_nil)))))
    (pss_one (ps_ret (pe_ifExp (pt_cmpR op_eq (pe_call G_law_draw (hr.mono (by decide)) rfl T.law_draw.mgx T.law_draw.F.kp T.law_draw.b .nil pass0 (pa_cons (pv 0) (pa_cons pe_int pa_nil))) pe_int (nomark _)) (pv 2) (pe_callTy call_tuple_of (by rfl) T.n_tuple (by decide +kernel) (pa_cons (pv 2) pa_nil)))))) pss_nil)
    (pss_one (ps_ret (pv 1)))), ?_⟩
    have ha0 : Seq H a xs := ha.same hid_in
    obtain ⟨n, t, en⟩ := ha0.ty (K := K)
    refine ⟨_, rfl, (show 2 ≤ sizeLine by decide), fun p hp => ?_⟩
    refine ⟨_, p, _, _, _, _, rfl, upd_same, .cons (.ty _) (.cons (.ty _) .nil), TyX.same (same_new hp) t.ty, kit_seq t.m, _, rfl, ?_⟩
    show if isSeqN n = true then _ else _
    rw [en]
    have s1 : Same H (upd H p (.tup [.ty "list", .ty "tuple"])) := same_new hp
    have t1 := hS.same s1
    generalize upd H p (.tup [.ty "list", .ty "tuple"]) = H1 at s1 t1 ⊢
    have h1 : Seq (hid (zst st g) H1) a xs := ha.same (KpZ.of s1)
    have sq : ∀ H', KpZ (zst st g) H1 H' → Seq H' a xs := fun H' e => (h1.same e).same hid_in
    obtain ⟨k0, sq0⟩ : ∃ k0, ∀ H', KpZ (zst st g) H1 H' → Sq k0 K H' a xs := by
      rcases h1 with h1 | h1
      · exact ⟨true, fun H' e => SqL.of (hid_some (e _ _ h1))⟩
      · exact ⟨false, fun H' e => SqT.of (hid_some (e _ _ h1))⟩
    refine iteT ⟨_, rfl, a, k0, rfl, ⟨_, sq0 _ KpZ.refl⟩, fun D hD => ?_⟩
    have zD := zst_new t1 hD
    have nst : D ≠ st := fun z => by rw [z, zst_st] at zD; cases zD
    have ng : D ≠ g := fun z => by rw [z, zst_g] at zD; cases zD
    refine lcZ walk_sq (zst st g) (fun _ H' => Strm H' st g c) (fun _ i v => xs[i]? = some v) hD zD (by omega) (fun _ _ _ _ _ _ _ r => r) (fun _ H' o h => h.up nst ng) (fun H' e => sq0 _ e) t1 ?_ ?_
    · rintro i x H2 H3 acc Q2 hi s2 t2 h2 ⟨rfl, hx⟩ q
      refine ⟨rfl, ⟨_, rfl, _, rfl, ⟨st, x, rfl, lf x (List.mem_of_getElem? hx), fun H4 s4 => ?_⟩⟩⟩
      exact q _ _ (KpZ.of s4) (t2.same s4) hx
    intro H2 ys s2 t2 h2 ly rel
    obtain rfl : ys = xs := List.ext_getElem? fun i => by
      by_cases hi : i < ys.length
      · rw [rel i _ (List.getElem?_eq_getElem hi), List.getElem?_eq_getElem hi]
      · rw [List.getElem?_eq_none (by omega), List.getElem?_eq_none (by omega)]
    refine ⟨_, rfl, ⟨st, g, c, 2, rfl, t2, by omega, by decide, by decide, fun H3 d s3 t3 d0 d1 => ?_⟩⟩
    have h3 := s3.at h2 zD
    have sH : KpZ (zst st g) H H3 := (KpZ.of s1).trans (s2.trans s3)
    have fD : H D = none := s1.free hD
    refine ⟨rfl, decide (d = 0), congrArg V.bl (decide_eq_decide.mpr ⟨fun z => V.int.inj z, fun z => by rw [z]⟩), ite2 (fun _ => ?_) fun _ => ?_⟩
    · exact ⟨_, rfl, k _ D sH fD zD t3 (.inl h3)⟩
    · refine ⟨_, rfl, D, _, rfl, .inl ⟨SqL.of h3, fun p2 hp2 => ?_⟩⟩
      have z2 := zst_new t3 hp2
      exact k _ p2 (sH.trans (KpZ.of (same_new hp2))) (sH.free hp2 z2) z2 (t3.new hp2) (.inr upd_same)
theorem ok_loose2 (T : Txt K mg) : FnOk P w K mg base CX0 4 T.law_loose.f T.law_loose.fd ["_law_stream", "_law_thing"] spLoose2 := by
  have G_law_draw : FnOk P w K mg base CX0 1 T.law_draw.f T.law_draw.fd ["_law_stream", "_law_many"] spDraw := ok_draw T
  have G_law_loose : FnOk P w K mg base CX0 3 T.law_loose.f T.law_loose.fd ["_law_stream", "_law_thing"] spLoose1 := ok_loose1 T
  refine T.law_loose.F.ok sc_law_loose (fun vs H Q E h => ?_) (fun cdv A outer s H vs Q E hr h => ?_)
  · obtain ⟨st, g, a, c, R, rfl, _⟩ := h
    rfl
  · obtain ⟨st, g, a, c, R, rfl, hS, hc, ⟨us, ha, hP⟩, lz, k⟩ := h
    -- slots: 0 _law_stream*, 1 _law_thing, 2 _law_some, 3 _law_one
    refine ⟨_, (pss_cons (ps_if (pt_val (pe_callB call_isiT (by rfl) T.n_isinstance (by decide +kernel) (pa_cons (pv 1) (pa_cons (pe_tup (pa_cons (pe_bltn (v := .ty "list") (by rfl) T.n_list (by decide +kernel) rfl) (pa_cons (pe_bltn (v := .ty "tuple") (by rfl) T.n_tuple (by decide +kernel) rfl) pa_nil))) pa_nil)))) (pss_cons (ps_setLc (i := 2) (own := [("_law_one", 3)]) (g := gName 3) (tt := tYes) rfl sc_law_loose.nd rfl rfl (sw_true rfl rfl rfl (by decide +kernel)) (pi_seq (pv 1)) (blkOk_by (N := N_law_loose) (own := [("_law_one", 3)]) (sc := defScope s_law_loose) (by decide +kernel)) (fun _ _ _ _ _ => (pg_name (i := 3) sc_law_loose.nd rfl (Or.inl rfl))) (fun _ _ _ _ _ => pts_nil) (fun _ _ _ _ _ => (pe_call G_law_loose (hr.mono (by decide)) rfl T.law_loose.mgx T.law_loose.F.kp T.law_loose.b .nil pass0 (pa_cons (pv 0) (pa_cons (pv 3) pa_nil)))))
    (pss_one (ps_ret (pe_ifExp (pt_cmpR op_eq (pe_call G_law_draw (hr.mono (by decide)) rfl T.law_draw.mgx T.law_draw.F.kp T.law_draw.b .nil pass0 (pa_cons (pv 0) (pa_cons pe_int pa_nil))) pe_int (nomark _)) (pv 2) (pe_callTy call_tuple_of (by rfl) T.n_tuple (by decide +kernel) (pa_cons (pv 2) pa_nil)))))) pss_nil)
    (pss_one (ps_ret (pv 1)))), ?_⟩
    have lu : us.length = R.length := Paired.length hP
    have ha0 : Seq H a (us.map V.ref) := ha.same hid_in
    obtain ⟨n, t, en⟩ := ha0.ty (K := K)
    refine ⟨_, rfl, (show 2 ≤ sizeLine by decide), fun p hp => ?_⟩
    refine ⟨_, p, _, _, _, _, rfl, upd_same, .cons (.ty _) (.cons (.ty _) .nil), TyX.same (same_new hp) t.ty, kit_seq t.m, _, rfl, ?_⟩
    show if isSeqN n = true then _ else _
    rw [en]
    have s1 : Same H (upd H p (.tup [.ty "list", .ty "tuple"])) := same_new hp
    have t1 := hS.same s1
    generalize upd H p (.tup [.ty "list", .ty "tuple"]) = H1 at s1 t1 ⊢
    have h1 : Seq (hid (zst st g) H1) a (us.map V.ref) := ha.same (KpZ.of s1)
    obtain ⟨k0, sq0⟩ : ∃ k0, ∀ H', KpZ (zst st g) H1 H' → Sq k0 K H' a (us.map V.ref) := by
      rcases h1 with h1 | h1
      · exact ⟨true, fun H' e => SqL.of (hid_some (e _ _ h1))⟩
      · exact ⟨false, fun H' e => SqT.of (hid_some (e _ _ h1))⟩
    refine iteT ⟨_, rfl, a, k0, rfl, ⟨_, sq0 _ KpZ.refl⟩, fun D hD => ?_⟩
    have zD := zst_new t1 hD
    have nst : D ≠ st := fun z => by rw [z, zst_st] at zD; cases zD
    have ng : D ≠ g := fun z => by rw [z, zst_g] at zD; cases zD
    refine lcZ walk_sq (zst st g) (fun i H' => Strm H' st g (c + i)) (fun H' i v => ∃ u, v = .ref u ∧ zst st g u = false ∧ u ≠ D ∧ ∀ ab, R[i]? = some ab → Seq H' u [.str ab.1, .str ab.2]) hD zD (by rw [List.length_map]; omega)
      (fun H2 H3 i v acc h2 e r => ?_) (fun _ H' o h => h.up nst ng) (fun H' e => sq0 _ e) t1 ?_ ?_
    · obtain ⟨u, e1, e2, e3, e4⟩ := r
      exact ⟨u, e1, e2, e3, fun ab h => (e4 ab h).elim (fun q => .inl (e _ _ q e2 e3)) fun q => .inr (e _ _ q e2 e3)⟩
    · rintro i x H2 H3 acc Q2 hi s2 t2 h2 ⟨rfl, hx⟩ q
      obtain ⟨u, hu, rfl⟩ := map_at hx
      have hiR : i < R.length := lu ▸ (List.getElem?_eq_some_iff.mp hu).1
      obtain ⟨ab, hab⟩ : ∃ ab, R[i]? = some ab := ⟨_, List.getElem?_eq_getElem hiR⟩
      have hu3 : Seq (hid (zst st g) H3) u [.str ab.1, .str ab.2] := (paired_at hP hu hab).same ((KpZ.of s1).trans s2)
      refine ⟨rfl, ⟨_, rfl, _, rfl, ⟨st, g, u, c + i, _, rfl, t2, by omega, hu3, show 2 ≤ 1000 by decide, fun x hx => ?_, fun H4 l s4 hl zl t4 sl => ?_⟩⟩⟩
      · rcases List.mem_cons.mp hx with rfl | hx
        · exact .inl ⟨_, rfl⟩
        · rw [List.mem_singleton.mp hx]
          exact .inl ⟨_, rfl⟩
      · refine q _ _ s4 t4 ⟨l, rfl, zl, Ne.symm (ne_of_none h2 hl), fun ab' h => ?_⟩
        rw [hab] at h
        cases h
        exact sl
    intro H2 ys s2 t2 h2 ly rel
    rw [List.length_map, lu] at t2 ly
    refine ⟨_, rfl, ⟨st, g, _, 2, rfl, t2, by omega, by decide, by decide, fun H3 d s3 t3 d0 d1 => ?_⟩⟩
    have h3 := s3.at h2 zD
    have sH : KpZ (zst st g) H H3 := (KpZ.of s1).trans (s2.trans s3)
    have fD : H D = none := s1.free hD
    obtain ⟨us2, eu, hP2⟩ : ∃ us2 : List Addr, ys = us2.map V.ref ∧ Paired (fun u ab => Seq (hid (zst st g) H3) u [.str ab.1, .str ab.2]) us2 R := by
      have gen : ∀ (ys : List V) (R : List Rd2), ys.length = R.length → (∀ (i : Nat) v, ys[i]? = some v → ∃ u, v = .ref u ∧ zst st g u = false ∧ u ≠ D ∧ ∀ ab, R[i]? = some ab → Seq H2 u [.str ab.1, .str ab.2]) →
          ∃ us2 : List Addr, ys = us2.map V.ref ∧ Paired (fun u ab => Seq (hid (zst st g) H3) u [.str ab.1, .str ab.2]) us2 R := by
        intro ys
        induction ys with
        | nil =>
          intro R e _
          cases R with
          | nil => exact ⟨[], rfl, .nil⟩
          | cons _ _ => cases e
        | cons y ys ih =>
          intro R e h
          cases R with
          | nil => cases e
          | cons ab R =>
            obtain ⟨us2, e2, p2⟩ := ih R (Nat.succ.inj e) fun i v hv => h (i + 1) v hv
            obtain ⟨u, rfl, zu, _, hu⟩ := h 0 y rfl
            exact ⟨u :: us2, by rw [e2] <;> rfl, .cons (((hu ab rfl).hid zu).same s3) p2⟩
      exact gen ys R ly rel
    subst eu
    refine ⟨rfl, decide (d = 0), congrArg V.bl (decide_eq_decide.mpr ⟨fun z => V.int.inj z, fun z => by rw [z]⟩), ite2 (fun _ => ?_) fun _ => ?_⟩
    · exact ⟨_, rfl, k _ D sH fD zD t3 ⟨us2, .inl (hid_of h3 zD), hP2⟩⟩
    · refine ⟨_, rfl, D, _, rfl, .inl ⟨SqL.of h3, fun p2 hp2 => ?_⟩⟩
      have z2 := zst_new t3 hp2
      exact k _ p2 (sH.trans (KpZ.of (same_new hp2))) (sH.free hp2 z2) z2 (t3.new hp2) ⟨us2, .inr (hid_of upd_same z2), paired_same (fun _ _ q => Seq.same (KpZ.of (same_new hp2)) q) hP2⟩
end
end K80
namespace K80
open PySem PySem.Spec PyProof.Rows L2
/-! ### (x, y)[::-1] -/
section
variable {prog : Program} {w : World} {A : Around} {E : Value → Shared → Prop} {s : Shared}
theorem rev2_applied {sl : Addr} {vl vu vs : Value} {Q : Int × Int × Nat → Shared → Prop} (hs : s.heap.IsSliceOf sl vl vu vs) (pl : IsPart vl none) (pu : IsPart vu none) (ps : IsPart vs (some (-1)))
    (h : Q (1, -1, 2) s) : wpAny (model prog w) A (Builtin.Slice.sliceApplied (.ref sl) (pure 2)) Q E s := by
  obtain ⟨os, hos, hcs, hds⟩ := id hs
  unfold Builtin.Slice.sliceApplied Builtin.Slice.sliceFields
  refine wpAny_bind (wpAny_bind (wpAny_field hos hds rfl (wpAny_bind (wpAny_field hos hds rfl (wpAny_bind (wpAny_field hos hds rfl (wpAny_pure ?_)))))))
  refine wpAny_bind (HT.slicePart_ ps ?_)
  show wpAny _ _ (if ((-1 : Int) == 0) = true then _ else _) _ _ s
  rw [if_neg (by decide)]
  refine wpAny_bind (HT.slicePart_ pl (wpAny_bind (HT.slicePart_ pu (wpAny_bind (wpAny_pure ?_)))))
  exact wpAny_pure h
theorem rev2_item {t sl : Addr} {x y vl vu vs : Value} {Q : Value → Shared → Prop} (ht : IsTup s.heap t #[x, y]) (hs : s.heap.IsSliceOf sl vl vu vs) (pl : IsPart vl none) (pu : IsPart vu none) (ps : IsPart vs (some (-1)))
    (h : Q (.ref s.heap.objs.size) { s with heap := s.heap.push { cls := .type "tuple", data := .seq #[y, x] } }) : wpAny (model prog w) A (getItem (.ref t) (.ref sl)) Q E s := by
  have fits : sizeOk (.seq #[y, x]) := show 2 ≤ sizeLine by decide
  obtain ⟨os, hos, hcs, hds⟩ := id hs
  have hT : s.TypeIs (.ref sl) "slice" := ⟨os, hos, hcs⟩
  unfold getItem
  try with_reducible refine wpAny_holding ?_
  first | refine wpAny_bind (wpAny_pure ?_) | skip
  refine wpAny_bind (wpAny_sequenceKey ht.typeIs (by decide) ?_)
  refine wpAny_bind (wpAny_callSpecial?_slot (name := Str.ofString "__getitem__") ht.typeIs PyProof.Rows.slot_tuple_getitem
    (wpAny_call_entry PyProof.Rows.slot_tuple_getitem ht.typeIs entry_tuple_getitem ?_ (args_tuple_getitem _ _)))
  show wpAny _ _ (Builtin.Tuple.tupleItemsOf (.ref t) >>= _) _ _ s
  refine wpAny_bind (PyProof.Rows.tupleItemsOf_ ht ?_)
  refine wpAny_bind (wpAny_typeOf hT ?_)
  rw [if_pos (by decide)]
  refine wpAny_bind (rev2_applied hs pl pu ps ?_)
  show wpAny _ _ (if ((1 : Int) == 0 && (-1 : Int) == 1 && 2 == 2) = true then _ else _) _ _ s
  rw [if_neg (by decide)]
  have e : ((List.range 2).filterMap fun (k : Nat) => (#[x, y] : Array Value)[((1 : Int) + (k : Int) * (-1)).toNat]?).toArray = #[y, x] := rfl
  first
    | exact wpAny_bind (m := Builtin.Tuple.tupleExact _) (wpAny_newObj_type (wpAny_pure ⟨_, rfl, wpAny_pure h⟩) fits)
    | exact wpAny_bind (m := Builtin.Tuple.tupleExact _) (wpAny_newObj_type (wpAny_bind (wpAny_pure (wpAny_pure ⟨_, rfl, wpAny_pure h⟩))) fits)
    | exact wpAny_bind (wpAny_bind (m := Builtin.Tuple.tupleExact _) (wpAny_newObj_type (wpAny_pure (wpAny_pure ⟨_, rfl, wpAny_pure h⟩)) fits))
    | exact wpAny_bind (wpAny_bind (m := Builtin.Tuple.tupleExact _) (wpAny_newObj_type (wpAny_pure ⟨_, rfl, wpAny_pure h⟩) fits))
end
/-- e[::-1] of a pair -/
def tRevP (K : PySem.W.Frag) (te : TE) : TE := fun σ H Q => te σ H fun x H1 => ∃ a u v, x = .ref a ∧ SqT K H1 a [u, v] ∧ ∀ p, H1 p = none → Q (.ref p) (upd H1 p (.tup [v, u]))
theorem pe_revP {X : Cx} {e : Expr} {te : TE} {k : Nat} {p1 p2 p3 pos : Pos} (he : PE X e te) : PE X (.Subscript e (.Slice none none (some (.UnaryOp .USub (.Constant (.int 1) k p1) p2)) p3) pos) (tRevP X.K te) := by
  refine ⟨fun pins s σ H Q I h => ?_⟩
  refine Subscript_ (thn (he.run pins s σ H _ I h) fun v s1 ⟨x, H1, I1, r1, q1⟩ => ?_)
  obtain ⟨a, y, z, ex, hx, q⟩ := q1
  subst ex
  cases r1
  have step : PO X (some (.UnaryOp .USub (.Constant (.int 1) k p1) p2)) (tPart (tUn (rU fun i => .int (-i)) (tC (.int 1)))) := po_some (pe_un un_neg pe_int)
  refine wpAny_Slice (thn (po_none.run pins s1 σ H1 (fun o H2 => o = none ∧ H2 = H1) I1 ⟨rfl, rfl⟩) fun vl s2 ⟨l, H2, I2, pl, el, e2⟩ => ?_)
  subst el e2
  refine thn (po_none.run pins s2 σ H2 (fun o H3 => o = none ∧ H3 = H2) I2 ⟨rfl, rfl⟩) fun vu s3 ⟨u, H3, I3, pu, eu, e3⟩ => ?_
  subst eu e3
  refine thn (step.run pins s3 σ H3 (fun o H4 => o = some (-1) ∧ H4 = H3) I3 ⟨1, rfl, -1, rfl, rfl, rfl⟩) fun vt s4 ⟨o, H4, I4, pt, eo, e4⟩ => ?_
  subst eo e4
  have I5 : Inv X pins σ H4 { s4 with heap := s4.heap.push { cls := .type "slice", data := .fields #[vl, vu, vt] } } := I4.kept (t' := s4.toks) fun b ob q => Heap.get?_push_of_some _ q
  obtain ⟨its, r, ht, _⟩ := I5.tuple hx
  cases r with
  | cons ry r =>
  cases r with
  | cons rz r =>
  cases r
  refine tail_any (ops := [.ref a, .ref s4.heap.objs.size]) ht.typeIs (PyProof.Rows.slot_tuple_getitem.lookup) ?_ (by with_unfolding_all rfl)
  refine rev2_item ht (Heap.IsSliceOf.new _ vl vu vt) pl pu pt ?_
  refine ⟨.ref _, _, I5.laid (t' := s4.toks) (o := .tup [z, y]) (fun b ob q => Heap.get?_push_of_some _ q) (Nat.le_refl _) ?_, rfl, q _ (I5.hok.fresh (Nat.le_refl _))⟩
  exact ⟨show 2 ≤ sizeLine by decide, _, .cons rz (.cons ry .nil), IsTup.new _ _⟩
end K80
namespace K80
open PySem PySem.Spec PyProof.Rows L2
/-! ### the drawn names -/
def NM16 : List Str := ["b", "aa", "c1", "hill", "z9", "a", "m3", "brook77", "no", "q7", "mill", "end8", "x", "ford", "o0", "ash"]
def NM4 : List Str := ["k2", "low", "yew", "w5"]
def hName (k : Nat) : Str := ("h" : Str) ++ (toString ((k : Nat) : Int) : Str)
def NM40 : List Str := (List.range 40).map hName
def NMS : List Str := NM16 ++ NM4 ++ NM40
def okB (z : Str) : Bool := decide (1 ≤ z.length) && (decide (z.length ≤ 8) && ((match z.cps.toList[0]? with | some c => decide (c ∈ nameS.cps.toList) | none => false) && (z.cps.toList.all (fun c => decide (c ∈ (nameS ++ nameF).cps.toList)) && (PyData.strOk z && decide (z ≠ "nobody")))))
/-- a name of ours -/
structure NmOk (z : Str) : Prop where
  ok : OkName z
  st : PyData.strOk z = true
  nb : z ≠ "nobody"
theorem okB_ok {z : Str} (h : okB z = true) : NmOk z := by
  unfold okB at h
  rw [Bool.and_eq_true, Bool.and_eq_true, Bool.and_eq_true, Bool.and_eq_true, Bool.and_eq_true] at h
  obtain ⟨h1, h2, h3, h4, h5, h6⟩ := h
  refine ⟨⟨of_decide_eq_true h1, of_decide_eq_true h2, ?_, fun c hc => of_decide_eq_true (List.all_eq_true.mp h4 c hc)⟩, h5, of_decide_eq_true h6⟩
  split at h3
  · rename_i c hc
    exact ⟨c, hc, of_decide_eq_true h3⟩
  · cases h3
theorem nms_len : NMS.length = 60 := by decide +kernel
theorem nms_nd : NMS.Nodup := by decide +kernel
theorem nms_okB : NMS.all okB = true := by decide +kernel
theorem nms_ok {z : Str} (h : z ∈ NMS) : NmOk z := okB_ok (List.all_eq_true.mp nms_okB z h)
def unS : V → Str
  | .str z => z
  | _ => Str.empty
theorem perm_strs {ys : List V} {N : List Str} (h : ys.Perm (N.map V.str)) : ∃ N2 : List Str, ys = N2.map V.str ∧ N2.Perm N := by
  refine ⟨ys.map unS, ?_, ?_⟩
  · rw [List.map_map]
    refine (List.map_id _).symm.trans (List.map_congr_left fun v hv => ?_)
    obtain ⟨z, _, rfl⟩ := List.mem_map.mp (h.mem_iff.mp hv)
    rfl
  · have q := h.map unS
    rw [List.map_map] at q
    exact q.trans (List.Perm.of_eq ((List.map_congr_left fun z _ => rfl).trans (List.map_id _)))
def spNames : Sp := fun vs H Q _ => ∃ (st g : Addr) (c lo hi : Nat), vs = [.ref st, .int lo, .int hi] ∧ Strm H st g c ∧ c + 100 ≤ 1000000 ∧ 1 ≤ lo ∧ lo ≤ hi ∧ hi ≤ 60 ∧
  ∀ (H' : Hp) (l : Addr) (N : List Str), KpZ (zst st g) H H' → H l = none → zst st g l = false → Strm H' st g (c + 100) → H' l = some (.lst (N.map V.str)) → lo ≤ N.length → N.length ≤ hi → N.Nodup → (∀ n ∈ N, NmOk n) → Q (.ref l) H'
section
variable {P : Program} {w : World} {K : PySem.W.Frag} {mg : Str → Option Value} {base : Heap}
theorem ok_f_names (T : Txt K mg) : FnOk P w K mg base CX0 3 T.law_f_names.f T.law_f_names.fd ["_law_stream", "_law_least", "_law_most"] spNames := by
  have G_law_draw : FnOk P w K mg base CX0 1 T.law_draw.f T.law_draw.fd ["_law_stream", "_law_many"] spDraw := ok_draw T
  have G_law_mixed : FnOk P w K mg base CX0 2 T.law_mixed.f T.law_mixed.fd ["_law_stream", "_law_things"] (spMixed K) := ok_mixed T
  refine T.law_f_names.F.ok sc_law_f_names (fun vs H Q E h => ?_) (fun cdv A outer s H vs Q E hr h => ?_)
  · obtain ⟨st, g, c, lo, hi, rfl, _⟩ := h
    rfl
  · obtain ⟨st, g, c, lo, hi, rfl, hS, hc, h1, h2, h3, k⟩ := h
    -- slots: 0 _law_stream, 1 _law_least, 2 _law_most, 3 _law_some, 4 _law_many, 5 _law_k
    refine ⟨_, (pss_cons (ps_set (i := 3) sc_law_f_names.nd rfl (Or.inl rfl) (pe_lst (pa_cons pe_str (pa_cons pe_str (pa_cons pe_str (pa_cons pe_str (pa_cons pe_str (pa_cons pe_str (pa_cons pe_str (pa_cons pe_str (pa_cons pe_str (pa_cons pe_str (pa_cons pe_str (pa_cons pe_str (pa_cons pe_str (pa_cons pe_str (pa_cons pe_str (pa_cons pe_str pa_nil))))))))))))))))))
    (pss_cons (ps_set (i := 3) sc_law_f_names.nd rfl (Or.inl rfl) (pe_op op_cat (pe_op op_cat (pv 3) (pe_lst (pa_cons pe_str (pa_cons pe_str (pa_cons pe_str (pa_cons pe_str pa_nil)))))) (pe_lc (own := [("_law_k", 5)]) (g := gName 5) (tt := tYes) rfl sc_law_f_names.nd (pi_range1 (by rfl) T.n_range (pa_cons pe_int pa_nil)) (blkOk_by (N := N_law_f_names) (own := [("_law_k", 5)]) (sc := defScope s_law_f_names) (by decide +kernel)) (fun _ _ _ _ _ => (pg_name (i := 5) sc_law_f_names.nd rfl (Or.inl rfl))) (fun _ _ _ _ _ => pts_nil) (fun _ _ _ _ _ => (pe_op op_add_str pe_str (pe_callTy call_str_int (by rfl) T.n_str (by decide +kernel) (pa_cons (pv 5) pa_nil)))))))
    (pss_cons (ps_set (i := 4) sc_law_f_names.nd rfl (Or.inl rfl) (pe_op op_add (pv 1) (pe_call G_law_draw (hr.mono (by decide)) rfl T.law_draw.mgx T.law_draw.F.kp T.law_draw.b .nil pass0 (pa_cons (pv 0) (pa_cons (pe_op op_add (pe_op op_sub (pv 2) (pv 1)) pe_int) pa_nil)))))
    (pss_one (ps_ret (pe_call G_law_mixed (hr.mono (by decide)) rfl T.law_mixed.mgx T.law_mixed.F.kp T.law_mixed.b .nil pass0 (pa_cons (pv 0) (pa_cons (pe_ifExp (pt_cmpR op_lt (pv 4) pe_int (nomark _)) (pe_slice sl_list (pe_call G_law_mixed (hr.mono (by decide)) rfl T.law_mixed.mgx T.law_mixed.F.kp T.law_mixed.b .nil pass0 (pa_cons (pv 0) (pa_cons (pe_slice sl_list (pv 3) po_none (po_some pe_int)) pa_nil))) po_none (po_some (pv 4))) (pe_slice sl_list (pv 3) po_none (po_some (pv 4)))) pa_nil)))))))), ?_⟩
    refine ⟨show 16 ≤ sizeLine by decide, fun l1 hl1 => ?_⟩
    generalize eH : upd H l1 (HO.lst _) = H1
    have s1 : Same H H1 := by rw [← eH]; exact same_new hl1
    have e1 : H1 l1 = some (.lst (NM16.map V.str)) := by rw [← eH]; exact upd_same
    clear eH
    refine ⟨_, rfl, show 4 ≤ sizeLine by decide, fun l2 hl2 => ?_⟩
    generalize eH : upd H1 l2 (HO.lst _) = H2
    have s2 : Same H1 H2 := by rw [← eH]; exact same_new hl2
    have e2 : H2 l2 = some (.lst (NM4.map V.str)) := by rw [← eH]; exact upd_same
    clear eH
    refine ⟨l1, l2, _, _, rfl, rfl, s2 _ _ e1, e2, show 20 ≤ sizeLine by decide, fun l3 hl3 => ?_⟩
    generalize eH : upd H2 l3 (HO.lst _) = H3
    have s3 : Same H2 H3 := by rw [← eH]; exact same_new hl3
    have e3 : H3 l3 = some (.lst ((NM16 ++ NM4).map V.str)) := by rw [← eH]; exact upd_same
    clear eH
    refine ⟨40, rfl, by decide, by decide, fun D hD => ?_⟩
    refine lcZ walk_range noZ (fun _ _ => True) (fun H' i v => v = .str (hName i)) hD rfl (by decide) (fun _ _ _ _ _ _ _ r => r) (fun _ _ _ _ => trivial) (fun H' e => trivial) trivial ?_ ?_
    · rintro i x H4 H5 acc Q2 hi s4 _ h4 ⟨rfl, rfl⟩ q
      have e0 : (0 : Int) + (i : Nat) = (i : Nat) := by omega
      refine ⟨rfl, ⟨_, rfl, _, rfl, ?_, _, _, rfl, rfl, ?_, q _ _ KpZ.refl trivial ?_⟩⟩
      · exact Nat.lt_of_lt_of_le (PySem.Flt.log2_lt_of (k := 6) (by decide) (by have : i < 40 := hi; omega)) (by decide)
      · rw [e0]
        have small : ∀ j : Nat, j < 40 → ("h" : Str).length + (toString ((j : Nat) : Int) : Str).length ≤ 1000 := by decide +kernel
        exact Nat.le_trans (small i hi) (by decide)
      · rw [e0]
        rfl
    intro H4 ys s4 _ h4 ly rel
    have s4' : Same H3 H4 := s4
    obtain rfl : ys = NM40.map V.str := by
      refine List.ext_getElem? fun i => ?_
      by_cases hi : i < ys.length
      · rw [List.getElem?_eq_getElem hi, rel i _ (List.getElem?_eq_getElem hi), List.getElem?_map, NM40, List.getElem?_map, List.getElem?_range (by omega)]
        rfl
      · rw [List.getElem?_eq_none (by omega), List.getElem?_eq_none]
        show (NM40.map V.str).length ≤ i
        rw [List.length_map, NM40, List.length_map, List.length_range]
        have : ys.length = 40 := ly
        omega
    refine ⟨l3, D, _, _, rfl, rfl, s4' _ _ e3, h4, show 60 ≤ sizeLine by decide, fun l4 hl4 => ?_⟩
    generalize eH : upd H4 l4 (HO.lst _) = H5
    have s5 : Same H4 H5 := by rw [← eH]; exact same_new hl4
    have e5 : H5 l4 = some (.lst (NMS.map V.str)) := by
      rw [← eH, ← List.map_append]
      exact upd_same
    have sH5 : Same H H5 := (((s1.trans s2).trans s3).trans s4').trans s5
    have z4 : zst st g l4 = false := by
      refine zst_new hS ?_
      exact (((s1.trans s2).trans s3).trans s4').free hl4
    clear eH
    have t5 := hS.same sH5
    refine ⟨_, rfl, _, rfl, ⟨_, rfl, _, rfl, _, _, rfl, rfl, _, _, rfl, rfl, ⟨st, g, c, _, rfl, t5, by omega, by omega, by omega, fun H6 d s6 t6 d0 d1 => ⟨_, _, rfl, rfl, ?_⟩⟩⟩⟩
    obtain ⟨m, hm⟩ : ∃ m : Nat, (lo : Int) + d = (m : Int) := ⟨lo + d.toNat, by omega⟩
    have m1 : lo ≤ m := by omega
    have m2 : m ≤ hi := by omega
    dsimp only
    rw [hm]
    have e6 := s6.at e5 z4
    have k5 : KpZ (zst st g) H H6 := (KpZ.of sH5).trans s6
    -- the last mixing
    have last : ∀ (F : V → Hp → Prop) (H7 : Hp) (l7 : Addr) (N7 : List Str) (c7 : Nat), KpZ (zst st g) H H7 → Strm H7 st g c7 → c7 + m ≤ c + 100 → H7 l7 = some (.lst (N7.map V.str)) → N7.length = m → N7.Nodup → (∀ n ∈ N7, n ∈ NMS) →
        (∀ v H', Q v H' → F v H') → spMixed K [.ref st, .ref l7] H7 F E0 := by
      intro F H7 l7 N7 c7 s7 t7 hc7 h7 len7 nd7 sub7 hF
      refine ⟨st, g, l7, c7, _, rfl, t7, by rw [List.length_map]; omega, .inl (SqL.of h7), by rw [List.length_map]; omega, fun H8 l8 ys s8 f8 z8 t8 h8 pm => hF _ _ ?_⟩
      obtain ⟨N8, rfl, pm8⟩ := perm_strs pm
      have len8 := pm8.length_eq
      rw [List.length_map] at t8
      exact k H8 l8 N8 (s7.trans s8) (s7.free f8 z8) z8 (t8.mono (by omega)) h8 (by omega) (by omega) (pm8.nodup_iff.mpr nd7) fun n hn => nms_ok (sub7 n (pm8.mem_iff.mp hn))
    refine ⟨_, rfl, ⟨_, rfl, _, _, rfl, rfl, _, rfl, ?_⟩⟩
    refine ite2 (fun c1 => ?_) fun c1 => ?_
    · have m21 : m < 21 := by
        have := of_decide_eq_true c1
        omega
      refine ⟨_, rfl, _, rfl, 20, rfl, l4, _, rfl, SqL.of e6, fun p hp => ?_⟩
      have cut20 : cutV (NMS.map V.str) none (some 20) = (NMS.take 20).map V.str := by
        have q := cut_take (xs := NMS.map V.str) (i := 20) (by rw [List.length_map, nms_len]; decide)
        rw [List.map_take]
        exact q
      rw [cut20]
      have zp : zst st g p = false := zst_new t6 hp
      have k7 : KpZ (zst st g) H (upd H6 p (.lst ((NMS.take 20).map V.str))) := k5.trans (KpZ.of (same_new hp))
      have t7 := t6.new (o := .lst ((NMS.take 20).map V.str)) hp
      have l20 : (NMS.take 20).length = 20 := by rw [List.length_take, nms_len]; decide
      refine ⟨st, g, p, c + 1, _, rfl, t7, by rw [List.length_map, l20]; omega, .inl (SqL.of upd_same), by rw [List.length_map, l20]; decide, fun H8 l8 ys s8 f8 z8 t8 h8 pm => ?_⟩
      obtain ⟨N8, rfl, pm8⟩ := perm_strs pm
      rw [List.length_map, l20] at t8
      refine ⟨_, rfl, m, rfl, l8, _, rfl, SqL.of h8, fun p2 hp2 => ?_⟩
      have len8 : N8.length = 20 := pm8.length_eq.trans l20
      have cutm : cutV (N8.map V.str) none (some (m : Int)) = (N8.take m).map V.str := by
        rw [cut_take (by rw [List.length_map]; omega), List.map_take]
      rw [cutm]
      have nd8 : N8.Nodup := pm8.nodup_iff.mpr (List.Sublist.nodup (List.take_sublist _ _) nms_nd)
      exact last _ _ p2 (N8.take m) (c + 1 + 20) ((k7.trans s8).trans (KpZ.of (same_new hp2))) (t8.new hp2) (by omega) upd_same (by rw [List.length_take]; omega) (List.Sublist.nodup (List.take_sublist _ _) nd8)
        (fun n hn => List.mem_of_mem_take (pm8.mem_iff.mp (List.mem_of_mem_take hn))) fun v H' q => q
    · refine ⟨_, rfl, _, rfl, m, rfl, l4, _, rfl, SqL.of e6, fun p2 hp2 => ?_⟩
      have cutm : cutV (NMS.map V.str) none (some (m : Int)) = (NMS.take m).map V.str := by
        rw [cut_take (by rw [List.length_map, nms_len]; omega), List.map_take]
      rw [cutm]
      exact last _ _ p2 (NMS.take m) (c + 1) (k5.trans (KpZ.of (same_new hp2))) (t6.new hp2) (by omega) upd_same (by rw [List.length_take, nms_len]; omega) (List.Sublist.nodup (List.take_sublist _ _) nms_nd)
        (fun n hn => List.mem_of_mem_take hn) fun v H' q => q
end
end K80
namespace K80
open PySem PySem.Spec PyProof.Rows L2
/-! ### the drawn roads are a tree -/
def Conn (N : List Str) (L : List Rd2) : Prop := ∀ f : Str → Str, (∀ ab ∈ L, f ab.1 = f ab.2) → ∀ x ∈ N, ∀ y ∈ N, f x = f y
structure TreeOf (N : List Str) (R : List Rd2) : Prop where
  len : R.length + 1 = N.length
  ends : ∀ ab ∈ R, ab.1 ∈ N ∧ ab.2 ∈ N
  conn : Conn N R
theorem TreeOf.perm {N : List Str} {R R2 : List Rd2} (h : TreeOf N R) (p : R2.Perm R) : TreeOf N R2 :=
  ⟨by rw [p.length_eq]; exact h.len, fun ab hab => h.ends ab (p.mem_iff.mp hab), fun f hf => h.conn f fun ab hab => hf ab (p.mem_iff.mpr hab)⟩
theorem TreeOf.names {N N2 : List Str} {R : List Rd2} (h : TreeOf N R) (p : N2.Perm N) : TreeOf N2 R :=
  ⟨by rw [p.length_eq]; exact h.len, fun ab hab => ⟨p.mem_iff.mpr (h.ends ab hab).1, p.mem_iff.mpr (h.ends ab hab).2⟩, fun f hf x hx y hy => h.conn f hf x (p.mem_iff.mp hx) y (p.mem_iff.mp hy)⟩
theorem paired_perm {α β : Type} {F : α → β → Prop} {xs xs2 : List α} (p : xs2.Perm xs) : ∀ {ys : List β}, Paired F xs ys → ∃ ys2, Paired F xs2 ys2 ∧ ys2.Perm ys := by
  induction p with
  | nil => intro ys h; cases h; exact ⟨[], .nil, .refl _⟩
  | cons x p ih =>
    intro ys h
    cases h with
    | cons r t =>
      obtain ⟨ys2, h1, h2⟩ := ih t
      exact ⟨_ :: ys2, .cons r h1, h2.cons _⟩
  | swap x y l =>
    intro ys h
    cases h with
    | cons r t =>
      cases t with
      | cons r2 t => exact ⟨_, .cons r2 (.cons r t), List.Perm.swap _ _ _⟩
  | trans p q ih1 ih2 =>
    intro ys h
    obtain ⟨ys2, h1, h2⟩ := ih2 h
    obtain ⟨ys3, h3, h4⟩ := ih1 h1
    exact ⟨ys3, h3, h4.trans h2⟩
def unR : V → Addr
  | .ref a => a
  | _ => 0
theorem perm_refs {ys : List V} {us : List Addr} (h : ys.Perm (us.map V.ref)) : ∃ us2 : List Addr, ys = us2.map V.ref ∧ us2.Perm us := by
  refine ⟨ys.map unR, ?_, ?_⟩
  · rw [List.map_map]
    refine (List.map_id _).symm.trans (List.map_congr_left fun v hv => ?_)
    obtain ⟨z, _, rfl⟩ := List.mem_map.mp (h.mem_iff.mp hv)
    rfl
  · have q := h.map unR
    rw [List.map_map] at q
    exact q.trans (List.Perm.of_eq ((List.map_congr_left fun z _ => rfl).trans (List.map_id _)))
def spRoads : Sp := fun vs H Q _ => ∃ (st g a : Addr) (c : Nat) (N : List Str), vs = [.ref st, .ref a] ∧ Strm H st g c ∧ c + 400 ≤ 1000000 ∧ H a = some (.lst (N.map V.str)) ∧ zst st g a = false ∧ 1 ≤ N.length ∧ N.length ≤ 60 ∧
  ∀ (H' : Hp) (l : Addr) (us : List Addr) (R : List Rd2), KpZ (zst st g) H H' → H l = none → zst st g l = false → Strm H' st g (c + 400) → H' l = some (.lst (us.map V.ref)) → PairsAt (hid (zst st g) H') us R → TreeOf N R → Q (.ref l) H'
/-- behind i roads -/
structure TreeTo (N : List Str) (R : List Rd2) (i : Nat) : Prop where
  len : R.length = i
  ends : ∀ ab ∈ R, ab.1 ∈ N ∧ ab.2 ∈ N
  conn : ∀ f : Str → Str, (∀ ab ∈ R, f ab.1 = f ab.2) → ∀ (j : Nat) x y, j ≤ i → N[j]? = some x → N[0]? = some y → f x = f y
theorem TreeTo.zero {N : List Str} : TreeTo N [] 0 := by
  refine ⟨rfl, fun ab h => (by cases h), fun f _ j x y hj hx hy => ?_⟩
  obtain rfl : j = 0 := by omega
  rw [hx] at hy
  cases hy
  rfl
theorem TreeTo.step {N : List Str} {R : List Rd2} {i j : Nat} {x y : Str} {ab : Rd2} (h : TreeTo N R i) (hj : j ≤ i) (hx : N[j]? = some x) (hy : N[i + 1]? = some y) (e : ab = (x, y) ∨ ab = (y, x)) : TreeTo N (R ++ [ab]) (i + 1) := by
  refine ⟨by rw [List.length_append, h.len]; rfl, fun cd hcd => ?_, fun f hf k u v hk hu hv => ?_⟩
  · rcases List.mem_append.mp hcd with z | z
    · exact h.ends cd z
    · rw [List.mem_singleton.mp z]
      rcases e with rfl | rfl
      · exact ⟨List.mem_of_getElem? hx, List.mem_of_getElem? hy⟩
      · exact ⟨List.mem_of_getElem? hy, List.mem_of_getElem? hx⟩
  · have old : ∀ cd ∈ R, f cd.1 = f cd.2 := fun cd hcd => hf cd (List.mem_append_left _ hcd)
    have hxy : f x = f y := by
      have q := hf ab (List.mem_append_right _ (List.mem_singleton.mpr rfl))
      rcases e with rfl | rfl
      · exact q
      · exact q.symm
    by_cases ek : k ≤ i
    · exact h.conn f old k u v ek hu hv
    · obtain rfl : k = i + 1 := by omega
      rw [hy] at hu
      cases hu
      rw [← hxy]
      exact h.conn f old j x v hj hx hv
theorem TreeTo.tree {N : List Str} {R : List Rd2} {i : Nat} (h : TreeTo N R i) (l : i + 1 = N.length) : TreeOf N R := by
  refine ⟨by rw [h.len]; exact l, h.ends, fun f hf x hx y hy => ?_⟩
  obtain ⟨z, hz⟩ : ∃ z, N[0]? = some z := ⟨_, List.getElem?_eq_getElem (by omega)⟩
  have go : ∀ w ∈ N, f w = f z := fun w hw => by
    obtain ⟨j, hj, ej⟩ := List.mem_iff_getElem.mp hw
    exact h.conn f hf j w z (by omega) (by rw [← ej]; exact List.getElem?_eq_getElem hj) hz
  exact (go x hx).trans (go y hy).symm
section
variable {P : Program} {w : World} {K : PySem.W.Frag} {mg : Str → Option Value} {base : Heap}
theorem ok_f_roads (T : Txt K mg) : FnOk P w K mg base CX0 3 T.law_f_roads.f T.law_f_roads.fd ["_law_stream", "_law_names"] spRoads := by
  have G_law_draw : FnOk P w K mg base CX0 1 T.law_draw.f T.law_draw.fd ["_law_stream", "_law_many"] spDraw := ok_draw T
  have G_law_mixed : FnOk P w K mg base CX0 2 T.law_mixed.f T.law_mixed.fd ["_law_stream", "_law_things"] (spMixed K) := ok_mixed T
  refine T.law_f_roads.F.ok sc_law_f_roads (fun vs H Q E h => ?_) (fun cdv A outer s H vs Q E hr h => ?_)
  · obtain ⟨st, g, a, c, N, rfl, _⟩ := h
    rfl
  · obtain ⟨st, g, a, c, N, rfl, hS, hc, ha, za, n1, n60, kk⟩ := h
    -- slots: 0 _law_stream, 1 _law_names, 2 _law_shape, 3 _law_found, 4 _law_k, 5 _law_at, 6 _law_pair
    refine ⟨_, (pss_cons (ps_par (i := 2) (j := 3) (by rfl) sc_law_f_roads.nd rfl rfl (by decide) rfl rfl (pa_cons (pe_call G_law_draw (hr.mono (by decide)) rfl T.law_draw.mgx T.law_draw.F.kp T.law_draw.b .nil pass0 (pa_cons (pv 0) (pa_cons pe_int pa_nil))) (pa_cons (pe_lst pa_nil) pa_nil)) (by rfl))
    (pss_cons (ps_for PassesOwn.never rfl (pi_range2 (by rfl) T.n_range (pa_cons pe_int (pa_cons (pe_callB call_len_seq (by rfl) T.n_len (by decide +kernel) (pa_cons (pv 1) pa_nil)) pa_nil))) (pg_name (i := 4) sc_law_f_roads.nd rfl (Or.inl rfl))
      (pss_cons (ps_set (i := 5) sc_law_f_roads.nd rfl (Or.inl rfl) (pe_ix ix_list (pe_lst (pa_cons (pe_op op_sub (pv 4) pe_int) (pa_cons pe_int (pa_cons (pe_call G_law_draw (hr.mono (by decide)) rfl T.law_draw.mgx T.law_draw.F.kp T.law_draw.b .nil pass0 (pa_cons (pv 0) (pa_cons (pv 4) pa_nil))) (pa_cons (pe_callB (call_max2 rfl) (by rfl) T.n_max (by decide +kernel) (pa_cons pe_int (pa_cons (pe_op op_sub (pe_op op_sub (pv 4) pe_int) (pe_call G_law_draw (hr.mono (by decide)) rfl T.law_draw.mgx T.law_draw.F.kp T.law_draw.b .nil pass0 (pa_cons (pv 0) (pa_cons pe_int pa_nil)))) pa_nil))) pa_nil))))) (pv 2) (fun _ _ => rfl)))
    (pss_cons (ps_set (i := 6) sc_law_f_roads.nd rfl (Or.inl rfl) (pe_tup (pa_cons (pe_ix ix_list (pv 1) (pv 5) (fun _ _ => rfl)) (pa_cons (pe_ix ix_list (pv 1) (pv 4) (fun _ _ => rfl)) pa_nil))))
    (pss_one (ps_expr (pe_bm PySem.F.plainAttrs_list PySem.F.slot_list_append PySem.F.type_list_append mt_append (pv 3) (pa_cons (pe_ifExp (pt_cmpR op_eq (pe_call G_law_draw (hr.mono (by decide)) rfl T.law_draw.mgx T.law_draw.F.kp T.law_draw.b .nil pass0 (pa_cons (pv 0) (pa_cons pe_int pa_nil))) pe_int (nomark _)) (pv 6) (pe_revP (pv 6))) pa_nil)))))))
    (pss_one (ps_ret (pe_call G_law_mixed (hr.mono (by decide)) rfl T.law_mixed.mgx T.law_mixed.F.kp T.law_mixed.b .nil pass0 (pa_cons (pv 0) (pa_cons (pv 3) pa_nil))))))), ?_⟩
    refine ⟨_, rfl, ⟨st, g, c, 4, rfl, hS, by omega, by decide, by decide, fun H1 sh s1 t1 sh0 sh1 => ⟨show 0 ≤ sizeLine by decide, fun f hf => ?_⟩⟩⟩
    have zf := zst_new t1 hf
    have hf0 : H f = none := s1.free hf zf
    have s2 : KpZ (zst st g) H (upd H1 f (.lst [])) := s1.trans (KpZ.of (same_new hf))
    have t2 := t1.new (o := .lst []) hf
    have f2 : upd H1 f (.lst []) f = some (.lst []) := upd_same
    generalize upd H1 f (.lst []) = H2 at s2 t2 f2 ⊢
    refine ⟨_, _, rfl, _, rfl, a, _, rfl, .inl (SqL.of (s2.at ha za)), 1, _, rfl, by rw [List.length_map]; omega, ?_⟩
    refine for_range (fun i σ H' => KpZ (zst st g) H H' ∧ Strm H' st g (c + 1 + 3 * i) ∧ ∃ (o4 o5 o6 : Option V) (us : List Addr) (R : List Rd2), σ = [some (.ref st), some (.ref a), some (.int sh), some (.ref f), o4, o5, o6] ∧ H' f = some (.lst (us.map V.ref)) ∧
      PairsAt (hid (zst st g) H') us R ∧ TreeTo N R i) ⟨s2, t2, none, none, none, [], [], rfl, f2, .nil, TreeTo.zero⟩ ?_ ?_
    · rintro i σ H3 hi ⟨s3, t3, o4, o5, o6, us, R, rfl, f3, hP, hT⟩
      have hiN : i + 1 < N.length := by
        rw [List.length_map] at hi
        omega
      have ka : (1 : Int) + (i : Nat) = ((i + 1 : Nat) : Int) := by omega
      rw [ka]
      refine ⟨_, rfl, _, _, rfl, rfl, _, rfl, _, rfl, ⟨st, g, _, _, rfl, t3, by omega, by omega, by omega, fun H4 d4 s4 t4 p4 q4 => ?_⟩⟩
      refine ⟨_, rfl, _, _, rfl, rfl, _, rfl, ⟨st, g, _, 2, rfl, t4, by omega, by decide, by decide, fun H5 d5 s5 t5 p5 q5 => ?_⟩⟩
      refine ⟨_, _, rfl, rfl, _, _, rfl, show 4 ≤ sizeLine by decide, fun l hl => ?_⟩
      have zl := zst_new t5 hl
      have k5 : KpZ (zst st g) H3 H5 := s4.trans s5
      obtain ⟨tt, ht, hat⟩ : ∃ tt : Nat, tt ≤ i ∧ atI [V.int (((i + 1 : Nat) : Int) - 1), .int 0, .int d4, .int (if ((i + 1 : Nat) : Int) - 1 - d5 > 0 then ((i + 1 : Nat) : Int) - 1 - d5 else 0)] sh = some (.int (tt : Nat)) := by
        rcases (show sh = 0 ∨ sh = 1 ∨ sh = 2 ∨ sh = 3 by omega) with rfl | rfl | rfl | rfl
        · exact ⟨i, Nat.le_refl _, (atI_nat (j := 0) rfl).trans (congrArg (fun z => some (V.int z)) (by omega))⟩
        · exact ⟨0, Nat.zero_le _, atI_nat (j := 1) rfl⟩
        · exact ⟨d4.toNat, by omega, (atI_nat (j := 2) rfl).trans (congrArg (fun z => some (V.int z)) (by omega))⟩
        · refine ⟨(if ((i + 1 : Nat) : Int) - 1 - d5 > 0 then ((i + 1 : Nat) : Int) - 1 - d5 else 0).toNat, ?_, (atI_nat (j := 3) rfl).trans (congrArg (fun z => some (V.int z)) ?_)⟩
          · split <;> omega
          · split <;> omega
      refine ⟨_, rfl, ⟨l, _, _, _, rfl, rfl, SqL.of upd_same, hat, ?_⟩⟩
      generalize eH : upd H5 l (HO.lst _) = H6
      have k6 : KpZ (zst st g) H3 H6 := by rw [← eH]; exact k5.trans (KpZ.of (same_new hl))
      have t6 : Strm H6 st g (c + 1 + 3 * i + 1 + 1) := by rw [← eH]; exact t5.new hl
      clear eH
      obtain ⟨x, hx⟩ : ∃ x, N[tt]? = some x := ⟨_, List.getElem?_eq_getElem (by omega)⟩
      obtain ⟨y, hy⟩ : ∃ y, N[i + 1]? = some y := ⟨_, List.getElem?_eq_getElem hiN⟩
      have hxV : (N.map V.str)[tt]? = some (.str x) := by rw [List.getElem?_map, hx] <;> rfl
      have hyV : (N.map V.str)[i + 1]? = some (.str y) := by rw [List.getElem?_map, hy] <;> rfl
      have kH6 := s3.trans k6
      have a6 := kH6.at ha za
      refine ⟨_, rfl, _, rfl, ⟨a, _, _, _, rfl, rfl, SqL.of a6, atI_nat hxV, _, rfl, _, rfl, ⟨a, _, _, _, rfl, rfl, SqL.of a6, atI_nat hyV, show 2 ≤ sizeLine by decide, fun p hp => ?_⟩⟩⟩
      have zp := zst_new t6 hp
      have k7 := k6.trans (KpZ.of (same_new (o := .tup [.str x, .str y]) hp))
      have t7 := t6.new (o := .tup [.str x, .str y]) hp
      have p7 : upd H6 p (.tup [.str x, .str y]) p = some (.tup [.str x, .str y]) := upd_same
      generalize upd H6 p (.tup [.str x, .str y]) = H7 at k7 t7 p7 ⊢
      -- found.append(..)
      have fin : ∀ (H9 : Hp) (q : Addr) (ab : Rd2), KpZ (zst st g) H3 H9 → Strm H9 st g (c + 1 + 3 * (i + 1)) → (ab = (x, y) ∨ ab = (y, x)) → H9 q = some (.tup [.str ab.1, .str ab.2]) → zst st g q = false →
          KpZ (zst st g) H (upd H9 f (.lst (us.map V.ref ++ [.ref q]))) ∧ Strm (upd H9 f (.lst (us.map V.ref ++ [.ref q]))) st g (c + 1 + 3 * (i + 1)) ∧ ∃ (o4 o5 o6 : Option V) (us2 : List Addr) (R2 : List Rd2),
            [some (V.ref st), some (.ref a), some (.int sh), some (.ref f), some (.int ((i + 1 : Nat) : Int)), some (.int (tt : Nat)), some (.ref p)] = [some (.ref st), some (.ref a), some (.int sh), some (.ref f), o4, o5, o6] ∧
            upd H9 f (.lst (us.map V.ref ++ [.ref q])) f = some (.lst (us2.map V.ref)) ∧ PairsAt (hid (zst st g) (upd H9 f (.lst (us.map V.ref ++ [.ref q])))) us2 R2 ∧ TreeTo N R2 (i + 1) := by
        intro H9 q ab k9 t9 eab q9 zq
        have f9 := k9.at f3 zf
        have up : ∀ b o, (∀ xs, o ≠ HO.lst xs) → hid (zst st g) H9 b = some o → hid (zst st g) (upd H9 f (.lst (us.map V.ref ++ [.ref q]))) b = some o := fun b o ne e => by
          refine hid_of ?_ (hid_not e)
          rw [upd_ne (fun z => by
            rw [z] at e
            have e2 := hid_some e
            rw [f9] at e2
            exact ne _ (Option.some.inj e2).symm)]
          exact hid_some e
        refine ⟨KpZ.new (s3.trans k9) hf0, t9.up (fun z => ?_) (fun z => ?_), _, _, _, us ++ [q], R ++ [ab], rfl, ?_, ?_, hT.step ht hx hy eab⟩
        · rw [z, zst_st] at zf; cases zf
        · rw [z, zst_g] at zf; cases zf
        · rw [upd_same, List.map_append]
          rfl
        · have nt : ∀ (xs ys : List V), HO.tup xs ≠ HO.lst ys := fun xs ys z => by cases z
          exact paired_snoc (F := fun r (ab : Rd2) => hid (zst st g) (upd H9 f (.lst (us.map V.ref ++ [.ref q]))) r = some (.tup [.str ab.1, .str ab.2])) (up _ _ (nt _) (hid_of q9 zq))
            (paired_same (F := fun r (ab : Rd2) => hid (zst st g) H3 r = some (.tup [.str ab.1, .str ab.2])) (fun r ab' h => up _ _ (nt _) (k9 _ _ h)) hP)
      have f7 := k7.at f3 zf
      refine ⟨_, rfl, .inl ⟨rfl, _, SqL.of f7⟩, _, rfl, ⟨st, g, _, 2, rfl, t7, by omega, by decide, by decide, fun H8 d8 s8 t8 p8 q8 => ?_⟩⟩
      have k8 := k7.trans s8
      have f8 := k8.at f3 zf
      have us60 : us.length ≤ 60 := by
        have := hT.len
        have e2 : us.length = R.length := Paired.length hP
        omega
      refine ⟨rfl, decide (d8 = 0), congrArg V.bl (decide_eq_decide.mpr ⟨fun z => V.int.inj z, fun z => by rw [z]⟩), ite2 (fun _ => ?_) fun _ => ?_⟩
      · refine ⟨_, rfl, f, _, _, rfl, rfl, f8, by rw [List.length_map]; exact Nat.lt_of_le_of_lt us60 (by decide), ?_⟩
        exact fin H8 p (x, y) k8 (t8.mono (by omega)) (.inl rfl) (s8.at p7 zp) zp
      · have p9 := s8.at p7 zp
        refine ⟨_, rfl, p, _, _, rfl, SqT.of p9, fun q hq => ?_⟩
        have zq := zst_new t8 hq
        have s9 := KpZ.of (Z := zst st g) (same_new (o := .tup [.str y, .str x]) hq)
        refine ⟨f, _, _, rfl, rfl, s9.at f8 zf, by rw [List.length_map]; exact Nat.lt_of_le_of_lt us60 (by decide), ?_⟩
        exact fin _ q (y, x) (k8.trans s9) ((t8.new hq).mono (by omega)) (.inr rfl) upd_same zq
    · rintro σ H3 ⟨s3, t3, o4, o5, o6, us, R, rfl, f3, hP, hT⟩
      have en : (((N.map V.str).length : Int) - 1).toNat = N.length - 1 := by rw [List.length_map]; omega
      rw [en] at t3 hT
      have e2 : us.length = R.length := Paired.length hP
      have e3 := hT.len
      refine ⟨_, rfl, _, rfl, ⟨st, g, f, _, _, rfl, t3, by rw [List.length_map]; omega, .inl (SqL.of f3), by rw [List.length_map]; omega, fun H4 l ys s4 fl zl t4 h4 pm => ?_⟩⟩
      obtain ⟨us2, rfl, pm2⟩ := perm_refs pm
      obtain ⟨R2, hP2, pmR⟩ := paired_perm pm2 (hP.same s4)
      rw [List.length_map] at t4
      exact kk H4 l us2 R2 (s3.trans s4) (s3.free fl zl) zl (t4.mono (by omega)) h4 hP2 ((hT.tree (by omega)).perm pmR)
end
end K80
namespace K80
open PySem PySem.Spec PyProof.Rows L2
/-! ### a tree's roads join two lots each, in any order -/
theorem rep_coarse : ∀ {L : List Rd2} {rep : Str → Str} {x y : Str}, rep x = rep y → repAll rep L x = repAll rep L y
  | [], _, _, _, h => h
  | ab :: L, rep, x, y, h => by
    show repAll (repStep rep ab) L x = repAll (repStep rep ab) L y
    refine rep_coarse ?_
    unfold repStep
    rw [h]
theorem rep_edge : ∀ {L : List Rd2} {rep : Str → Str} {ab : Rd2}, ab ∈ L → repAll rep L ab.1 = repAll rep L ab.2
  | [], _, _, h => by cases h
  | cd :: L, rep, ab, h => by
    show repAll (repStep rep cd) L ab.1 = repAll (repStep rep cd) L ab.2
    rcases List.mem_cons.mp h with rfl | h
    · refine rep_coarse ?_
      unfold repStep
      rw [if_pos rfl]
      split <;> rfl
    · exact rep_edge h
/-- a choice of one name for each lot -/
structure Idem (N : List Str) (rep : Str → Str) : Prop where
  m : ∀ n ∈ N, rep n ∈ N
  i : ∀ n ∈ N, rep (rep n) = rep n
theorem Idem.step {N : List Str} {rep : Str → Str} {ab : Rd2} (h : Idem N rep) (ha : ab.1 ∈ N) (hb : ab.2 ∈ N) : Idem N (repStep rep ab) := by
  refine ⟨fun n hn => ?_, fun n hn => ?_⟩
  · unfold repStep
    split
    · exact h.m _ ha
    · exact h.m _ hn
  · unfold repStep
    by_cases e : rep n = rep ab.2
    · rw [if_pos e, h.i _ ha]
      split <;> rfl
    · rw [if_neg e, h.i _ hn, if_neg e]
def fixN (N : List Str) (rep : Str → Str) : Nat := N.countP fun n => decide (rep n = n)
theorem countP_drop {N : List Str} {p q : Str → Bool} {z : Str} (nd : N.Nodup) (h : ∀ n ∈ N, p n = true → q n = true ∨ n = z) : N.countP p ≤ N.countP q + 1 := by
  induction N with
  | nil => exact Nat.zero_le _
  | cons a N ih =>
    have ih' := ih (List.nodup_cons.mp nd).2 fun n hn => h n (List.mem_cons_of_mem _ hn)
    rw [List.countP_cons, List.countP_cons]
    by_cases e : a = z
    · subst e
      have le : N.countP p ≤ N.countP q := List.countP_mono_left fun n hn hp => by
        rcases h n (List.mem_cons_of_mem _ hn) hp with c | c
        · exact c
        · exact absurd (c ▸ hn) (List.nodup_cons.mp nd).1
      split <;> split <;> omega
    · have := h a List.mem_cons_self
      by_cases hp : p a = true
      · have hq : q a = true := (this hp).resolve_right e
        rw [if_pos hp, if_pos hq]
        omega
      · rw [if_neg hp]
        split <;> omega
theorem fix_step {N : List Str} {rep : Str → Str} {ab : Rd2} (nd : N.Nodup) (h : Idem N rep) (ha : ab.1 ∈ N) (hb : ab.2 ∈ N) : fixN N rep ≤ fixN N (repStep rep ab) + 1 := by
  refine countP_drop (z := rep ab.2) nd fun n hn hp => ?_
  have e : rep n = n := of_decide_eq_true hp
  by_cases c : rep n = rep ab.2
  · exact .inr (e.symm.trans c)
  · refine .inl (decide_eq_true ?_)
    unfold repStep
    rw [if_neg c, e]
theorem rep_same {rep : Str → Str} {ab : Rd2} (h : rep ab.1 = rep ab.2) : repStep rep ab = rep := by
  funext n
  unfold repStep
  split
  · rename_i e
    rw [e, h]
  · rfl
theorem fix_all {N : List Str} (nd : N.Nodup) : ∀ {L : List Rd2} {rep : Str → Str}, Idem N rep → (∀ ab ∈ L, ab.1 ∈ N ∧ ab.2 ∈ N) → fixN N rep ≤ fixN N (repAll rep L) + L.length
  | [], _, _, _ => Nat.le_refl _
  | ab :: L, rep, h, he => by
    obtain ⟨ha, hb⟩ := he ab List.mem_cons_self
    have q1 := fix_step nd h ha hb
    have q2 := fix_all nd (L := L) (h.step ha hb) fun cd hcd => he cd (List.mem_cons_of_mem _ hcd)
    show fixN N rep ≤ fixN N (repAll (repStep rep ab) L) + (L.length + 1)
    omega
theorem fix_bad {N : List Str} (nd : N.Nodup) : ∀ {L : List Rd2} {rep : Str → Str}, Idem N rep → (∀ ab ∈ L, ab.1 ∈ N ∧ ab.2 ∈ N) → ¬ RepOk rep L → fixN N rep + 1 ≤ fixN N (repAll rep L) + L.length
  | [], _, _, _, bad => absurd trivial bad
  | ab :: L, rep, h, he, bad => by
    obtain ⟨ha, hb⟩ := he ab List.mem_cons_self
    have rest : ∀ cd ∈ L, cd.1 ∈ N ∧ cd.2 ∈ N := fun cd hcd => he cd (List.mem_cons_of_mem _ hcd)
    show fixN N rep + 1 ≤ fixN N (repAll (repStep rep ab) L) + (L.length + 1)
    by_cases c : rep ab.1 = rep ab.2
    · have q := fix_all nd h rest
      rw [rep_same c]
      omega
    · have q1 := fix_step nd h ha hb
      have q2 := fix_bad nd (h.step ha hb) rest fun z => bad ⟨c, z⟩
      omega
theorem two_of {N : List Str} {p : Str → Bool} (nd : N.Nodup) (h : 2 ≤ N.countP p) : ∃ x ∈ N, ∃ y ∈ N, x ≠ y ∧ p x = true ∧ p y = true := by
  rw [List.countP_eq_length_filter] at h
  have nf : (N.filter p).Nodup := List.Pairwise.filter _ nd
  match e : N.filter p with
  | [] => rw [e] at h; exact absurd h (by decide)
  | [x] => rw [e] at h; exact absurd h (by simp)
  | x :: y :: r =>
    have mx := List.mem_filter.mp (show x ∈ N.filter p by rw [e]; exact List.mem_cons_self)
    have my := List.mem_filter.mp (show y ∈ N.filter p by rw [e]; exact List.mem_cons_of_mem _ List.mem_cons_self)
    refine ⟨x, mx.1, y, my.1, fun z => ?_, mx.2, my.2⟩
    rw [e] at nf
    exact (List.nodup_cons.mp nf).1 (by rw [z]; exact List.mem_cons_self)
theorem tree_rep {N : List Str} {L : List Rd2} (nd : N.Nodup) (h : TreeOf N L) : RepOk id L := Classical.byContradiction fun bad => by
  have q := fix_bad nd (rep := id) ⟨fun n hn => hn, fun n _ => rfl⟩ h.ends bad
  have f0 : fixN N id = N.length := by
    unfold fixN
    exact List.countP_eq_length.mpr fun n _ => decide_eq_true rfl
  have hl := h.len
  obtain ⟨x, hx, y, hy, ne, px, py⟩ := two_of nd (p := fun n => decide (repAll id L n = n)) (show 2 ≤ fixN N (repAll id L) by omega)
  have c := h.conn (repAll id L) (fun ab hab => rep_edge hab) x hx y hy
  rw [of_decide_eq_true px, of_decide_eq_true py] at c
  exact ne c
theorem rep_uniq {L : List Rd2} (h : RepOk id L) : UniqR L := by
  have lt : ∀ (i j : Nat) (a b : Str), i < j → L[i]? = some (a, b) → (L[j]? = some (a, b) ∨ L[j]? = some (b, a)) → False := fun i j a b ij hi hj => by
    have mem : (a, b) ∈ L.take j := by
      obtain ⟨hi1, hi2⟩ := List.getElem?_eq_some_iff.mp hi
      refine List.mem_iff_getElem.mpr ⟨i, by rw [List.length_take]; omega, ?_⟩
      rw [List.getElem_take]
      exact hi2
    have e := rep_edge (rep := id) mem
    rcases hj with hj | hj
    · exact h.at hj e
    · exact h.at hj e.symm
  intro i j a b hi hj
  rcases Nat.lt_trichotomy i j with c | c | c
  · exact (lt i j a b c hi hj).elim
  · exact c
  · rcases hj with hj | hj
    · exact (lt j i a b c hj (.inl hi)).elim
    · exact (lt j i b a c hj (.inr hi)).elim
theorem uniq_nd {L : List Rd2} (h : UniqR L) : L.Nodup := by
  refine List.pairwise_iff_getElem.mpr fun i j hi hj ij e => ?_
  have e1 : L[i]? = some (L[i].1, L[i].2) := List.getElem?_eq_getElem hi
  have e2 : L[j]? = some (L[i].1, L[i].2) := by
    rw [List.getElem?_eq_getElem hj, ← e]
  have := h i j _ _ e1 (.inl e2)
  omega
end K80
namespace K80
open PySem PySem.Spec PyProof.Rows L2
/-! ### what a valley is drawn from; the valley made of it -/
structure SomeAt (H : Hp) (p : Addr) (N : List Str) (R : List Rd2) : Prop where
  ex : ∃ (a b d : Addr) (us : List Addr) (hs : List Int), H p = some (.tup [.ref a, .ref b, .ref d]) ∧ H a = some (.lst (N.map V.str)) ∧ H b = some (.lst (us.map V.ref)) ∧ PairsAt H us R ∧ H d = some (.lst (hs.map V.int)) ∧ hs.length = N.length ∧ ∀ z ∈ hs, 1 ≤ z
structure SomeOk (N : List Str) (R : List Rd2) : Prop where
  nd : N.Nodup
  n1 : 1 ≤ N.length
  nz : N.length ≤ 60
  ok : ∀ n ∈ N, NmOk n
  tree : TreeOf N R
theorem SomeAt.same {H H' : Hp} {p : Addr} {N : List Str} {R : List Rd2} (e : Same H H') (h : SomeAt H p N R) : SomeAt H' p N R := by
  obtain ⟨a, b, d, us, hs, h1, h2, h3, h4, h5, h6, h7⟩ := h.ex
  exact ⟨a, b, d, us, hs, e _ _ h1, e _ _ h2, e _ _ h3, h4.same e, e _ _ h5, h6, h7⟩
theorem SomeOk.rl {N : List Str} {R : List Rd2} (h : SomeOk N R) : R.length ≤ 59 := by
  have := h.tree.len
  have := h.nz
  omega
theorem SomeOk.rep {N : List Str} {R : List Rd2} (h : SomeOk N R) : RepOk id R := tree_rep h.nd h.tree
theorem SomeOk.vok {N : List Str} {R : List Rd2} (h : SomeOk N R) : VOk N R :=
  ⟨h.nd, h.n1, by have := h.nz; omega, by have := h.rl; omega, h.tree.ends, fun ab hab => ⟨(h.ok _ (h.tree.ends ab hab).1).st, (h.ok _ (h.tree.ends ab hab).2).st⟩, uniq_nd (rep_uniq h.rep)⟩
def spFValley : Sp := fun vs H Q _ => ∃ (st g : Addr) (c lo hi : Nat), vs = [.ref st, .int lo, .int hi] ∧ Strm H st g c ∧ c + 1000 ≤ 1000000 ∧ 1 ≤ lo ∧ lo ≤ hi ∧ hi ≤ 60 ∧
  ∀ (H' : Hp) (p : Addr) (N : List Str) (R : List Rd2), KpZ (zst st g) H H' → Strm H' st g (c + 1000) → SomeAt (hid (zst st g) H') p N R → SomeOk N R → Q (.ref p) H'
def spMade (C : Addr) : Sp := fun vs H Q _ => ∃ (st g p : Addr) (c : Nat) (N : List Str) (R : List Rd2), vs = [.ref st, .ref p] ∧ Strm H st g c ∧ c + 100 ≤ 1000000 ∧ SomeAt (hid (zst st g) H) p N R ∧ SomeOk N R ∧
  ∀ (H' : Hp) (v : Addr), KpZ (zst st g) H H' → Strm H' st g (c + 100) → ValAt C (hid (zst st g) H') v N R → NewRk C H H' v → Q (.ref v) H'
theorem ints_list : ∀ {ys : List V}, (∀ (i : Nat) v, ys[i]? = some v → ∃ z : Int, v = .int z ∧ 1 ≤ z) → ∃ hs : List Int, ys = hs.map V.int ∧ ∀ z ∈ hs, 1 ≤ z
  | [], _ => ⟨[], rfl, fun z h => by cases h⟩
  | y :: ys, h => by
    obtain ⟨z, rfl, hz⟩ := h 0 y rfl
    obtain ⟨hs, rfl, hh⟩ := ints_list (ys := ys) fun i v hv => h (i + 1) v hv
    refine ⟨z :: hs, rfl, fun x hx => ?_⟩
    rcases List.mem_cons.mp hx with rfl | hx
    · exact hz
    · exact hh x hx
theorem hid_kind {H : Hp} {st g b : Addr} {c : Nat} {o : HO} (t : Strm H st g c) (h : H b = some o) (n : ∀ xs, o ≠ .lst xs) : hid (zst st g) H b = some o := by
  obtain ⟨xs, h1⟩ := t.st
  obtain ⟨ys, h2⟩ := t.g
  refine hid_of h (decide_eq_false fun z => ?_)
  rcases z with rfl | rfl
  · rw [h] at h1
    exact n _ (Option.some.inj h1)
  · rw [h] at h2
    exact n _ (Option.some.inj h2)
theorem ValAt.hid {C : Addr} {H : Hp} {st g v : Addr} {c : Nat} {N : List Str} {R : List Rd2} (t : Strm H st g c) (h : ValAt C H v N R) : ValAt C (hid (zst st g) H) v N R := by
  obtain ⟨dx, an, ar, ao, ap, fs, f, rs, pl, h1, h2, h3, h4, h5, h6, h7, h8, h9, h10, h11⟩ := h.ex
  exact ⟨dx, an, ar, ao, ap, fs, f, rs, pl, hid_kind t h1 (fun _ z => by cases z), h2, hid_kind t h3 (fun _ z => by cases z), h4, hid_kind t h5 (fun _ z => by cases z), h6, hid_kind t h7 (fun _ z => by cases z),
    paired_same (fun _ _ z => hid_kind t z (fun _ z => by cases z)) h8, h9, hid_kind t h10 (fun _ z => by cases z), h11⟩
section
variable {P : Program} {w : World} {K : PySem.W.Frag} {mg : Str → Option Value} {base : Heap}
theorem ok_f_valley (T : Txt K mg) : FnOk P w K mg base CX0 4 T.law_f_valley.f T.law_f_valley.fd ["_law_stream", "_law_least", "_law_most"] spFValley := by
  have G_law_draw : FnOk P w K mg base CX0 1 T.law_draw.f T.law_draw.fd ["_law_stream", "_law_many"] spDraw := ok_draw T
  have G_law_pick : FnOk P w K mg base CX0 2 T.law_pick.f T.law_pick.fd ["_law_stream", "_law_things"] spPick := ok_pick T
  have G_law_mixed : FnOk P w K mg base CX0 2 T.law_mixed.f T.law_mixed.fd ["_law_stream", "_law_things"] (spMixed K) := ok_mixed T
  have G_law_f_names : FnOk P w K mg base CX0 3 T.law_f_names.f T.law_f_names.fd ["_law_stream", "_law_least", "_law_most"] spNames := ok_f_names T
  have G_law_f_roads : FnOk P w K mg base CX0 3 T.law_f_roads.f T.law_f_roads.fd ["_law_stream", "_law_names"] spRoads := ok_f_roads T
  refine T.law_f_valley.F.ok sc_law_f_valley (fun vs H Q E h => ?_) (fun cdv A outer s H vs Q E hr h => ?_)
  · obtain ⟨st, g, c, lo, hi, rfl, _⟩ := h
    rfl
  · obtain ⟨st, g, c, lo, hi, rfl, hS, hc, h1, h2, h3, k⟩ := h
    -- slots: 0 _law_stream*, 1 _law_least, 2 _law_most, 3 _law_names, 4 _law_great*, 5 _law_name
    refine ⟨_, (pss_cons (ps_set (i := 3) sc_law_f_valley.nd rfl (Or.inl rfl) (pe_call G_law_f_names (hr.mono (by decide)) rfl T.law_f_names.mgx T.law_f_names.F.kp T.law_f_names.b .nil pass0 (pa_cons (pv 0) (pa_cons (pv 1) (pa_cons (pv 2) pa_nil)))))
    (pss_cons (ps_set (i := 4) sc_law_f_valley.nd rfl (Or.inr rfl) (pe_call G_law_pick (hr.mono (by decide)) rfl T.law_pick.mgx T.law_pick.F.kp T.law_pick.b .nil pass0 (pa_cons (pv 0) (pa_cons (pe_lst (pa_cons pe_int (pa_cons pe_int (pa_cons pe_int (pa_cons (pe_op op_pow pe_int pe_int) pa_nil))))) pa_nil))))
    (pss_one (ps_ret (pe_tup (pa_cons (pe_call G_law_mixed (hr.mono (by decide)) rfl T.law_mixed.mgx T.law_mixed.F.kp T.law_mixed.b .nil pass0 (pa_cons (pv 0) (pa_cons (pv 3) pa_nil))) (pa_cons (pe_call G_law_f_roads (hr.mono (by decide)) rfl T.law_f_roads.mgx T.law_f_roads.F.kp T.law_f_roads.b .nil pass0 (pa_cons (pv 0) (pa_cons (pv 3) pa_nil))) (pa_cons (pe_lc (own := [("_law_name", 5)]) (g := gName 5) (tt := tYes) rfl sc_law_f_valley.nd (pi_list (pv 3)) (blkOk_by (N := N_law_f_valley) (own := [("_law_name", 5)]) (sc := defScope s_law_f_valley) (by decide +kernel)) (fun _ _ _ _ _ => (pg_name (i := 5) sc_law_f_valley.nd rfl (Or.inl rfl))) (fun _ _ _ _ _ => pts_nil) (fun _ _ _ _ _ => (pe_op op_add pe_int (pe_call G_law_draw (hr.mono (by decide)) rfl T.law_draw.mgx T.law_draw.F.kp T.law_draw.b .nil pass0 (pa_cons (pv 0) (pa_cons (pv 4) pa_nil)))))) pa_nil)))))))), ?_⟩
    refine ⟨_, rfl, _, rfl, _, rfl, ⟨st, g, c, lo, hi, rfl, hS, by omega, h1, h2, h3, fun H1 l N s1 f1 z1 t1 e1 n1 n2 nd ok => ?_⟩⟩
    refine ⟨_, rfl, _, _, rfl, rfl, ⟨by decide, by decide, by decide⟩, show 4 ≤ sizeLine by decide, fun l2 hl2 => ?_⟩
    have z2 := zst_new t1 hl2
    generalize eH : upd H1 l2 (HO.lst _) = H2
    have s2 : KpZ (zst st g) H1 H2 := by rw [← eH]; exact KpZ.of (same_new hl2)
    have t2 : Strm H2 st g (c + 100) := by rw [← eH]; exact t1.new hl2
    have e2 : H2 l2 = some (.lst [.int 1, .int 3, .int 9, .int (10 ^ 15)]) := by rw [← eH]; exact upd_same
    clear eH
    refine ⟨st, g, l2, _, _, rfl, t2, by omega, e2, z2, show 1 ≤ 4 by decide, show 4 ≤ 1000 by decide, fun H3 x s3 t3 hx => ?_⟩
    obtain ⟨great, rfl, g1, g2⟩ : ∃ great : Int, x = .int great ∧ 1 ≤ great ∧ great < 2 ^ 64 := by
      simp only [List.mem_cons, List.mem_nil_iff, or_false] at hx
      rcases hx with rfl | rfl | rfl | rfl
      · exact ⟨1, rfl, by decide, by decide⟩
      · exact ⟨3, rfl, by decide, by decide⟩
      · exact ⟨9, rfl, by decide, by decide⟩
      · exact ⟨10 ^ 15, rfl, by decide, by decide⟩
    have k3 := s2.trans s3
    have e3 := k3.at e1 z1
    refine ⟨_, rfl, _, rfl, ⟨st, g, l, _, _, rfl, t3, by rw [List.length_map]; omega, .inl (SqL.of e3), by rw [List.length_map]; omega, fun H4 l4 ys s4 f4 z4 t4 e4 pm => ?_⟩⟩
    obtain ⟨N2, rfl, pm2⟩ := perm_strs pm
    rw [List.length_map] at t4
    have e4' := s4.at e3 z1
    refine ⟨_, rfl, _, rfl, ⟨st, g, l, _, N, rfl, t4, by omega, e4', z1, by omega, by omega, fun H5 l5 us R s5 f5 z5 t5 e5 hP tr => ?_⟩⟩
    have e5' := s5.at e4' z1
    have e54 := s5.at e4 z4
    refine ⟨_, rfl, l, rfl, ⟨_, SqL.of e5'⟩, fun D hD => ?_⟩
    have zD := zst_new t5 hD
    have nst : D ≠ st := fun z => by rw [z, zst_st] at zD; cases zD
    have ng : D ≠ g := fun z => by rw [z, zst_g] at zD; cases zD
    refine lcZ (walk_list (xs := N.map V.str)) (zst st g) (fun i H' => Strm H' st g (c + 100 + 1 + N.length + 400 + i)) (fun _ _ v => ∃ z : Int, v = .int z ∧ 1 ≤ z) hD zD (by rw [List.length_map]; omega) (fun _ _ _ _ _ _ _ r => r) (fun _ H' o h => h.up nst ng) (fun H' e => SqL.of (e.at e5' z1)) t5 ?_ ?_
    · rintro i x H6 H7 acc Q2 hi s6 t6 h6 ⟨rfl, hx⟩ q
      rw [List.length_map] at hi
      refine ⟨rfl, ⟨_, rfl, _, rfl, ⟨st, g, _, great, rfl, t6, by omega, g1, g2, fun H8 d s8 t8 d0 d1 => ⟨_, _, rfl, rfl, ?_⟩⟩⟩⟩
      exact q _ _ s8 t8 ⟨_, rfl, by omega⟩
    intro H6 ys s6 t6 h6 ly rel
    obtain ⟨hs, rfl, hh⟩ := ints_list rel
    rw [List.length_map] at t6 ly
    rw [List.length_map] at ly
    refine ⟨show 3 ≤ sizeLine by decide, fun p hp => ?_⟩
    have zp := zst_new t6 hp
    have s7 := KpZ.of (Z := zst st g) (same_new (o := .tup [.ref l4, .ref l5, .ref D]) hp)
    have kall := ((((s1.trans k3).trans s4).trans s5).trans s6).trans s7
    refine k _ p N2 R kall ((t6.new hp).mono (by omega)) ⟨l4, l5, D, us, hs, hid_of upd_same zp, hid_of ((s6.trans s7).at e54 z4) z4, hid_of ((s6.trans s7).at e5 z5) z5, hP.same (s6.trans s7), hid_of (s7.at h6 zD) zD, by rw [ly, pm2.length_eq], hh⟩ ?_
    exact ⟨pm2.nodup_iff.mpr nd, by rw [pm2.length_eq]; omega, by rw [pm2.length_eq]; omega, fun n hn => ok n (pm2.mem_iff.mp hn), tr.names pm2⟩
theorem ok_f_made (T : Txt K mg) : FnOk P w K mg base CX0 6 T.law_f_made.f T.law_f_made.fd ["_law_stream", "_law_some"] (spMade T.C) := by
  have G_law_loose : FnOk P w K mg base CX0 3 T.law_loose.f T.law_loose.fd ["_law_stream", "_law_thing"] spLoose1 := ok_loose1 T
  have G_loose2 : FnOk P w K mg base CX0 4 T.law_loose.f T.law_loose.fd ["_law_stream", "_law_thing"] spLoose2 := ok_loose2 T
  have G_Valley : FnOk P w K mg base CX0 4 T.fI T.fdI ["self", "houses", "roads", "heads"] (spValley T.C) := ok_Valley T
  refine T.law_f_made.F.ok sc_law_f_made (fun vs H Q E h => ?_) (fun cdv A outer s H vs Q E hr h => ?_)
  · obtain ⟨st, g, p, c, N, R, rfl, _⟩ := h
    rfl
  · obtain ⟨st, g, p, c, N, R, rfl, hS, hc, hA, ok, k⟩ := h
    -- slots: 0 _law_stream, 1 _law_some
    refine ⟨_, (pss_one (ps_ret (pe_make T.MI G_Valley (hr.mono (by decide)) rfl T.mgValley T.bI .nil pass0 (pa_cons (pe_call G_law_loose (hr.mono (by decide)) rfl T.law_loose.mgx T.law_loose.F.kp T.law_loose.b .nil pass0 (pa_cons (pv 0) (pa_cons (pe_ix ix_tup (pv 1) pe_int (fun _ _ => rfl)) pa_nil))) (pa_cons (pe_call G_loose2 (hr.mono (by decide)) rfl T.law_loose.mgx T.law_loose.F.kp T.law_loose.b .nil pass0 (pa_cons (pv 0) (pa_cons (pe_ix ix_tup (pv 1) pe_int (fun _ _ => rfl)) pa_nil))) (pa_cons (pe_call G_law_loose (hr.mono (by decide)) rfl T.law_loose.mgx T.law_loose.F.kp T.law_loose.b .nil pass0 (pa_cons (pv 0) (pa_cons (pe_ix ix_tup (pv 1) pe_int (fun _ _ => rfl)) pa_nil))) pa_nil)))))), ?_⟩
    obtain ⟨a, b, d, us, hs, h1, h2, h3, h4, h5, h6, h7⟩ := hA.ex
    have nz := ok.nz
    have n1 := ok.n1
    have rl := ok.rl
    have at0 : ∀ {x y z : V}, atI [x, y, z] 0 = some x := fun {x y z} => atI_nat (j := 0) rfl
    have at1 : ∀ {x y z : V}, atI [x, y, z] 1 = some y := fun {x y z} => atI_nat (j := 1) rfl
    have at2 : ∀ {x y z : V}, atI [x, y, z] 2 = some z := fun {x y z} => atI_nat (j := 2) rfl
    refine ⟨_, rfl, _, rfl, p, _, _, _, rfl, rfl, SqT.of (hid_some h1), at0, ?_⟩
    refine ⟨st, g, a, c, N.map V.str, rfl, hS, by omega, .inl h2, by rw [List.length_map]; omega, fun x hx => ?_, fun H1 l1 s1 f1 z1 t1 q1 => ?_⟩
    · obtain ⟨n, _, rfl⟩ := List.mem_map.mp hx
      exact .inl ⟨n, rfl⟩
    refine ⟨_, rfl, _, rfl, p, _, _, _, rfl, rfl, SqT.of (hid_some (s1 _ _ h1)), at1, ?_⟩
    refine ⟨st, g, b, _, R, rfl, t1, by omega, ⟨us, .inl (s1 _ _ h3), paired_same (fun u ab z => .inr (s1 _ _ z)) h4⟩, by omega, fun H2 l2 s2 f2 z2 t2 q2 => ?_⟩
    refine ⟨_, rfl, _, rfl, p, _, _, _, rfl, rfl, SqT.of (hid_some (s2 _ _ (s1 _ _ h1))), at2, ?_⟩
    refine ⟨st, g, d, _, hs.map V.int, rfl, t2, by omega, .inl (s2 _ _ (s1 _ _ h5)), by rw [List.length_map]; omega, fun x hx => ?_, fun H3 l3 s3 f3 z3 t3 q3 => ?_⟩
    · obtain ⟨n, _, rfl⟩ := List.mem_map.mp hx
      exact .inr ⟨n, rfl⟩
    have m1 : Seq (hid (zst st g) H3) l1 (N.map V.str) := (q1.hid z1).same (s2.trans s3)
    have m2 : RoadsIn (hid (zst st g) H3) l2 R := q2.same s3
    have m3 : Seq (hid (zst st g) H3) l3 (hs.map V.int) := q3.hid z3
    refine fun x dx hx hdx ne => ?_
    have zx := zst_new t3 hx
    have zdx := zst_new t3 hdx
    have s4 : Same H3 (upd (upd H3 dx (.own x)) x (.ins T.C dx [])) := same_mut (same_new hdx) hx
    have x4 : upd (upd H3 dx (.own x)) x (.ins T.C dx []) x = some (.ins T.C dx []) := upd_same
    have t4 : Strm (upd (upd H3 dx (.own x)) x (.ins T.C dx [])) st g (c + 1 + R.length + 1 + 1) := (t3.new hdx).up (fun z => by rw [z, zst_st] at zx; cases zx) (fun z => by rw [z, zst_g] at zx; cases zx)
    generalize upd (upd H3 dx (.own x)) x (.ins T.C dx []) = H4 at s4 x4 t4 ⊢
    have k4 := KpZ.of (Z := zst st g) s4
    refine ⟨x, dx, l1, l2, l3, N, R, hs, rfl, x4, (m1.same k4).same hid_in, fun n hn => (ok.ok n hn).ok, ok.nd, n1, by omega, (m2.same k4).same hid_in, ok.tree.len, ok.tree.ends, ok.rep, rep_uniq ok.rep, (m3.same k4).same hid_in, h6, h7, fun H5 v5 b5 nr5 => ⟨rfl, ?_⟩⟩
    have t5 : Strm H5 st g (c + 1 + R.length + 1 + 1) := by
      obtain ⟨ns, m, kk, r, e1, e2, e3⟩ := t4.ex
      exact ⟨ns, m, kk, r, b5 _ _ e1 (ne_of e1 x4 (fun z => by cases z)), b5 _ _ e2 (ne_of e2 x4 (fun z => by cases z)), e3⟩
    have k3 := (s1.trans s2).trans s3
    have x0 : H x = none := k3.free hx zx
    refine k H5 x (fun b o e => ?_) (t5.mono (by omega)) (v5.hid t5) fun dx' fs' ar' q1 q2 => ?_
    rotate_left
    · have n4 := nr5 dx' fs' ar' q1 q2
      exact k3.free (s4.free n4) (zst_new t4 n4)
    have e4 := (k3.trans k4) b o e
    exact hid_of (b5 _ _ (hid_some e4) (ne_of_none (hid_some e) x0)) (hid_not e)
end
end K80
namespace K80
open PySem PySem.Spec PyProof.Rows L2
/-! ### dict(xs), xs a list of pairs whose keys are tuples, no two alike -/
abbrev Trip := List Key × Addr × V
theorem keyed_of {X : Cx} {pins : List (Addr × Obj)} {σ : L2.St} {H : Hp} {s : Shared} (I : Inv X pins σ H s) : ∀ {ps : List Addr} {kb : List Trip}, Paired (fun p q => SqT X.K H p [.ref q.2.1, q.2.2] ∧ H q.2.1 = some (.tup (q.1.map kV))) ps kb →
    ∃ prs : List (List Key × Addr × Value), Paired (fun (p : List Key × V) (q : List Key × Addr × Value) => p.1 = q.1 ∧ H q.2.1 = some (.tup (p.1.map kV)) ∧ RelV p.2 q.2.2) (kb.map fun q => (q.1, q.2.2)) prs ∧ prs.map (·.1) = kb.map (·.1) ∧ prs.length = ps.length ∧
      ∀ (j : Nat) (q : List Key × Addr × Value), prs[j]? = some q → ∃ b : Addr, ps[j]? = some b ∧ IsTup s.heap b #[.ref q.2.1, q.2.2]
  | _, _, .nil => ⟨[], .nil, rfl, rfl, fun j q e => by cases e⟩
  | _, _, .cons (a := p) (b := kb) h t => by
    obtain ⟨prs, r, hm, hl, hp⟩ := keyed_of I t
    obtain ⟨its, rv, ht, _⟩ := I.tuple h.1
    obtain ⟨u, y, ei, ru, ry⟩ := vals2 rv
    subst ei
    cases (show u = Value.ref kb.2.1 from ru)
    refine ⟨(kb.1, kb.2.1, y) :: prs, .cons ⟨rfl, h.2, ry⟩ r, by rw [List.map_cons, List.map_cons, hm], by rw [List.length_cons, List.length_cons, hl], fun j q e => ?_⟩
    cases j with
    | zero =>
      obtain rfl := Option.some.inj (show some _ = some q from e)
      exact ⟨p, rfl, ht⟩
    | succ j => exact hp j q e
theorem stored_nodup {ps : List (List Key × Addr × Value)} (nd : (ps.map (·.1)).Nodup) : ∀ {acc : List (List Key × Addr × Value)}, (∀ q ∈ ps, ∀ a ∈ acc, a.1 ≠ q.1) → storedAllH acc ps = acc ++ ps := by
  induction ps with
  | nil => intro acc _; exact (List.append_nil _).symm
  | cons p ps ih =>
    intro acc no
    have nd' := List.nodup_cons.mp (show (p.1 :: ps.map (·.1)).Nodup from nd)
    show storedAllH (storedH acc p.1 p.2.1 p.2.2) ps = _
    have at0 : atKey acc p.1 = none := by
      unfold atKey
      rw [List.find?_eq_none.mpr fun a ha => by
        rw [decide_eq_true_eq]
        exact no p List.mem_cons_self a ha]
      rfl
    rw [storedH_new at0, ih nd'.2 fun q hq a ha => ?_, List.append_assoc]
    · rfl
    · rcases List.mem_append.mp ha with ha | ha
      · exact no q (List.mem_cons_of_mem _ hq) a ha
      · rw [List.mem_singleton.mp ha]
        intro z
        exact nd'.1 (List.mem_map.mpr ⟨q, hq, z.symm⟩)
theorem call_dictT {X : Cx} (hc : X.calm = true) (hu : X.A.units + 2 < cLine) : CallR X (.type "dict") (fun xs H Q => ∃ (a : Addr) (ps : List Addr) (kb : List Trip), xs = [.ref a] ∧ SqL X.K H a (ps.map V.ref) ∧
    Paired (fun p q => SqT X.K H p [.ref q.2.1, q.2.2] ∧ H q.2.1 = some (.tup (q.1.map kV))) ps kb ∧ (kb.map (·.1)).Nodup ∧ ∀ p, H p = none → Q (.ref p) (upd H p (.dT (kb.map fun q => (q.1, q.2.2))))) := by
  intro pins s σ H xs us Q I r h
  obtain ⟨a, ps, kb, rfl, hq, hp, nd, q⟩ := h
  obtain ⟨u, rfl, rx⟩ := vals1 r
  cases (show u = Value.ref a from rx)
  obtain ⟨its, rv, pl, hz⟩ := I.list hq
  have ei := refs_at rv
  subst ei
  rw [List.length_map] at hz
  obtain ⟨prs, rel, hm, hl, hpr⟩ := keyed_of I hp
  have lk : kb.length = ps.length := (Paired.length hp).symm
  obtain ⟨o, n, ho, hcl, hd, hdat⟩ := pl
  have keys : ∀ x ∈ prs, (tupleKind (mixKind X.prog X.w)).is s.heap x.1 x.2.1 := by
    clear hpr hm hl
    have all : ∀ {l : List (List Key × V)} {m : List (List Key × Addr × Value)}, Paired (fun (p : List Key × V) (q : List Key × Addr × Value) => p.1 = q.1 ∧ H q.2.1 = some (.tup (p.1.map kV)) ∧ RelV p.2 q.2.2) l m → ∀ x ∈ m, (tupleKind (mixKind X.prog X.w)).is s.heap x.1 x.2.1 := by
      intro l m q
      induction q with
      | nil => intro x hx; cases hx
      | cons hq t ih =>
        intro x hx
        rcases List.mem_cons.mp hx with rfl | hx
        · exact key_of I.hok (by rw [← hq.1]; exact hq.2.1)
        · exact ih x hx
    exact all rel
  have PI : PairItems s.heap (ps.map Value.ref).toArray (fun j => ps.getD j 0) (prs.map fun x => (Value.ref x.2.1, x.2.2)) := by
    refine ⟨by rw [List.size_toArray, List.length_map, List.length_map, hl], fun j k v e => ?_⟩
    rw [List.getElem?_map] at e
    obtain ⟨x, hx, ex⟩ := Option.map_eq_some_iff.mp e
    obtain ⟨b, hb, ht⟩ := hpr j x hx
    cases ex
    have gd : ps.getD j 0 = b := by rw [List.getD_eq_getElem?_getD, hb] <;> rfl
    dsimp only
    rw [gd]
    exact ⟨by rw [List.getElem?_toArray, List.getElem?_map, hb] <;> rfl, .inl ht⟩
  have hlen : (prs.map fun x => (Value.ref x.2.1, x.2.2)).length = ps.length := by rw [List.length_map, hl]
  refine call_dict_pairsH (knd := tupleKind (mixKind X.prog X.w)) (ps := prs) (PairArg.list a (ps.map Value.ref).toArray (fun j => ps.getD j 0) (prs.map fun x => (Value.ref x.2.1, x.2.2))) (I.ok.hd hc) ?_ ⟨⟨o, n, ho, hcl, hd, hdat⟩, PI⟩ ⟨by rw [List.length_map], fun i key v e => ?_⟩ (fun h' hk x hx => ?_) (by rw [hlen]; exact hz) (fun h' tk hd' k => ?_)
  · show X.A.in1.in1.units < cLine
    show X.A.units + 1 + 1 < cLine
    omega
  · have e' : (prs.map fun x => (Value.ref x.2.1, x.2.2))[i]? = some (key, v) := e
    rw [List.getElem?_map] at e'
    obtain ⟨x, hx, ex⟩ := Option.map_eq_some_iff.mp e'
    cases ex
    exact ⟨x.1, x.2.1, hx, rfl⟩
  · obtain ⟨o2, its2, n2, g1, g2, g3, g4⟩ := keys x hx
    exact ⟨o2, its2, n2, hk _ _ (Nat.ne_of_lt (Heap.lt_size g1)) (fun z => by cases z) g1, g2, g3, g4⟩
  · have big : s.heap.objs.size ≠ sysModules := Nat.ne_of_gt I.big
    rw [stored_nodup (by rw [hm]; exact nd) (fun _ _ _ ha => by cases ha), List.nil_append] at hd'
    obtain ⟨o2, es, ep, g1, g2, g3, g4, g5, g6⟩ := hd'
    have kk : ∀ b o, s.heap.get? b = some o → h'.get? b = some o := fun b o e => k b o (fun z => by cases z) e
    refine ⟨.ref s.heap.objs.size, _, I.laid (t' := tk) (o := .dT (kb.map fun q => (q.1, q.2.2))) kk (Nat.le_refl _) ⟨by rw [List.length_map, lk]; exact hz, beq_eq_false_iff_ne.mpr big, prs, ?_, o2, es, ep, g1, g2, g3, g4, g6⟩, rfl, q _ (I.hok.fresh (Nat.le_refl _))⟩
    refine paired_same (fun x y z => ⟨z.1, ?_, z.2.2⟩) rel
    rw [upd_ne (ne_of_none z.2.1 (I.hok.fresh (Nat.le_refl _)))]
    exact z.2.1
end K80
namespace K80
open PySem PySem.Spec PyProof.Rows L2
theorem built_fold : ∀ {kvs : List (Key × V)} {acc : List (Key × V)} {ks : List Key}, Built acc ks → Built (mergeK acc kvs) (ks ++ kvs.map (·.1))
  | [], acc, ks, h => by
    rw [List.map_nil, List.append_nil]
    exact h
  | kv :: kvs, acc, ks, h => by
    have q := built_fold (kvs := kvs) (h.put kv.1 kv.2)
    rw [List.append_assoc] at q
    exact q
theorem built_merge {kvs : List (Key × V)} : Built (mergeK [] kvs) (kvs.map (·.1)) := built_fold Built.nil
theorem merge_new : ∀ {kvs : List (Key × V)} {acc : List (Key × V)} {ks : List Key}, Built acc ks → (kvs.map (·.1)).Nodup → (∀ k ∈ kvs.map (·.1), ¬ k ∈ ks) → mergeK acc kvs = acc ++ kvs
  | [], acc, ks, _, _, _ => (List.append_nil _).symm
  | kv :: kvs, acc, ks, h, nd, no => by
    have nd' := List.nodup_cons.mp (show (kv.1 :: kvs.map (·.1)).Nodup from nd)
    show mergeK (putK acc kv.1 kv.2) kvs = _
    rw [merge_new (h.put kv.1 kv.2) nd'.2 fun k hk hm => ?_, putK_new _ (h.no (no kv.1 List.mem_cons_self)), List.append_assoc]
    · rfl
    · rcases List.mem_append.mp hm with hm | hm
      · exact no k (List.mem_cons_of_mem _ hk) hm
      · rw [List.mem_singleton.mp hm] at hk
        exact nd'.1 hk
theorem merge_dOf {N : List Str} {f : Str → V} (nd : N.Nodup) : mergeK [] (dOf N f) = dOf N f := by
  have e : (dOf N f).map (·.1) = N.map Sum.inr := by
    unfold dOf
    rw [List.map_map]
    rfl
  refine (merge_new Built.nil ?_ fun k _ z => by cases z).trans (List.nil_append _)
  rw [e]
  clear e
  induction N with
  | nil => exact .nil
  | cons n N ih =>
    rw [List.map_cons]
    refine List.nodup_cons.mpr ⟨fun z => ?_, ih (List.nodup_cons.mp nd).2⟩
    obtain ⟨m, hm, e⟩ := List.mem_map.mp z
    cases e
    exact (List.nodup_cons.mp nd).1 hm
section
variable {J : It} {G : Hp → Prop} {H1 : Hp} {D : Addr} {Qd : Hp → Prop} {σ : L2.St} {vs : List Nat} {j : Nat} {tv : TE}
/-- [(n, e(n)) for n in names] -/
theorem lcPair {N : List Str} (w : Walk J N.length G (YAt (N.map V.str))) (nd : N.Nodup) (Z : Addr → Bool) (Iv : Nat → Hp → Prop) (Rel : Hp → Str → V → Prop) (hD : H1 D = none) (zD : Z D = false) (hz : N.length ≤ 100000)
    (mono : ∀ (H H' : Hp) (n : Str) (v : V) (acc : List V), H D = some (.lst acc) → KpB Z D H H' → Rel H n v → Rel H' n v) (ivu : ∀ i H p o, H p = none ∨ p = D → Iv i H → Iv i (upd H p o)) (hG : ∀ H', KpZ Z H1 H' → G H') (h0 : Iv 0 H1)
    (nz : ∀ i H' p, Iv i H' → H' p = none → Z p = false) (hw : ∀ x, wipe ((wipe σ vs).set j (some x)) vs = wipe σ vs) (hj : j < σ.length)
    (hv : ∀ (i : Nat) (n : Str) (H' : Hp) (acc : List V) (Q : VK), N[i]? = some n → KpZ Z H1 H' → Iv i H' → H' D = some (.lst acc) → (∀ v H4, KpZ Z H' H4 → Iv (i + 1) H4 → Rel H4 n v → Q v H4) → tv ((wipe σ vs).set j (some (.str n))) H' Q)
    (k : ∀ (H' : Hp) (ps : List Addr) (f : Str → V), KpZ Z H1 H' → Iv N.length H' → H' D = some (.lst (ps.map V.ref)) → Paired (fun p (kv : Key × V) => H' p = some (.tup [kV kv.1, kv.2])) ps (dOf N f) → (∀ n ∈ N, Rel H' n (f n)) → Qd H') :
    ∃ W : Nat → Nat → Hp → Prop, (∃ m, W 0 m (upd H1 D (.lst []))) ∧ ∀ i m H, W i m H → (J.stop i H ∧ Qd H) ∨ (J.go i H ∧ ∃ Nx : Hp → Prop, (∀ H', Nx H' → ∃ m', m' < m ∧ W (i + 1) m' H') ∧
      ∀ x H', J.yld i H x H' → gName j x (wipe σ vs) H' fun σ2 H2 => wipe σ2 vs = wipe σ vs ∧ tYes σ2 H2 fun b H3 => if b = true then tTup (tCons (tVar j) (tCons tv tNil)) σ2 H3 fun y H4 => ∃ acc, H4 D = some (.lst acc) ∧ acc.length < sizeLine ∧ Nx (upd H4 D (.lst (acc ++ [y]))) else Nx H3) := by
  refine lcZ w Z Iv (fun H i y => ∃ t v n, y = .ref t ∧ N[i]? = some n ∧ Z t = false ∧ H t = some (.tup [.str n, v]) ∧ Rel H n v) hD zD hz ?_ (fun i H o h => ivu i H D o (.inr rfl) h) hG h0 ?_ ?_
  · rintro H H' i y acc h e ⟨t, v, n, e1, e2, e3, e4, e5⟩
    exact ⟨t, v, n, e1, e2, e3, e _ _ e4 e3 (ne_of e4 h (fun z => nomatch z)), mono _ _ _ _ _ h e e5⟩
  · rintro i x H' H2 acc Q hi s1 e1 h1 ⟨rfl, hx⟩ q
    obtain ⟨n, hn, rfl⟩ := map_strs_at hx
    refine ⟨hw _, ⟨_, List.getElem?_set_self (by rw [wipe_length]; exact hj), hv i n H2 acc _ hn s1 e1 h1 fun v H4 s4 e4 r4 => ⟨show 2 ≤ sizeLine by decide, fun t ht => ?_⟩⟩⟩
    have zt := nz _ _ _ e4 ht
    refine q _ _ (s4.trans (KpZ.of (same_new ht))) (ivu _ _ _ _ (.inl ht) e4) ⟨t, v, n, rfl, hn, zt, upd_same, ?_⟩
    exact mono H4 _ n v acc (s4.at h1 zD) (KpZ.but (KpZ.of (same_new ht))) r4
  · intro H' ys s1 e1 h1 ly rel
    have ex : ∀ n : Str, ∃ v, n ∈ N → ∃ (i : Nat) (t : Addr), N[i]? = some n ∧ ys[i]? = some (.ref t) ∧ H' t = some (.tup [.str n, v]) ∧ Rel H' n v := fun n => by
      by_cases hn : n ∈ N
      · obtain ⟨i, hi, ei⟩ := List.mem_iff_getElem.mp hn
        have hNi : N[i]? = some n := by rw [← ei]; exact List.getElem?_eq_getElem hi
        obtain ⟨t, v, m, q1, q2, q3, q4, q5⟩ := rel i _ (List.getElem?_eq_getElem (by omega))
        rw [hNi] at q2
        cases q2
        exact ⟨v, fun _ => ⟨i, t, hNi, by rw [List.getElem?_eq_getElem (by omega), q1], q4, q5⟩⟩
      · exact ⟨.non, fun h => absurd h hn⟩
    obtain ⟨f, hf⟩ := Classical.axiomOfChoice ex
    refine k H' (ys.map unR) f s1 e1 ?_ ?_ fun n hn => ?_
    · rw [h1, List.map_map]
      refine congrArg (fun z => some (HO.lst z)) ((List.map_id _).symm.trans (List.map_congr_left fun y hy => ?_))
      obtain ⟨i, hi, ei⟩ := List.mem_iff_getElem.mp hy
      obtain ⟨t, v, m, q1, _⟩ := rel i y (by rw [← ei]; exact List.getElem?_eq_getElem hi)
      rw [q1]
      rfl
    · refine paired_of (by rw [List.length_map, dOf_len, ly]) fun i p kv hp hkv => ?_
      rw [List.getElem?_map] at hp
      unfold dOf at hkv
      rw [List.getElem?_map] at hkv
      obtain ⟨y, hy, ey⟩ := Option.map_eq_some_iff.mp hp
      obtain ⟨n, hn, en⟩ := Option.map_eq_some_iff.mp hkv
      subst en
      obtain ⟨t, v, m, q1, q2, q3, q4, q5⟩ := rel i y hy
      rw [hn] at q2
      cases q2
      obtain ⟨i2, t2, g1, g2, g3, g4⟩ := hf n (List.mem_of_getElem? hn)
      have : i2 = i := (List.getElem?_inj (l := N) (List.getElem?_eq_some_iff.mp g1).1 nd).mp (g1.trans hn.symm)
      subst this
      rw [hy, q1] at g2
      cases g2
      rw [← ey, q1]
      exact g3
    · obtain ⟨_, _, _, _, _, g4⟩ := hf n hn
      exact g4
end
theorem walk_listN {K : PySem.W.Frag} {a : Addr} {N : List Str} : Walk (Itl K a) N.length (fun H => SqL K H a (N.map V.str)) (YAt (N.map V.str)) := by
  have w := walk_list (K := K) (a := a) (xs := N.map V.str)
  rw [List.length_map] at w
  exact w
section
variable {J : It} {G : Hp → Prop} {H1 : Hp} {D : Addr} {Qd : Hp → Prop} {σ : L2.St} {vs : List Nat} {j : Nat} {tv : TE}
/-- [(n, x) for n in B], x a constant; B may hold a name twice -/
theorem lcPairC {B : List Str} {x : V} (w : Walk J B.length G (YAt (B.map V.str))) (hD : H1 D = none) (hz : B.length ≤ 100000) (hG : ∀ H', Same H1 H' → G H') (hw : ∀ x, wipe ((wipe σ vs).set j (some x)) vs = wipe σ vs) (hj : j < σ.length)
    (hv : ∀ (n : Str) (H' : Hp) (Q : VK), Q x H' → tv ((wipe σ vs).set j (some (.str n))) H' Q)
    (k : ∀ (H' : Hp) (ps : List Addr), Same H1 H' → H' D = some (.lst (ps.map V.ref)) → Paired (fun p (kv : Key × V) => H' p = some (.tup [kV kv.1, kv.2])) ps (B.map fun n => (Sum.inr n, x)) → Qd H') :
    ∃ W : Nat → Nat → Hp → Prop, (∃ m, W 0 m (upd H1 D (.lst []))) ∧ ∀ i m H, W i m H → (J.stop i H ∧ Qd H) ∨ (J.go i H ∧ ∃ Nx : Hp → Prop, (∀ H', Nx H' → ∃ m', m' < m ∧ W (i + 1) m' H') ∧
      ∀ x H', J.yld i H x H' → gName j x (wipe σ vs) H' fun σ2 H2 => wipe σ2 vs = wipe σ vs ∧ tYes σ2 H2 fun b H3 => if b = true then tTup (tCons (tVar j) (tCons tv tNil)) σ2 H3 fun y H4 => ∃ acc, H4 D = some (.lst acc) ∧ acc.length < sizeLine ∧ Nx (upd H4 D (.lst (acc ++ [y]))) else Nx H3) := by
  refine lcZ w noZ (fun _ _ => True) (fun H i y => ∃ t n, y = .ref t ∧ B[i]? = some n ∧ H t = some (.tup [.str n, x])) hD rfl hz ?_ (fun _ _ _ _ => trivial) (fun H' e => hG H' e) trivial ?_ ?_
  · rintro H H' i y acc h e ⟨t, n, e1, e2, e4⟩
    exact ⟨t, n, e1, e2, e _ _ e4 rfl (ne_of e4 h (fun z => nomatch z))⟩
  · rintro i y H' H2 acc Q hi s1 e1 h1 ⟨rfl, hx⟩ q
    obtain ⟨n, hn, rfl⟩ := map_strs_at hx
    refine ⟨hw _, ⟨_, List.getElem?_set_self (by rw [wipe_length]; exact hj), hv n H2 _ ⟨show 2 ≤ sizeLine by decide, fun t ht => ?_⟩⟩⟩
    exact q _ _ (KpZ.of (same_new ht)) trivial ⟨t, n, rfl, hn, upd_same⟩
  · intro H' ys s1 e1 h1 ly rel
    refine k H' (ys.map unR) s1 ?_ ?_
    · rw [h1, List.map_map]
      refine congrArg (fun z => some (HO.lst z)) ((List.map_id _).symm.trans (List.map_congr_left fun y hy => ?_))
      obtain ⟨i, hi, ei⟩ := List.mem_iff_getElem.mp hy
      obtain ⟨t, m, q1, _⟩ := rel i y (by rw [← ei]; exact List.getElem?_eq_getElem hi)
      rw [q1]
      rfl
    · refine paired_of (by rw [List.length_map, List.length_map, ly]) fun i p kv hp hkv => ?_
      rw [List.getElem?_map] at hp hkv
      obtain ⟨y, hy, ey⟩ := Option.map_eq_some_iff.mp hp
      obtain ⟨n, hn, en⟩ := Option.map_eq_some_iff.mp hkv
      subst en
      obtain ⟨t, m, q1, q2, q4⟩ := rel i y hy
      rw [hn] at q2
      cases q2
      rw [← ey, q1]
      exact q4
end
end K80
namespace K80
open PySem PySem.Spec PyProof.Rows L2
theorem tu_of {A : Around} {k : Nat} (hr : Room k A) : A.units + 2 < cLine := by
  have := hr.un
  omega
theorem paired_mem {α β : Type} {F G : α → β → Prop} : ∀ {xs : List α} {ys : List β}, (∀ a ∈ xs, ∀ b, F a b → G a b) → Paired F xs ys → Paired G xs ys
  | _, _, _, .nil => .nil
  | _, _, h, .cons r t => .cons (h _ List.mem_cons_self _ r) (paired_mem (fun a ha b z => h a (List.mem_cons_of_mem _ ha) b z) t)
def spFParts : Sp := fun vs H Q _ => ∃ (p a : Addr) (N : List Str) (R L : List Rd2) (rs : List Addr), vs = [.ref p, .ref a] ∧ SomeAt H p N R ∧ N.Nodup ∧ 1 ≤ N.length ∧ N.length ≤ 1000 ∧ R.length ≤ 1000 ∧ L.length ≤ 1000 ∧
  H a = some (.lst (rs.map V.ref)) ∧ PairsAt H rs L ∧ L.Nodup ∧ R.Nodup ∧ (∀ ab ∈ R, ab ∈ L) ∧ (∀ ab ∈ L, ab.1 ∈ N ∧ ab.2 ∈ N) ∧ ∀ H' D, Same H H' → H D = none → PartsAt H' D R (partFn N sing L) → Q (.ref D) H'
section
variable {P : Program} {w : World} {K : PySem.W.Frag} {mg : Str → Option Value} {base : Heap}
theorem ok_f_parts (T : Txt K mg) : FnOk P w K mg base CX0 1 T.law_f_parts.f T.law_f_parts.fd ["_law_some", "_law_evening"] spFParts := by
  refine T.law_f_parts.F.ok sc_law_f_parts (fun vs H Q E h => ?_) (fun cdv A outer s H vs Q E hr h => ?_)
  · obtain ⟨v, a, N, R, L, rs, rfl, _⟩ := h
    rfl
  · obtain ⟨v, a, N, R, L, rs, rfl, hA, nd, n1, nz, rz, lz, ha, hL, ndL, ndR, sub, ends, k⟩ := h
    -- slots: 0 _law_some, 1 _law_evening, 2 _law_lots, 3 _law_found*, 4 _law_one, 5 _law_other, 6 _law_both*, 7 _law_part, 8 _law_name, 9 _law_road
    refine ⟨_, (pss_cons (ps_asg (pe_tup (pa_cons (pe_callTy (call_dictP rfl) (by rfl) T.n_dict (by decide +kernel) (pa_cons (pe_lc (own := [("_law_name", 8)]) (g := gName 8) (tt := tYes) rfl sc_law_f_parts.nd (pi_list (pe_ix ix_tup (pv 0) pe_int (fun _ _ => rfl))) (blkOk_by (N := N_law_f_parts) (own := [("_law_name", 8)]) (sc := defScope s_law_f_parts) (by decide +kernel)) (fun _ _ _ _ _ => (pg_name (i := 8) sc_law_f_parts.nd rfl (Or.inl rfl))) (fun _ _ _ _ _ => pts_nil) (fun _ _ _ _ _ => (pe_tup (pa_cons (pv 8) (pa_cons (pe_lst (pa_cons (pv 8) pa_nil)) pa_nil))))) pa_nil)) (pa_cons pe_dnewT pa_nil))) (pg_tup rfl (pgs_cons (pg_name (i := 2) sc_law_f_parts.nd rfl (Or.inl rfl)) (pgs_cons (pg_name (i := 3) sc_law_f_parts.nd rfl (Or.inr rfl)) pgs_nil))))
    (pss_cons (ps_for PassesOwn.never rfl (pi_list (pv 1)) (pg_tup rfl (pgs_cons (pg_name (i := 4) sc_law_f_parts.nd rfl (Or.inl rfl)) (pgs_cons (pg_name (i := 5) sc_law_f_parts.nd rfl (Or.inl rfl)) pgs_nil)))
      (pss_cons (ps_set (i := 6) sc_law_f_parts.nd rfl (Or.inr rfl) (pe_callTy (call_dictP rfl) (by rfl) T.n_dict (by decide +kernel) (pa_cons (pe_lc (own := [("_law_name", 8)]) (g := gName 8) (tt := tYes) rfl sc_law_f_parts.nd (pi_list (pe_op op_cat (pe_dget (hu_of hr) (pv 2) (pv 4) (fun _ _ => rfl)) (pe_dget (hu_of hr) (pv 2) (pv 5) (fun _ _ => rfl)))) (blkOk_by (N := N_law_f_parts) (own := [("_law_name", 8)]) (sc := defScope s_law_f_parts) (by decide +kernel)) (fun _ _ _ _ _ => (pg_name (i := 8) sc_law_f_parts.nd rfl (Or.inl rfl))) (fun _ _ _ _ _ => pts_nil) (fun _ _ _ _ _ => (pe_tup (pa_cons (pv 8) (pa_cons pe_bl pa_nil))))) pa_nil)))
    (pss_cons (ps_setLc (i := 7) (own := [("_law_name", 8)]) (g := gName 8) rfl sc_law_f_parts.nd rfl rfl (sw_true rfl rfl rfl (by decide +kernel)) (pi_list (pe_ix ix_tup (pv 0) pe_int (fun _ _ => rfl))) (blkOk_by (N := N_law_f_parts) (own := [("_law_name", 8)]) (sc := defScope s_law_f_parts) (by decide +kernel)) (fun _ _ _ _ _ => (pg_name (i := 8) sc_law_f_parts.nd rfl (Or.inl rfl))) (fun _ _ _ _ _ => (pts_one (pt_cmp (pc_din (hu_of hr) (pv 8) (pv 6)) rfl))) (fun _ _ _ _ _ => (pv 8)))
    (pss_cons (ps_for PassesOwn.never rfl (pi_list (pv 7)) (pg_name (i := 8) sc_law_f_parts.nd rfl (Or.inl rfl))
      (pss_one (ps_dput (hu_of hr) (pv 2) (pv 8) (pv 7) rfl)))
    (pss_one (ps_dput (hu_of hr) (pv 3) (pe_tup (pa_cons (pv 4) (pa_cons (pv 5) pa_nil))) (pv 7) rfl))))))
    (pss_one (ps_ret (pe_callTy (call_dictT rfl (tu_of hr)) (by rfl) T.n_dict (by decide +kernel) (pa_cons (pe_lc (own := [("_law_road", 9)]) (g := gName 9) rfl sc_law_f_parts.nd (pi_list (pe_ix ix_tup (pv 0) pe_int (fun _ _ => rfl))) (blkOk_by (N := N_law_f_parts) (own := [("_law_road", 9)]) (sc := defScope s_law_f_parts) (by decide +kernel)) (fun _ _ _ _ _ => (pg_name (i := 9) sc_law_f_parts.nd rfl (Or.inl rfl))) (fun _ _ _ _ _ => (pts_one (pt_cmp (pc_din (hu_of hr) (pv 9) (pv 3)) rfl))) (fun _ _ _ _ _ => (pe_tup (pa_cons (pv 9) (pa_cons (pe_callTy (call_list_ofK (K := K) rfl) (by rfl) T.n_list (by decide +kernel) (pa_cons (pe_dget (hu_of hr) (pv 3) (pv 9) (fun _ _ => rfl)) pa_nil)) pa_nil))))) pa_nil)))))), ?_⟩
    obtain ⟨an, ao, ad, rs0, hs0, v1, v3, v7, v8, _⟩ := hA.ex
    have lrs : rs.length = L.length := Paired.length hL
    have at0 : ∀ {x y z : V}, atI [x, y, z] 0 = some x := fun {x y z} => atI_nat (j := 0) rfl
    have at1 : ∀ {x y z : V}, atI [x, y, z] 1 = some y := fun {x y z} => atI_nat (j := 1) rfl
    refine ⟨_, rfl, v, _, _, _, rfl, rfl, SqT.of v1, at0, an, rfl, ⟨_, SqL.of v3⟩, fun D0 hD0 => ?_⟩
    refine lcPair walk_listN nd noZ (fun _ _ => True) (fun H' n u => ∃ l, u = .ref l ∧ l ≠ D0 ∧ H' l = some (.lst [.str n])) hD0 rfl (by omega) (fun H1 H2 n u acc e1 e2 r => ?_) (fun _ _ _ _ _ _ => trivial) (fun H' e => SqL.of (e.at v3 rfl)) trivial (fun _ _ _ _ _ => rfl) (fun _ => rfl) (by exact (by decide : 8 < 10)) (fun i n H' acc Q2 hn e _ hacc q => ?_) fun H0 ps g s0 _ e0 p0 r0 => ?_
    · obtain ⟨l, rfl, ne, h⟩ := r
      exact ⟨l, rfl, ne, e2 _ _ h rfl ne⟩
    · exact ⟨_, List.getElem?_set_self (by exact (by decide : 8 < 10)), ⟨show 1 ≤ sizeLine by decide, fun l hl => q _ _ (KpZ.of (same_new hl)) trivial ⟨l, rfl, Ne.symm (ne_of_none hacc hl), upd_same⟩⟩⟩
    have s0' : Same H H0 := s0
    refine ⟨D0, ps, _, rfl, SqL.of e0, paired_same (fun _ _ z => SqT.of z) p0, fun dd hdd => ?_⟩
    rw [merge_dOf nd]
    have s1 : Same H (upd H0 dd (.dK (dOf N g))) := s0'.trans (same_new hdd)
    have t1 : Same H0 (upd H0 dd (.dK (dOf N g))) := same_new hdd
    have e1 : upd H0 dd (.dK (dOf N g)) dd = some (.dK (dOf N g)) := upd_same
    have hdd0 : H dd = none := s0'.free hdd
    generalize upd H0 dd (.dK (dOf N g)) = H1 at s1 t1 e1 ⊢
    have r1 : ∀ n ∈ N, ∃ l, g n = .ref l ∧ H1 l = some (.lst [.str n]) := fun n hn => by
      obtain ⟨l, q1, _, q2⟩ := r0 n hn
      exact ⟨l, q1, t1 _ _ q2⟩
    refine fun fd hfd => ⟨(show 2 ≤ sizeLine by decide), fun t ht => ⟨t, _, rfl, SqT.of upd_same, rfl, _, _, rfl, _, _, rfl, rfl, ?_⟩⟩
    have dfd : dd ≠ fd := ne_of_none e1 hfd
    have s2 : Same H (upd (upd H1 fd (.dT [])) t (.tup [.ref dd, .ref fd])) := (s1.trans (same_new hfd)).trans (same_new ht)
    have m2 : Same H1 (upd (upd H1 fd (.dT [])) t (.tup [.ref dd, .ref fd])) := (same_new hfd).trans (same_new ht)
    have hfd2 : upd (upd H1 fd (.dT [])) t (.tup [.ref dd, .ref fd]) fd = some (.dT []) := by
      rw [upd_ne (ne_of_none upd_same ht), upd_same]
    have hfd0 : H fd = none := s1.free hfd
    generalize upd (upd H1 fd (.dT [])) t (.tup [.ref dd, .ref fd]) = H2 at s2 m2 hfd2
    refine ⟨_, rfl, a, rfl, ⟨_, SqL.of (s2 _ _ ha)⟩, ?_⟩
    refine for_it (walk_list (xs := rs.map V.ref)) (fun i σ H' => Same H H' ∧ ∃ (o4 o5 o6 o7 o8 : Option V) (l : Str → Addr) (fkv : List (List Key × V)), σ = [some (.ref v), some (.ref a), some (.ref dd), some (.ref fd), o4, o5, o6, o7, o8, none] ∧
      H' dd = some (.dK (dOf N fun n => .ref (l n))) ∧ (∀ n ∈ N, H' (l n) = some (.lst ((lotsAll N sing (L.take i) n).map V.str))) ∧ H' fd = some (.dT fkv) ∧ Built fkv ((L.map keyR).take i) ∧
      ∀ j ab, j < i → L[j]? = some ab → ∃ p, valV fkv (keyR ab) = some (.ref p) ∧ H' p = some (.lst ((partStep N (lotsAll N sing (L.take j)) ab).map V.str))) ?_ (fun i σ H' _ p => SqL.of (p.1 _ _ ha)) ?_ ?_
    · obtain ⟨l, hl⟩ : ∃ l : Str → Addr, ∀ n ∈ N, g n = .ref (l n) ∧ H1 (l n) = some (.lst [.str n]) := by
        refine ⟨fun n => if h : n ∈ N then Classical.choose (r1 n h) else 0, fun n hn => ?_⟩
        dsimp only
        rw [dif_pos hn]
        exact Classical.choose_spec (r1 n hn)
      refine ⟨s2, none, none, none, none, none, l, [], rfl, ?_, fun n hn => ?_, hfd2, Built.nil, fun j ab hj => absurd hj (Nat.not_lt_zero _)⟩
      · rw [m2 _ _ e1, dOf_congr fun n hn => (hl n hn).1]
      · exact m2 _ _ (hl n hn).2
    · rintro i x σ H' H3 hi ⟨s4, o4, o5, o6, o7, o8, l, fkv, rfl, hd, hl, hf, bu, old⟩ ⟨rfl, hx⟩
      obtain ⟨u0, hu0, rfl⟩ := map_at hx
      have hiL : i < L.length := lrs ▸ (List.getElem?_eq_some_iff.mp hu0).1
      obtain ⟨⟨a0, b0⟩, hab⟩ : ∃ ab, L[i]? = some ab := ⟨_, List.getElem?_eq_getElem hiL⟩
      obtain ⟨ma, mb⟩ : a0 ∈ N ∧ b0 ∈ N := ends _ (List.mem_of_getElem? hab)
      have hu := s4 _ _ (paired_at hL hu0 hab)
      have la : (lotsAll N sing (L.take i) a0).length ≤ N.length := lots_len n1 fun _ => n1
      have lb : (lotsAll N sing (L.take i) b0).length ≤ N.length := lots_len n1 fun _ => n1
      refine ⟨u0, _, rfl, SqT.of hu, rfl, _, _, rfl, _, _, rfl, rfl, ?_⟩
      -- both
      refine ⟨_, rfl, _, rfl, dd, _, rfl, dget_dOf hd ma, _, rfl, _, rfl, dd, _, rfl, dget_dOf hd mb, l a0, l b0, _, _, rfl, rfl, hl _ ma, hl _ mb, ?_, fun q hq => ?_⟩
      · rw [List.length_map, List.length_map]
        exact Nat.le_trans (show _ ≤ 2000 by omega) (by decide)
      obtain ⟨both, hboth⟩ : ∃ both : List Str, both = lotsAll N sing (L.take i) a0 ++ lotsAll N sing (L.take i) b0 := ⟨_, rfl⟩
      rw [← List.map_append, ← hboth]
      have lbo : both.length ≤ 2000 := by rw [hboth, List.length_append]; omega
      refine ⟨q, rfl, ⟨_, SqL.of upd_same⟩, fun D hD => ?_⟩
      have s5 : Same H (upd H3 q (.lst (both.map V.str))) := s4.trans (same_new hq)
      have t5 : Same H3 (upd H3 q (.lst (both.map V.str))) := same_new hq
      have hq5 : upd H3 q (.lst (both.map V.str)) q = some (.lst (both.map V.str)) := upd_same
      generalize upd H3 q (.lst (both.map V.str)) = H5 at hD s5 t5 hq5 ⊢
      refine lcPairC (B := both) (x := .bl true) walk_listN hD (by omega) (fun H' e => SqL.of (e _ _ hq5)) (fun _ => rfl) (by exact (by decide : 8 < 10)) (fun _ _ _ q => q) fun H6' ps6 s6' d6 p6 => ?_
      refine ⟨D, ps6, _, rfl, SqL.of d6, paired_same (fun _ _ z => SqT.of z) p6, fun D6 hD6 => ?_⟩
      obtain ⟨bkv, hbkv⟩ : ∃ bkv : List (Key × V), bkv = mergeK [] (both.map fun n => ((Sum.inr n : Key), V.bl true)) := ⟨_, rfl⟩
      have bu6 : Built bkv (both.map (Sum.inr : Str → Key)) := by
        have q6 := built_merge (kvs := both.map fun n => ((Sum.inr n : Key), V.bl true))
        rw [← hbkv, List.map_map] at q6
        exact q6
      rw [← hbkv]
      have s6 : Same H5 (upd H6' D6 (.dK bkv)) := s6'.trans (same_new hD6)
      have e6 : upd H6' D6 (.dK bkv) D6 = some (.dK bkv) := upd_same
      generalize upd H6' D6 (.dK bkv) = H6 at s6 e6 ⊢
      have s7 : Same H H6 := s5.trans s6
      have t7 : Same H3 H6 := t5.trans s6
      -- part
      refine ⟨_, rfl, v, _, _, _, rfl, rfl, SqT.of (s7 _ _ v1), at0, an, rfl, ⟨_, SqL.of (s7 _ _ v3)⟩, fun D2 hD2 => ?_⟩
      refine lcP (xs := N.map V.str) walk_list (fun x => match x with | .str n => decide (n ∈ both) | _ => false) (fun x => x) hD2 (by rw [List.length_map]; omega) (fun H7 e7 => SqL.of (e7 _ _ (s7 _ _ v3))) (fun _ => rfl) (fun x H7 Q7 hm e7 q7 => ?_) (fun x H7 Q7 hm _ e7 q7 => ⟨_, rfl, q7 _ (Same.refl _)⟩) fun H7 e7 h7 => ?_
      · obtain ⟨n, hn, rfl⟩ := List.mem_map.mp hm
        refine ⟨_, rfl, _, rfl, D6, _, rfl, .inl ⟨bkv, Sum.inr n, .inl (e7 _ _ e6), rfl, rfl⟩, _, rfl, ?_⟩
        have e8 : (valV bkv (Sum.inr n)).isSome = decide (n ∈ both) := by
          rw [bu6.mem]
          refine decide_eq_decide.mpr ⟨fun z => ?_, fun z => List.mem_map_of_mem z⟩
          obtain ⟨m, hm2, e⟩ := List.mem_map.mp z
          exact Sum.inr.inj e ▸ hm2
        rw [e8]
        exact q7 _ (Same.refl _)
      have hpart : H7 D2 = some (.lst ((partStep N (lotsAll N sing (L.take i)) (a0, b0)).map V.str)) := by
        rw [h7, List.map_id', List.filter_map, hboth]
        rfl
      obtain ⟨part, hpt⟩ : ∃ part, part = partStep N (lotsAll N sing (L.take i)) (a0, b0) := ⟨_, rfl⟩
      rw [← hpt] at hpart
      have s8 : Same H H7 := s7.trans e7
      have t8 : Same H3 H7 := t7.trans e7
      have fnew : valV fkv (keyR (a0, b0)) = none := bu.no (not_in_take_of (nodup_keyR ndL) (by rw [List.getElem?_map, hab] <;> rfl))
      have flen : fkv.length ≤ 1000 := by
        have := bu.le
        rw [List.length_take, List.length_map] at this
        omega
      have hf7 : H7 fd = some (.dT fkv) := t8 _ _ hf
      have hd7 : H7 dd = some (.dK (dOf N fun n => .ref (l n))) := t8 _ _ hd
      have psub : ∀ n ∈ part, n ∈ N := fun n hn => by
        rw [hpt] at hn
        exact partStep_sub hn
      -- lots[name] = part
      refine ⟨_, rfl, D2, rfl, ⟨_, SqL.of hpart⟩, ?_⟩
      refine for_it (walk_list (xs := part.map V.str)) (fun k σ Hk => Same H Hk ∧ KpB noZ dd H7 Hk ∧ (∃ o8, σ = [some (.ref v), some (.ref a), some (.ref dd), some (.ref fd), some (.str a0), some (.str b0), some (.ref D6), some (.ref D2), o8, none]) ∧
        Hk dd = some (.dK (dOf N fun n => .ref (if n ∈ part.take k then D2 else l n)))) ?_ (fun k σ Hk _ p => SqL.of (p.2.1 _ _ hpart rfl (ne_of hpart hd7 (fun z => nomatch z)))) ?_ ?_
      · refine ⟨s8, fun _ _ e _ _ => e, ⟨_, rfl⟩, ?_⟩
        rw [hd7]
        refine congrArg (fun z => some (HO.dK z)) (dOf_congr fun n _ => ?_)
        rw [if_neg (fun z => by cases z)]
      · rintro k' x σ Hk Hk2 hk ⟨sk, bk, ⟨o8', rfl⟩, dk⟩ ⟨rfl, hx2⟩
        obtain ⟨n, hn, rfl⟩ := map_strs_at hx2
        have nN : n ∈ N := psub n (List.mem_of_getElem? hn)
        refine ⟨_, rfl, _, rfl, _, rfl, dd, _, rfl, .inl ⟨_, Sum.inr n, dk, rfl, by rw [dOf_len]; exact Nat.lt_of_le_of_lt nz (by decide), rfl⟩, same_mut sk hdd0, KpB.upd bk, ⟨_, rfl⟩, ?_⟩
        rw [upd_same, put_dOf nN]
        refine congrArg (fun z => some (HO.dK z)) (dOf_congr fun m _ => ?_)
        rw [take_snoc hn]
        by_cases e : m = n
        · rw [if_pos e, if_pos (List.mem_append_right _ (List.mem_singleton.mpr e))]
        · rw [if_neg e]
          refine congrArg V.ref ?_
          by_cases e2 : m ∈ part.take k'
          · rw [if_pos e2, if_pos (List.mem_append_left _ e2)]
          · rw [if_neg e2, if_neg]
            intro z
            rcases List.mem_append.mp z with z | z
            · exact e2 z
            · exact e (List.mem_singleton.mp z)
      · rintro σ Hk ⟨sk, bk, ⟨o8', rfl⟩, dk⟩
        rw [List.length_map, List.take_length] at dk
        have fk : Hk fd = some (.dT fkv) := bk _ _ hf7 rfl (Ne.symm dfd)
        have lk0 : ∀ b xs, H7 b = some (.lst xs) → Hk b = some (.lst xs) := fun b xs e => bk _ _ e rfl (ne_of e hd7 (fun z => nomatch z))
        -- found[one, other] = part
        refine ⟨_, rfl, _, rfl, _, rfl, _, rfl, ⟨show 2 ≤ sizeLine by decide, fun t2 ht2 => ⟨fd, _, rfl, .inr ⟨fkv, keyR (a0, b0), t2, ?_, rfl, upd_same, Nat.lt_of_le_of_lt flen (by decide), rfl⟩, ?_⟩⟩⟩
        · rw [upd_ne (ne_of_none fk ht2)]
          exact fk
        have s9 : Same H (upd (upd Hk t2 (.tup [.str a0, .str b0])) fd (.dT (putK fkv (keyR (a0, b0)) (.ref D2)))) := same_mut (sk.trans (same_new ht2)) hfd0
        have b9 : KpB noZ fd Hk (upd (upd Hk t2 (.tup [.str a0, .str b0])) fd (.dT (putK fkv (keyR (a0, b0)) (.ref D2)))) := KpB.upd (Same.kb (same_new ht2))
        have f9 : upd (upd Hk t2 (.tup [.str a0, .str b0])) fd (.dT (putK fkv (keyR (a0, b0)) (.ref D2))) fd = some (.dT (putK fkv (keyR (a0, b0)) (.ref D2))) := upd_same
        generalize upd (upd Hk t2 (.tup [.str a0, .str b0])) fd (.dT (putK fkv (keyR (a0, b0)) (.ref D2))) = H9 at s9 b9 f9 ⊢
        have d9 : H9 dd = some (.dK (dOf N fun n => .ref (if n ∈ part then D2 else l n))) := b9 _ _ dk rfl dfd
        have lk : ∀ b xs, H7 b = some (.lst xs) → H9 b = some (.lst xs) := fun b xs e => b9 _ _ (lk0 _ _ e) rfl (ne_of (lk0 _ _ e) fk (fun z => nomatch z))
        refine ⟨s9, _, _, _, _, _, (fun n => if n ∈ part then D2 else l n), _, rfl, d9, fun n hn => ?_, f9, ?_, fun j ab hj hj2 => ?_⟩
        · rw [lotsAll_snoc hab]
          show H9 (if n ∈ part then D2 else l n) = some (.lst (List.map V.str (if n ∈ partStep N (lotsAll N sing (L.take i)) (a0, b0) then partStep N (lotsAll N sing (L.take i)) (a0, b0) else lotsAll N sing (L.take i) n)))
          rw [← hpt]
          by_cases e : n ∈ part
          · rw [if_pos e, if_pos e]
            exact lk _ _ hpart
          · rw [if_neg e, if_neg e]
            exact lk _ _ (t8 _ _ (hl n hn))
        · have hk2 : (L.map keyR)[i]? = some (keyR (a0, b0)) := by rw [List.getElem?_map, hab] <;> rfl
          rw [take_snoc hk2]
          exact bu.put _ _
        · rw [valV_put]
          by_cases e : j = i
          · subst e
            rw [hab] at hj2
            cases hj2
            exact ⟨D2, if_pos rfl, by rw [← hpt]; exact lk _ _ hpart⟩
          · obtain ⟨p, hp1, hp2⟩ := old j ab (by omega) hj2
            refine ⟨p, ?_, lk _ _ (t8 _ _ hp2)⟩
            rw [if_neg, hp1]
            intro z
            have e3 := keyR_inj z
            rw [e3] at hj2
            exact e ((List.getElem?_inj (l := L) (by omega) ndL).mp (hj2.trans hab.symm))
    · rintro σ H3 ⟨s4, o4, o5, o6, o7, o8, l, fkv, rfl, hd, hl, hf, bu, old⟩
      have lr0 : rs0.length = R.length := Paired.length v8
      refine ⟨_, rfl, v, _, _, _, rfl, rfl, SqT.of (s4 _ _ v1), at1, ao, rfl, ⟨_, SqL.of (s4 _ _ v7)⟩, fun D hD => ?_⟩
      refine lc_it (walk_list (xs := rs0.map V.ref)) (fun i H' => Same H3 H' ∧ ∃ (ps ls : List Addr) (kb : List Trip), H' D = some (.lst (ps.map V.ref)) ∧ (∀ l ∈ ls, l ≠ D) ∧ Paired (fun l ab => H' l = some (.lst ((partFn N sing L ab).map V.str))) ls (R.take i) ∧
        Paired (fun p (q : Trip) => H' p = some (.tup [.ref q.2.1, q.2.2]) ∧ H' q.2.1 = some (.tup (q.1.map kV))) ps kb ∧ kb.map (·.1) = (R.take i).map keyR ∧ kb.map (·.2.2) = ls.map V.ref) ⟨same_new hD, [], [], [], upd_same, (fun _ z => by cases z), .nil, .nil, rfl, rfl⟩ (fun i H' _ p => SqL.of (p.1 _ _ (s4 _ _ v7))) ?_ fun H' p => ?_
      · rintro i x H' H4 hi ⟨s5, ps, ls, kb, e5, nD, hp, hk, kf, kl⟩ ⟨rfl, hx⟩
        obtain ⟨r, hr1, rfl⟩ := map_at hx
        have hiR : i < R.length := lr0 ▸ (List.getElem?_eq_some_iff.mp hr1).1
        obtain ⟨ab, hab⟩ : ∃ ab, R[i]? = some ab := ⟨_, List.getElem?_eq_getElem hiR⟩
        have hrt := s5 _ _ (s4 _ _ (paired_at v8 hr1 hab))
        obtain ⟨j, hj, ej⟩ := List.mem_iff_getElem.mp (sub ab (List.mem_of_getElem? hab))
        have hLj : L[j]? = some ab := by rw [← ej]; exact List.getElem?_eq_getElem hj
        obtain ⟨p, hp1, hp2⟩ := old j ab (by rw [List.length_map, lrs]; exact hj) hLj
        rw [← partFn_at ndL hLj] at hp2
        have lps : ps.length ≤ 1000 := by
          have e1 : ps.length = kb.length := Paired.length hk
          have e2 := congrArg List.length kf
          rw [List.length_map, List.length_map, List.length_take] at e2
          omega
        refine ⟨rfl, ⟨_, rfl, _, rfl, fd, _, rfl, .inr ⟨fkv, keyR ab, r, .inl (s5 _ _ hf), rfl, hrt, rfl⟩, _, rfl, ?_⟩⟩
        rw [hp1]
        refine iteT ⟨_, rfl, _, rfl, _, rfl, fd, _, rfl, .inr ⟨fkv, keyR ab, r, .inl (s5 _ _ hf), rfl, hrt, hp1.symm⟩, p, _, rfl, .inl (SqL.of (s5 _ _ hp2)), fun l2 hl2 => ⟨show 2 ≤ sizeLine by decide, fun t ht => ?_⟩⟩
        have dl : D ≠ l2 := ne_of_none e5 hl2
        have dt : D ≠ t := ne_of_none (by rw [upd_ne dl]; exact e5) ht
        have lt : l2 ≠ t := ne_of_none upd_same ht
        have s6 : Same H4 (upd (upd H4 l2 (.lst ((partFn N sing L ab).map V.str))) t (.tup [.ref r, .ref l2])) := (same_new hl2).trans (same_new ht)
        have hl6 : upd (upd H4 l2 (.lst ((partFn N sing L ab).map V.str))) t (.tup [.ref r, .ref l2]) l2 = some (.lst ((partFn N sing L ab).map V.str)) := by rw [upd_ne lt, upd_same]
        have ht6 : upd (upd H4 l2 (.lst ((partFn N sing L ab).map V.str))) t (.tup [.ref r, .ref l2]) t = some (.tup [.ref r, .ref l2]) := upd_same
        generalize upd (upd H4 l2 (.lst ((partFn N sing L ab).map V.str))) t (.tup [.ref r, .ref l2]) = H6 at s6 hl6 ht6 ⊢
        have up : ∀ b o, b ≠ D → H6 b = some o → upd H6 D (.lst (ps.map V.ref ++ [.ref t])) b = some o := fun b o n e => by
          rw [upd_ne n]
          exact e
        refine ⟨_, s6 _ _ e5, by rw [List.length_map]; exact Nat.lt_of_le_of_lt lps (by decide), same_mut (s5.trans s6) hD, ps ++ [t], ls ++ [l2], kb ++ [(keyR ab, r, .ref l2)], ?_, fun m hm => ?_, ?_, ?_, ?_, ?_⟩
        · rw [upd_same, List.map_append]
          rfl
        · rcases List.mem_append.mp hm with hm | hm
          · exact nD m hm
          · rw [List.mem_singleton.mp hm]
            exact Ne.symm dl
        · rw [take_snoc hab]
          refine paired_snoc (F := fun l ab => upd H6 D (.lst (ps.map V.ref ++ [.ref t])) l = some (.lst ((partFn N sing L ab).map V.str))) (up _ _ (Ne.symm dl) hl6) ?_
          refine paired_mem (F := fun l ab => H4 l = some (.lst ((partFn N sing L ab).map V.str))) (fun m hm ab' h => up _ _ (nD m hm) (s6 _ _ h)) hp
        · have kd : ∀ b xs, H4 b = some (.tup xs) → upd H6 D (.lst (ps.map V.ref ++ [.ref t])) b = some (.tup xs) := fun b xs e => up _ _ (ne_of e e5 (fun z => nomatch z)) (s6 _ _ e)
          exact paired_snoc (F := fun p (q : Trip) => upd H6 D (.lst (ps.map V.ref ++ [.ref t])) p = some (.tup [.ref q.2.1, q.2.2]) ∧ upd H6 D (.lst (ps.map V.ref ++ [.ref t])) q.2.1 = some (.tup (q.1.map kV))) (b := (keyR ab, r, V.ref l2)) ⟨up _ _ (Ne.symm dt) ht6, kd _ _ hrt⟩
            (paired_same (F := fun p (q : Trip) => H4 p = some (.tup [.ref q.2.1, q.2.2]) ∧ H4 q.2.1 = some (.tup (q.1.map kV))) (fun m q h => ⟨kd _ _ h.1, kd _ _ h.2⟩) hk)
        · rw [List.map_append, kf, take_snoc hab, List.map_append]
          rfl
        · rw [List.map_append, kl, List.map_append]
          rfl
      · obtain ⟨s5, ps, ls, kb, e5, nD, hp, hk, kf, kl⟩ := p
        rw [show (rs0.map V.ref).length = R.length by rw [List.length_map]; exact lr0, List.take_length] at hp kf
        refine ⟨D, ps, kb, rfl, SqL.of e5, paired_same (fun m q h => ⟨SqT.of h.1, h.2⟩) hk, by rw [kf]; exact nodup_keyR ndR, fun D2 hD2 => ?_⟩
        have s6 : Same H' (upd H' D2 (.dT (kb.map fun q => (q.1, q.2.2)))) := same_new hD2
        refine k _ D2 ((s4.trans s5).trans s6) ((s4.trans s5).free hD2) ⟨_, ls, upd_same, ?_, paired_same (fun _ _ z => s6 _ _ z) hp⟩
        rw [List.map_map]
        exact kl
end
end K80
namespace K80
open PySem PySem.Spec PyProof.Rows L2
theorem pe_revPK {X : Cx} {K : PySem.W.Frag} {e : Expr} {te : TE} {k : Nat} {p1 p2 p3 pos : Pos} (h : X.K = K) (he : PE X e te) : PE X (.Subscript e (.Slice none none (some (.UnaryOp .USub (.Constant (.int 1) k p1) p2)) p3) pos) (tRevP K te) := by
  subst h
  exact pe_revP he
/-- a road, either way round -/
def Flip (p ab : Rd2) : Prop := p = ab ∨ p = (ab.2, ab.1)
def spPassed : Sp := fun vs H Q _ => ∃ (st g e : Addr) (c : Nat) (us : List Addr) (L : List Rd2), vs = [.ref st, .ref e] ∧ Strm H st g c ∧ c + 200 ≤ 1000000 ∧ hid (zst st g) H e = some (.lst (us.map V.ref)) ∧ PairsAt (hid (zst st g) H) us L ∧ L.length ≤ 60 ∧
  ∀ (H' : Hp) (l : Addr) (L2 : List Rd2), KpZ (zst st g) H H' → H l = none → zst st g l = false → Strm H' st g (c + 200) → RoadsIn (hid (zst st g) H') l L2 → Paired Flip L2 L → Q (.ref l) H'
def spHanded : Sp := fun vs H Q _ => ∃ (st g d : Addr) (c : Nat) (N : List Str) (f : Str → V), vs = [.ref st, .ref d] ∧ Strm H st g c ∧ c + 100 ≤ 1000000 ∧ H d = some (.dK (dOf N f)) ∧ N.Nodup ∧ N.length ≤ 60 ∧
  ∀ (H' : Hp) (l : Addr) (N2 : List Str), KpZ (zst st g) H H' → H l = none → zst st g l = false → Strm H' st g (c + 100) → H' l = some (.dK (dOf N2 f)) → N2.Perm N → Q (.ref l) H'
def spLow : Sp := fun vs H Q _ => ∃ a b : Int, vs = [.int a, .int b] ∧ 0 ≤ a ∧ 1 ≤ b ∧ b.natAbs < 2 ^ 9000 ∧ ∀ p, H p = none → Q (.ref p) (upd H p (.tup (lowV a b)))
def spHeaps : Sp := fun vs H Q _ => ∃ (st g a : Addr) (c : Nat) (N : List Str), vs = [.ref st, .ref a] ∧ Strm H st g c ∧ c + 100 ≤ 1000000 ∧ H a = some (.lst (N.map V.str)) ∧ zst st g a = false ∧ N.Nodup ∧ N.length ≤ 60 ∧
  ∀ (H' : Hp) (d : Addr) (h : Str → Int), KpZ (zst st g) H H' → H d = none → zst st g d = false → Strm H' st g (c + 100) → H' d = some (.dK (dOf N fun n => .int (h n))) → (∀ n ∈ N, 0 ≤ h n ∧ h n ≤ 10 ^ 15) → Q (.ref d) H'
section
variable {P : Program} {w : World} {K : PySem.W.Frag} {mg : Str → Option Value} {base : Heap}
theorem ok_f_low (T : Txt K mg) : FnOk P w K mg base CX0 1 T.law_f_low.f T.law_f_low.fd ["_law_top", "_law_bottom"] spLow := by
  refine T.law_f_low.F.ok sc_law_f_low (fun vs H Q E h => ?_) (fun cdv A outer s H vs Q E hr h => ?_)
  · obtain ⟨a, b, rfl, _⟩ := h
    rfl
  · obtain ⟨a, b, rfl, ha, hb, hs, k⟩ := h
    -- slots: 0 _law_top, 1 _law_bottom, 2 _law_one, 3 _law_other
    refine ⟨_, (pss_cons (ps_par (i := 2) (j := 3) (by rfl) sc_law_f_low.nd rfl rfl (by decide) rfl rfl (pa_cons (pv 1) (pa_cons (pv 0) pa_nil)) (by rfl))
    (pss_cons (ps_while PassesOwn.never (pt_cmpR op_gt (pv 3) pe_int (nomark _)) (pss_one (ps_par (i := 2) (j := 3) (by rfl) sc_law_f_low.nd rfl rfl (by decide) rfl rfl (pa_cons (pv 3) (pa_cons (pe_op op_mod (pe_callTy call_int1 (by rfl) T.n_int (by decide +kernel) (pa_cons (pv 2) pa_nil)) (pv 3)) pa_nil)) (by rfl))))
    (pss_one (ps_ret (pe_tup (pa_cons (pe_op op_fdivW (pv 0) (pv 2)) (pa_cons (pe_op op_fdivW (pv 1) (pv 2)) pa_nil))))))), ?_⟩
    refine ⟨_, rfl, _, rfl, _, _, rfl, ?_⟩
    refine ⟨fun m σ H' => H' = H ∧ ∃ x y : Nat, σ = [some (.int a), some (.int b), some (.int (x : Nat)), some (.int (y : Nat))] ∧ m = y ∧ 1 ≤ x ∧ Nat.gcd x y = Nat.gcd a.natAbs b.natAbs, ⟨a.natAbs, rfl, b.natAbs, a.natAbs, ?_, rfl, by omega, Nat.gcd_comm _ _⟩, ?_⟩
    · show [some (V.int a), some (.int b), some (.int b), some (.int a)] = _
      rw [show ((b.natAbs : Nat) : Int) = b by omega, show ((a.natAbs : Nat) : Int) = a by omega]
    rintro m σ H' ⟨rfl, x, y, rfl, rfl, hx, hg⟩
    refine ⟨_, rfl, _, _, rfl, rfl, _, rfl, ite2 (fun c => ?_) fun c => ?_⟩
    · have y0 : 0 < m := by
        have := of_decide_eq_true c
        omega
      refine ⟨fun σ' H2 => ∃ x2 y2 : Nat, H2 = H' ∧ y2 < m ∧ σ' = [some (.int a), some (.int b), some (.int (x2 : Nat)), some (.int (y2 : Nat))] ∧ 1 ≤ x2 ∧ Nat.gcd x2 y2 = Nat.gcd a.natAbs b.natAbs, ?_, ?_⟩
      · rintro σ' H2 ⟨x2, y2, rfl, lt, rfl, h1, h2⟩
        exact ⟨y2, lt, rfl, x2, y2, rfl, rfl, h1, h2⟩
      · refine ⟨_, rfl, _, rfl, .inl ⟨_, rfl, _, rfl, _, _, rfl, rfl, show (0 : Int) < (m : Nat) by omega, _, _, rfl, ?_⟩⟩
        refine ⟨m, x % m, rfl, Nat.mod_lt _ y0, ?_, y0, ?_⟩
        · show [some (V.int a), some (.int b), some (.int (m : Nat)), some (.int ((x : Nat) % (m : Nat) : Int))] = _
          rw [← Int.natCast_emod]
        · rw [Nat.gcd_comm, ← hg, Nat.gcd_comm x m]
          exact (Nat.gcd_rec m x).symm
    · have y0 : m = 0 := by
        have : ¬ ((m : Nat) : Int) > 0 := fun z => c (decide_eq_true z)
        omega
      subst y0
      rw [Nat.gcd_zero_right] at hg
      subst hg
      have gb : Nat.gcd a.natAbs b.natAbs ≤ b.natAbs := Nat.gcd_le_right _ (by omega)
      have lg : (((Nat.gcd a.natAbs b.natAbs : Nat) : Int)).natAbs.log2 < 9000 := PySem.Flt.log2_lt_of (k := 9000) (by decide) (by rw [Int.natAbs_natCast]; exact Nat.lt_of_le_of_lt gb hs)
      have pos : (0 : Int) < ((Nat.gcd a.natAbs b.natAbs : Nat) : Int) := by omega
      exact ⟨_, rfl, _, rfl, _, _, rfl, rfl, ⟨pos, lg⟩, _, rfl, _, rfl, _, _, rfl, rfl, ⟨pos, lg⟩, show 2 ≤ sizeLine by decide, fun p hp => k p hp⟩
theorem ok_f_passed (T : Txt K mg) : FnOk P w K mg base CX0 5 T.law_f_passed.f T.law_f_passed.fd ["_law_stream", "_law_evening"] spPassed := by
  have G_law_draw : FnOk P w K mg base CX0 1 T.law_draw.f T.law_draw.fd ["_law_stream", "_law_many"] spDraw := ok_draw T
  have G_loose2 : FnOk P w K mg base CX0 4 T.law_loose.f T.law_loose.fd ["_law_stream", "_law_thing"] spLoose2 := ok_loose2 T
  refine T.law_f_passed.F.ok sc_law_f_passed (fun vs H Q E h => ?_) (fun cdv A outer s H vs Q E hr h => ?_)
  · obtain ⟨st, g, e, c, us, L, rfl, _⟩ := h
    rfl
  · obtain ⟨st, g, e, c, us, L, rfl, hS, hc, he, hP, hz, k⟩ := h
    -- slots: 0 _law_stream*, 1 _law_evening, 2 _law_road
    refine ⟨_, (pss_one (ps_ret (pe_call G_loose2 (hr.mono (by decide)) rfl T.law_loose.mgx T.law_loose.F.kp T.law_loose.b .nil pass0 (pa_cons (pv 0) (pa_cons (pe_lc (own := [("_law_road", 2)]) (g := gName 2) (tt := tYes) rfl sc_law_f_passed.nd (pi_list (pv 1)) (blkOk_by (N := N_law_f_passed) (own := [("_law_road", 2)]) (sc := defScope s_law_f_passed) (by decide +kernel)) (fun _ _ _ _ _ => (pg_name (i := 2) sc_law_f_passed.nd rfl (Or.inl rfl))) (fun _ _ _ _ _ => pts_nil) (fun _ _ _ _ _ => (pe_ifExp (pt_cmpR op_eq (pe_call G_law_draw (hr.mono (by decide)) rfl T.law_draw.mgx T.law_draw.F.kp T.law_draw.b .nil pass0 (pa_cons (pv 0) (pa_cons pe_int pa_nil))) pe_int (nomark _)) (pv 2) (pe_revPK (K := K) rfl (pv 2))))) pa_nil))))), ?_⟩
    have lu : us.length = L.length := Paired.length hP
    refine ⟨_, rfl, _, rfl, e, rfl, ⟨_, SqL.of (hid_some he)⟩, fun D hD => ?_⟩
    have zD := zst_new hS hD
    have nst : D ≠ st := fun z => by rw [z, zst_st] at zD; cases zD
    have ng : D ≠ g := fun z => by rw [z, zst_g] at zD; cases zD
    refine lcZ (walk_list (xs := us.map V.ref)) (zst st g) (fun i H' => Strm H' st g (c + i)) (fun H' i v => ∃ (u : Addr) (p ab : Rd2), v = .ref u ∧ L[i]? = some ab ∧ Flip p ab ∧ zst st g u = false ∧ H' u = some (.tup [.str p.1, .str p.2])) hD zD (by rw [List.length_map]; omega)
      (fun H2 H3 i v acc h2 e r => ?_) (fun _ H' o h => h.up nst ng) (fun H' e2 => SqL.of (hid_some (e2 _ _ he))) hS ?_ ?_
    · obtain ⟨u, p, ab, e1, e2, e3, e4, e5⟩ := r
      exact ⟨u, p, ab, e1, e2, e3, e4, e _ _ e5 e4 (ne_of e5 h2 (fun z => nomatch z))⟩
    · rintro i x H2 H3 acc Q2 hi s2 t2 h2 ⟨rfl, hx⟩ q
      obtain ⟨u, hu, rfl⟩ := map_at hx
      have hiL : i < L.length := lu ▸ (List.getElem?_eq_some_iff.mp hu).1
      obtain ⟨ab, hab⟩ : ∃ ab, L[i]? = some ab := ⟨_, List.getElem?_eq_getElem hiL⟩
      have hu2 := s2 _ _ (paired_at hP hu hab)
      refine ⟨rfl, ⟨_, rfl, ⟨st, g, _, 2, rfl, t2, by omega, by decide, by decide, fun H4 d s4 t4 d0 d1 => ?_⟩⟩⟩
      have hu4 := s4 _ _ hu2
      refine ⟨rfl, decide (d = 0), congrArg V.bl (decide_eq_decide.mpr ⟨fun z => V.int.inj z, fun z => by rw [z]⟩), ite2 (fun _ => ?_) fun _ => ?_⟩
      · exact ⟨_, rfl, q _ _ s4 t4 ⟨u, ab, ab, rfl, hab, .inl rfl, hid_not hu4, hid_some hu4⟩⟩
      · refine ⟨_, rfl, u, _, _, rfl, SqT.of (hid_some hu4), fun r hr2 => ?_⟩
        have zr := zst_new t4 hr2
        exact q _ _ (s4.trans (KpZ.of (same_new hr2))) (t4.new hr2) ⟨r, (ab.2, ab.1), ab, rfl, hab, .inr rfl, zr, upd_same⟩
    intro H2 ys s2 t2 h2 ly rel
    rw [List.length_map, lu] at t2 ly
    obtain ⟨us2, L2, eu, hP2, hF⟩ : ∃ (us2 : List Addr) (L2 : List Rd2), ys = us2.map V.ref ∧ PairsAt (hid (zst st g) H2) us2 L2 ∧ Paired Flip L2 L := by
      have gen : ∀ (ys : List V) (L : List Rd2), ys.length = L.length → (∀ (i : Nat) v, ys[i]? = some v → ∃ (u : Addr) (p ab : Rd2), v = .ref u ∧ L[i]? = some ab ∧ Flip p ab ∧ zst st g u = false ∧ H2 u = some (.tup [.str p.1, .str p.2])) →
          ∃ (us2 : List Addr) (L2 : List Rd2), ys = us2.map V.ref ∧ PairsAt (hid (zst st g) H2) us2 L2 ∧ Paired Flip L2 L := by
        intro ys
        induction ys with
        | nil =>
          intro R e _
          cases R with
          | nil => exact ⟨[], [], rfl, .nil, .nil⟩
          | cons _ _ => cases e
        | cons y ys ih =>
          intro R e h
          cases R with
          | nil => cases e
          | cons ab R =>
            obtain ⟨us2, L2, e2, p2, f2⟩ := ih R (Nat.succ.inj e) fun i v hv => h (i + 1) v hv
            obtain ⟨u, p, ab', rfl, eab, fl, zu, hu⟩ := h 0 y rfl
            cases (show some ab = some ab' from eab)
            exact ⟨u :: us2, p :: L2, by rw [e2] <;> rfl, .cons (hid_of hu zu) p2, .cons fl f2⟩
      exact gen ys L ly rel
    subst eu
    have lL : L2.length = L.length := Paired.length hF
    refine ⟨st, g, D, _, L2, rfl, t2, by omega, ⟨us2, .inl (hid_of h2 zD), paired_same (fun _ _ z => .inr z) hP2⟩, by omega, fun H3 l s3 f3 z3 t3 r3 => ?_⟩
    exact k H3 l L2 (s2.trans s3) (s2.free f3 z3) z3 (t3.mono (by omega)) r3 hF
theorem key_strs {N : List Str} {f : Str → V} : (dOf N f).map (fun kv => kV kv.1) = N.map V.str := by
  unfold dOf
  rw [List.map_map]
  rfl
theorem ok_f_handed (T : Txt K mg) : FnOk P w K mg base CX0 3 T.law_f_handed.f T.law_f_handed.fd ["_law_stream", "_law_known"] spHanded := by
  have G_law_mixed : FnOk P w K mg base CX0 2 T.law_mixed.f T.law_mixed.fd ["_law_stream", "_law_things"] (spMixed K) := ok_mixed T
  refine T.law_f_handed.F.ok sc_law_f_handed (fun vs H Q E h => ?_) (fun cdv A outer s H vs Q E hr h => ?_)
  · obtain ⟨st, g, d, c, N, f, rfl, _⟩ := h
    rfl
  · obtain ⟨st, g, d, c, N, f, rfl, hS, hc, hd, nd, hz, k⟩ := h
    -- slots: 0 _law_stream, 1 _law_known*, 2 _law_key
    refine ⟨_, (pss_one (ps_ret (pe_callTy (call_dictP rfl) (by rfl) T.n_dict (by decide +kernel) (pa_cons (pe_lc (own := [("_law_key", 2)]) (g := gName 2) (tt := tYes) rfl sc_law_f_handed.nd (pi_list (pe_call G_law_mixed (hr.mono (by decide)) rfl T.law_mixed.mgx T.law_mixed.F.kp T.law_mixed.b .nil pass0 (pa_cons (pv 0) (pa_cons (pe_callTy (call_listD rfl) (by rfl) T.n_list (by decide +kernel) (pa_cons (pv 1) pa_nil)) pa_nil)))) (blkOk_by (N := N_law_f_handed) (own := [("_law_key", 2)]) (sc := defScope s_law_f_handed) (by decide +kernel)) (fun _ _ _ _ _ => (pg_name (i := 2) sc_law_f_handed.nd rfl (Or.inl rfl))) (fun _ _ _ _ _ => pts_nil) (fun _ _ _ _ _ => (pe_tup (pa_cons (pv 2) (pa_cons (pe_dget (hu_of hr) (pv 1) (pv 2) (fun _ _ => rfl)) pa_nil))))) pa_nil)))), ?_⟩
    refine ⟨_, rfl, _, rfl, d, _, rfl, .inl hd, fun l hl => ?_⟩
    rw [key_strs]
    have zd : zst st g d = false := by
      have q := hid_kind hS hd (fun _ z => by cases z)
      exact hid_not q
    have t1 := hS.new (o := .lst (N.map V.str)) hl
    have s1 : KpZ (zst st g) H (upd H l (.lst (N.map V.str))) := KpZ.of (same_new hl)
    refine ⟨st, g, l, c, _, rfl, t1, by rw [List.length_map]; omega, .inl (SqL.of upd_same), by rw [List.length_map]; omega, fun H2 l2 ys s2 f2 z2 t2 h2 pm => ?_⟩
    obtain ⟨N2, rfl, pm2⟩ := perm_strs pm
    rw [List.length_map] at t2
    have k2 := s1.trans s2
    refine ⟨l2, rfl, ⟨_, SqL.of h2⟩, fun D hD => ?_⟩
    have zD := zst_new t2 hD
    have nst : D ≠ st := fun z => by rw [z, zst_st] at zD; cases zD
    have ng : D ≠ g := fun z => by rw [z, zst_g] at zD; cases zD
    have nd2 : N2.Nodup := pm2.nodup_iff.mpr nd
    refine lcPair walk_listN nd2 (zst st g) (fun _ H' => Strm H' st g (c + N.length)) (fun _ n v => v = f n) hD zD (by rw [pm2.length_eq]; omega) (fun _ _ _ _ _ _ _ r => r) (fun _ H' p o e h => ?_) (fun H' e => SqL.of (e.at h2 z2)) t2 (fun _ H' p h hp => zst_new h hp) (fun _ => rfl) (by exact (by decide : 2 < 3)) (fun i n H' acc Q2 hn e t hacc q => ?_) fun H3 ps f2 s3 t3 e3 p3 r3 => ?_
    · rcases e with e | rfl
      · exact h.new e
      · exact h.up nst ng
    · have hd' := (k2.trans e).at hd zd
      exact ⟨_, rfl, _, List.getElem?_set_self (by exact (by decide : 2 < 3)), d, _, rfl, dget_dOf hd' (pm2.mem_iff.mp (List.mem_of_getElem? hn)), q _ _ KpZ.refl t rfl⟩
    refine ⟨D, ps, _, rfl, SqL.of e3, paired_same (fun _ _ z => SqT.of z) p3, fun p hp => ?_⟩
    have zp := zst_new t3 hp
    rw [merge_dOf nd2, dOf_congr (g := f) r3]
    exact k _ p N2 ((k2.trans s3).trans (KpZ.of (same_new hp))) ((k2.trans s3).free hp zp) zp ((t3.new hp).mono (by omega)) upd_same pm2
end
end K80
namespace K80
open PySem PySem.Spec PyProof.Rows L2
theorem const_merge {N : List Str} {x : V} (nd : N.Nodup) : mergeK [] (N.map fun n => ((Sum.inr n : Key), x)) = dOf N fun _ => x := merge_dOf (f := fun _ => x) nd
section
variable {P : Program} {w : World} {K : PySem.W.Frag} {mg : Str → Option Value} {base : Heap}
theorem ok_heaps (T : Txt K mg) : FnOk P w K mg base CX0 3 T.law_heaps.f T.law_heaps.fd ["_law_stream", "_law_names"] spHeaps := by
  have G_law_draw : FnOk P w K mg base CX0 1 T.law_draw.f T.law_draw.fd ["_law_stream", "_law_many"] spDraw := ok_draw T
  have G_law_pick : FnOk P w K mg base CX0 2 T.law_pick.f T.law_pick.fd ["_law_stream", "_law_things"] spPick := ok_pick T
  refine T.law_heaps.F.ok sc_law_heaps (fun vs H Q E h => ?_) (fun cdv A outer s H vs Q E hr h => ?_)
  · obtain ⟨st, g, a, c, N, rfl, _⟩ := h
    rfl
  · obtain ⟨st, g, a, c, N, rfl, hS, hc, ha, za, nd, nz, k⟩ := h
    -- slots: 0 _law_stream*, 1 _law_names, 2 _law_great*, 3 _law_way, 4 _law_many*, 5 _law_name
    refine ⟨_, (pss_cons (ps_asg (pe_tup (pa_cons (pe_call G_law_pick (hr.mono (by decide)) rfl T.law_pick.mgx T.law_pick.F.kp T.law_pick.b .nil pass0 (pa_cons (pv 0) (pa_cons (pe_lst (pa_cons pe_int (pa_cons pe_int (pa_cons pe_int (pa_cons (pe_op op_pow pe_int pe_int) pa_nil))))) pa_nil))) (pa_cons (pe_call G_law_draw (hr.mono (by decide)) rfl T.law_draw.mgx T.law_draw.F.kp T.law_draw.b .nil pass0 (pa_cons (pv 0) (pa_cons pe_int pa_nil))) pa_nil))) (pg_tup rfl (pgs_cons (pg_name (i := 2) sc_law_heaps.nd rfl (Or.inr rfl)) (pgs_cons (pg_name (i := 3) sc_law_heaps.nd rfl (Or.inl rfl)) pgs_nil))))
    (pss_cons (ps_if (pt_cmpR op_eq (pv 3) pe_int (nomark _)) (pss_one (ps_ret (pe_callTy (call_dictP rfl) (by rfl) T.n_dict (by decide +kernel) (pa_cons (pe_lc (own := [("_law_name", 5)]) (g := gName 5) (tt := tYes) rfl sc_law_heaps.nd (pi_list (pv 1)) (blkOk_by (N := N_law_heaps) (own := [("_law_name", 5)]) (sc := defScope s_law_heaps) (by decide +kernel)) (fun _ _ _ _ _ => (pg_name (i := 5) sc_law_heaps.nd rfl (Or.inl rfl))) (fun _ _ _ _ _ => pts_nil) (fun _ _ _ _ _ => (pe_tup (pa_cons (pv 5) (pa_cons pe_int pa_nil))))) pa_nil)))) pss_nil)
    (pss_cons (ps_if (pt_cmpR op_eq (pv 3) pe_int (nomark _)) (pss_cons (ps_set (i := 4) sc_law_heaps.nd rfl (Or.inr rfl) (pe_call G_law_draw (hr.mono (by decide)) rfl T.law_draw.mgx T.law_draw.F.kp T.law_draw.b .nil pass0 (pa_cons (pv 0) (pa_cons (pe_op op_add (pv 2) pe_int) pa_nil))))
    (pss_one (ps_ret (pe_callTy (call_dictP rfl) (by rfl) T.n_dict (by decide +kernel) (pa_cons (pe_lc (own := [("_law_name", 5)]) (g := gName 5) (tt := tYes) rfl sc_law_heaps.nd (pi_list (pv 1)) (blkOk_by (N := N_law_heaps) (own := [("_law_name", 5)]) (sc := defScope s_law_heaps) (by decide +kernel)) (fun _ _ _ _ _ => (pg_name (i := 5) sc_law_heaps.nd rfl (Or.inl rfl))) (fun _ _ _ _ _ => pts_nil) (fun _ _ _ _ _ => (pe_tup (pa_cons (pv 5) (pa_cons (pv 4) pa_nil))))) pa_nil))))) pss_nil)
    (pss_one (ps_ret (pe_callTy (call_dictP rfl) (by rfl) T.n_dict (by decide +kernel) (pa_cons (pe_lc (own := [("_law_name", 5)]) (g := gName 5) (tt := tYes) rfl sc_law_heaps.nd (pi_list (pv 1)) (blkOk_by (N := N_law_heaps) (own := [("_law_name", 5)]) (sc := defScope s_law_heaps) (by decide +kernel)) (fun _ _ _ _ _ => (pg_name (i := 5) sc_law_heaps.nd rfl (Or.inl rfl))) (fun _ _ _ _ _ => pts_nil) (fun _ _ _ _ _ => (pe_tup (pa_cons (pv 5) (pa_cons (pe_call G_law_draw (hr.mono (by decide)) rfl T.law_draw.mgx T.law_draw.F.kp T.law_draw.b .nil pass0 (pa_cons (pv 0) (pa_cons (pe_op op_add (pv 2) pe_int) pa_nil))) pa_nil))))) pa_nil))))))), ?_⟩
    refine ⟨_, rfl, _, _, rfl, rfl, ⟨by decide, by decide, by decide⟩, show 4 ≤ sizeLine by decide, fun l2 hl2 => ?_⟩
    have z2 := zst_new hS hl2
    generalize eH : upd H l2 (HO.lst _) = H2
    have s2 : KpZ (zst st g) H H2 := by rw [← eH]; exact KpZ.of (same_new hl2)
    have t2 : Strm H2 st g c := by rw [← eH]; exact hS.new hl2
    have e2 : H2 l2 = some (.lst [.int 1, .int 2, .int 9, .int (10 ^ 15)]) := by rw [← eH]; exact upd_same
    clear eH
    refine ⟨st, g, l2, _, _, rfl, t2, by omega, e2, z2, show 1 ≤ 4 by decide, show 4 ≤ 1000 by decide, fun H3 x s3 t3 hx => ?_⟩
    obtain ⟨great, rfl, g1, g2⟩ : ∃ great : Int, x = .int great ∧ 1 ≤ great ∧ great ≤ 10 ^ 15 := by
      simp only [List.mem_cons, List.mem_nil_iff, or_false] at hx
      rcases hx with rfl | rfl | rfl | rfl
      · exact ⟨1, rfl, by decide, by decide⟩
      · exact ⟨2, rfl, by decide, by decide⟩
      · exact ⟨9, rfl, by decide, by decide⟩
      · exact ⟨10 ^ 15, rfl, by decide, by decide⟩
    have k3 := s2.trans s3
    refine ⟨_, rfl, ⟨st, g, _, 4, rfl, t3, by omega, by decide, by decide, fun H4 wy s4 t4 w0 w1 => ⟨show 2 ≤ sizeLine by decide, fun t ht => ?_⟩⟩⟩
    have k5 := (k3.trans s4).trans (KpZ.of (same_new (o := .tup [.int great, .int wy]) ht))
    have t5 := t4.new (o := .tup [.int great, .int wy]) ht
    refine ⟨t, _, rfl, SqT.of upd_same, rfl, _, _, rfl, _, _, rfl, rfl, ?_⟩
    generalize upd H4 t (.tup [.int great, .int wy]) = H5 at k5 t5 ⊢
    -- all alike
    have alike : ∀ {σ : L2.St} {H6 : Hp} {c6 : Nat} (m : Int) (tv : TE), KpZ (zst st g) H H6 → Strm H6 st g c6 → c6 ≤ c + 100 → 0 ≤ m → m ≤ 10 ^ 15 → 5 < σ.length → (∀ (n : Str) (H' : Hp) (Q : VK), Q (.int m) H' → tv ((wipe σ [5]).set 5 (some (.str n))) H' Q) →
        (∀ x, wipe ((wipe σ [5]).set 5 (some x)) [5] = wipe σ [5]) →
        ∀ D, H6 D = none → ∃ W : Nat → Nat → Hp → Prop, (∃ m, W 0 m (upd H6 D (.lst []))) ∧ ∀ i m H, W i m H → ((Itl K a).stop i H ∧ (∃ (b : Addr) (ps : List Addr) (kvs : List (Key × V)), [V.ref D] = [.ref b] ∧ SqL K H b (ps.map V.ref) ∧ Paired (fun p kv => SqT K H p [kV kv.1, kv.2]) ps kvs ∧ ∀ p, H p = none → Q (.ref p) (upd H p (.dK (mergeK [] kvs))))) ∨
          ((Itl K a).go i H ∧ ∃ Nx : Hp → Prop, (∀ H', Nx H' → ∃ m', m' < m ∧ W (i + 1) m' H') ∧
          ∀ x H', (Itl K a).yld i H x H' → gName 5 x (wipe σ [5]) H' fun σ2 H2 => wipe σ2 [5] = wipe σ [5] ∧ tYes σ2 H2 fun b H3 => if b = true then tTup (tCons (tVar 5) (tCons tv tNil)) σ2 H3 fun y H4 => ∃ acc, H4 D = some (.lst acc) ∧ acc.length < sizeLine ∧ Nx (upd H4 D (.lst (acc ++ [y]))) else Nx H3) := by
      intro σ H6 c6 m tv k6 t6 hc6 m0 m1 hσ htv hw D hD
      have a6 := k6.at ha za
      refine lcPairC (B := N) (x := .int m) walk_listN hD (by omega) (fun H' e => SqL.of (e _ _ a6)) hw hσ (fun n H' Q q => htv n H' Q q) fun H7 ps s7 d7 p7 => ?_
      refine ⟨D, ps, _, rfl, SqL.of d7, paired_same (fun _ _ z => SqT.of z) p7, fun p hp => ?_⟩
      have t7 := t6.same s7
      have zp := zst_new t7 hp
      have k7 := k6.trans (KpZ.of s7)
      rw [const_merge nd]
      exact k _ p (fun _ => m) (k7.trans (KpZ.of (same_new hp))) (k7.free hp zp) zp ((t7.new hp).mono (by omega)) upd_same fun n _ => ⟨m0, m1⟩
    refine ⟨_, rfl, rfl, decide (wy = 0), congrArg V.bl (decide_eq_decide.mpr ⟨fun z => V.int.inj z, fun z => by rw [z]⟩), ite2 (fun _ => ?_) fun _ => ?_⟩
    · refine ⟨_, rfl, a, rfl, ⟨_, SqL.of (k5.at ha za)⟩, fun D hD => ?_⟩
      exact alike 1 _ k5 t5 (by omega) (by decide) (by decide) (by exact (by decide : 5 < 6)) (fun _ _ _ q => q) (fun _ => rfl) D hD
    refine ⟨_, rfl, rfl, decide (wy = 1), congrArg V.bl (decide_eq_decide.mpr ⟨fun z => V.int.inj z, fun z => by rw [z]⟩), ite2 (fun _ => ?_) fun _ => ?_⟩
    · refine ⟨_, rfl, _, rfl, _, _, rfl, rfl, ⟨st, g, _, _, rfl, t5, by omega, by omega, by omega, fun H6 m s6 t6 m0 m1 => ?_⟩⟩
      refine ⟨_, rfl, a, rfl, ⟨_, SqL.of ((k5.trans s6).at ha za)⟩, fun D hD => ?_⟩
      exact alike m _ (k5.trans s6) t6 (by omega) m0 (by omega) (by exact (by decide : 5 < 6)) (fun _ _ _ q => ⟨_, rfl, q⟩) (fun _ => rfl) D hD
    · refine ⟨_, rfl, a, rfl, ⟨_, SqL.of (k5.at ha za)⟩, fun D hD => ?_⟩
      have zD := zst_new t5 hD
      have nst : D ≠ st := fun z => by rw [z, zst_st] at zD; cases zD
      have ng : D ≠ g := fun z => by rw [z, zst_g] at zD; cases zD
      refine lcPair walk_listN nd (zst st g) (fun i H' => Strm H' st g (c + 1 + 1 + i)) (fun _ n v => ∃ z : Int, v = .int z ∧ 0 ≤ z ∧ z ≤ 10 ^ 15) hD zD (by omega) (fun _ _ _ _ _ _ _ r => r) (fun _ H' p o e h => ?_) (fun H' e => SqL.of ((k5.trans e).at ha za)) t5 (fun _ H' p h hp => zst_new h hp) (fun _ => rfl) (by exact (by decide : 5 < 6)) (fun i n H' acc Q2 hn e t hacc q => ?_) fun H6 ps f s6 t6 e6 p6 r6 => ?_
      · rcases e with e | rfl
        · exact h.new e
        · exact h.up nst ng
      · have hi := (List.getElem?_eq_some_iff.mp hn).1
        refine ⟨_, rfl, _, rfl, _, _, rfl, rfl, ⟨st, g, _, _, rfl, t, by omega, by omega, by omega, fun H7 z s7 t7 z0 z1 => ?_⟩⟩
        exact q _ _ s7 t7 ⟨z, rfl, z0, by omega⟩
      refine ⟨D, ps, _, rfl, SqL.of e6, paired_same (fun _ _ z => SqT.of z) p6, fun p hp => ?_⟩
      have zp := zst_new t6 hp
      have k6 := k5.trans s6
      rw [merge_dOf nd]
      refine k _ p (fun n => match f n with | .int z => z | _ => 0) (k6.trans (KpZ.of (same_new hp))) (k6.free hp zp) zp ((t6.new hp).mono (by omega)) ?_ fun n hn => ?_
      · rw [upd_same]
        refine congrArg (fun z => some (HO.dK z)) (dOf_congr fun n hn => ?_)
        obtain ⟨z, e, _⟩ := r6 n hn
        rw [e]
      · obtain ⟨z, e, z0, z1⟩ := r6 n hn
        rw [e]
        exact ⟨z0, z1⟩
end
end K80
namespace K80
open PySem PySem.Spec PyProof.Rows L2
theorem walk_keysN {d : Addr} {o : Obj} {N : List Str} {f : Str → V} : Walk (Itk d o (dOf N f)) N.length (fun H => H d = some (.frz o (.dK (dOf N f)))) (YAt (N.map V.str)) := by
  have w := walk_keys (d := d) (o := o) (kvs := dOf N f)
  rw [dOf_len] at w
  refine w.mono (fun _ h => h) fun i H x H' _ _ ⟨e, k, v, hk, ex⟩ => ⟨e, ?_⟩
  unfold dOf at hk
  rw [List.getElem?_map] at hk
  obtain ⟨n, hn, en⟩ := Option.map_eq_some_iff.mp hk
  rw [List.getElem?_map, hn, ex]
  cases en
  rfl
theorem pow_nat (k : Nat) : (2 : Int) ^ k = ((2 ^ k : Nat) : Int) := (Int.natCast_pow 2 k).symm
theorem pow_div {a b : Nat} (h : b ≤ a) : (2 : Int) ^ a / 2 ^ b = 2 ^ (a - b) := by
  have e : (2 : Int) ^ a = 2 ^ (a - b) * 2 ^ b := by
    rw [← Int.pow_add, Nat.sub_add_cancel h]
  rw [e]
  exact Int.mul_ediv_cancel _ (Int.ne_of_gt (Int.pow_pos (by decide)))
theorem pow_most {N : List Str} {R L : List Rd2} {m : Int} (hm : m ∈ N.map fun n => ((2 : Int) ^ oftN N R L n)) (hmax : ∀ y ∈ N.map (fun n => ((2 : Int) ^ oftN N R L n)), y ≤ m) : m = 2 ^ mostN N R L := by
  obtain ⟨n, hn, rfl⟩ := List.mem_map.mp hm
  have le : mostN N R L ≤ oftN N R L n := foldl_max_le (Nat.zero_le _) fun x hx => by
    obtain ⟨k, hk, rfl⟩ := List.mem_map.mp hx
    have q := hmax _ (List.mem_map_of_mem (f := fun n => ((2 : Int) ^ oftN N R L n)) hk)
    rw [pow_nat, pow_nat] at q
    have q2 : 2 ^ oftN N R L k ≤ 2 ^ oftN N R L n := Int.ofNat_le.mp q
    exact (Nat.pow_le_pow_iff_right (by decide)).mp q2
  rw [Nat.le_antisymm le (oft_most hn)]
/-- what is asked of _law_left -/
structure LeftIn (H : Hp) (p e d : Addr) (N : List Str) (R L : List Rd2) (h : Str → Int) : Prop where
  sm : SomeAt H p N R
  ok : VOk N R
  ev : ∃ rs : List Addr, H e = some (.lst (rs.map V.ref)) ∧ PairsAt H rs L
  ndL : L.Nodup
  ll : L.length = R.length
  sub : ∀ ab ∈ R, ab ∈ L
  ends : ∀ ab ∈ L, ab.1 ∈ N ∧ ab.2 ∈ N
  hp : ∃ kvs : List (Key × V), H d = some (.dK kvs) ∧ ∀ n ∈ N, valV kvs (Sum.inr n) = some (.int (h n))
  hb : ∀ n ∈ N, 0 ≤ h n ∧ h n < 2 ^ 100
def spLeft : Sp := fun vs H Q _ => ∃ (p e d : Addr) (N : List Str) (R L : List Rd2) (h : Str → Int), vs = [.ref p, .ref e, .ref d] ∧ LeftIn H p e d N R L h ∧
  ∀ (H' : Hp) (q d2 t2 : Addr) (g : Str → Addr), Same H H' → H' q = some (.tup [.ref d2, .ref t2]) → LeftAt H' N R L h d2 g → H' t2 = some (.tup (lowV (topN N R L h) (2 ^ mostN N R L))) → Q (.ref q) H'
section
variable {P : Program} {w : World} {K : PySem.W.Frag} {mg : Str → Option Value} {base : Heap}
theorem ok_left (T : Txt K mg) : FnOk P w K mg base CX0 2 T.law_left.f T.law_left.fd ["_law_some", "_law_evening", "_law_heaps_here"] spLeft := by
  have G_law_f_parts : FnOk P w K mg base CX0 1 T.law_f_parts.f T.law_f_parts.fd ["_law_some", "_law_evening"] spFParts := ok_f_parts T
  have G_law_f_low : FnOk P w K mg base CX0 1 T.law_f_low.f T.law_f_low.fd ["_law_top", "_law_bottom"] spLow := ok_f_low T
  refine T.law_left.F.ok sc_law_left (fun vs H Q E h => ?_) (fun cdv A outer s H vs Q E hr h => ?_)
  · obtain ⟨p, e, d, N, R, L, h, rfl, _⟩ := h
    rfl
  · obtain ⟨p, e, d, N, R, L, h, rfl, hI, k⟩ := h
    -- slots: 0 _law_some, 1 _law_evening, 2 _law_heaps_here*, 3 _law_found*, 4 _law_part, 5 _law_name, 6 _law_top, 7 _law_bottom, 8 _law_pair
    refine ⟨_, (pss_cons (ps_set (i := 3) sc_law_left.nd rfl (Or.inr rfl) (pe_callTy (call_dictP rfl) (by rfl) T.n_dict (by decide +kernel) (pa_cons (pe_lc (own := [("_law_name", 5)]) (g := gName 5) (tt := tYes) rfl sc_law_left.nd (pi_list (pe_ix ix_tup (pv 0) pe_int (fun _ _ => rfl))) (blkOk_by (N := N_law_left) (own := [("_law_name", 5)]) (sc := defScope s_law_left) (by decide +kernel)) (fun _ _ _ _ _ => (pg_name (i := 5) sc_law_left.nd rfl (Or.inl rfl))) (fun _ _ _ _ _ => pts_nil) (fun _ _ _ _ _ => (pe_tup (pa_cons (pv 5) (pa_cons (pe_tup (pa_cons (pe_dget (hu_of hr) (pv 2) (pv 5) (fun _ _ => rfl)) (pa_cons pe_int pa_nil))) pa_nil))))) pa_nil)))
    (pss_cons (ps_for PassesOwn.never rfl (pi_valuesF (pe_call G_law_f_parts (hr.mono (by decide)) rfl T.law_f_parts.mgx T.law_f_parts.F.kp T.law_f_parts.b .nil pass0 (pa_cons (pv 0) (pa_cons (pv 1) pa_nil)))) (pg_name (i := 4) sc_law_left.nd rfl (Or.inl rfl))
      (pss_one (ps_for PassesOwn.never rfl (pi_list (pv 4)) (pg_name (i := 5) sc_law_left.nd rfl (Or.inl rfl))
      (pss_one (ps_dput (hu_of hr) (pv 3) (pv 5) (pe_tup (pa_cons (pe_ix ix_tup (pe_dget (hu_of hr) (pv 3) (pv 5) (fun _ _ => rfl)) pe_int (fun _ _ => rfl)) (pa_cons (pe_op op_mulW pe_int (pe_ix ix_tup (pe_dget (hu_of hr) (pv 3) (pv 5) (fun _ _ => rfl)) pe_int (fun _ _ => rfl))) pa_nil))) rfl)))))
    (pss_cons (ps_par (i := 6) (j := 7) (by rfl) sc_law_left.nd rfl rfl (by decide) rfl rfl (pa_cons pe_int (pa_cons (pe_callB (cr_max rfl) (by rfl) T.n_max (by decide +kernel) (pa_cons (pe_lc (own := [("_law_pair", 8)]) (g := gName 8) (tt := tYes) rfl sc_law_left.nd (pi_valuesF (pv 3)) (blkOk_by (N := N_law_left) (own := [("_law_pair", 8)]) (sc := defScope s_law_left) (by decide +kernel)) (fun _ _ _ _ _ => (pg_name (i := 8) sc_law_left.nd rfl (Or.inl rfl))) (fun _ _ _ _ _ => pts_nil) (fun _ _ _ _ _ => (pe_ix (ix_tupK (K := K) rfl) (pv 8) pe_int (fun _ _ => rfl)))) pa_nil)) pa_nil)) (by rfl))
    (pss_cons (ps_for PassesOwn.never rfl (pi_valuesK (pv 3)) (pg_name (i := 8) sc_law_left.nd rfl (Or.inl rfl))
      (pss_one (ps_set (i := 6) sc_law_left.nd rfl (Or.inl rfl) (pe_op op_add (pv 6) (pe_op op_mulW (pe_ix ix_tup (pv 8) pe_int (fun _ _ => rfl)) (pe_op op_fdivW (pv 7) (pe_ix ix_tup (pv 8) pe_int (fun _ _ => rfl))))))))
    (pss_one (ps_ret (pe_tup (pa_cons (pe_callTy (call_dictP rfl) (by rfl) T.n_dict (by decide +kernel) (pa_cons (pe_lc (own := [("_law_name", 5)]) (g := gName 5) (tt := tYes) rfl sc_law_left.nd (pi_keys (pv 3)) (blkOk_by (N := N_law_left) (own := [("_law_name", 5)]) (sc := defScope s_law_left) (by decide +kernel)) (fun _ _ _ _ _ => (pg_name (i := 5) sc_law_left.nd rfl (Or.inl rfl))) (fun _ _ _ _ _ => pts_nil) (fun _ _ _ _ _ => (pe_tup (pa_cons (pv 5) (pa_cons (pe_call G_law_f_low (hr.mono (by decide)) rfl T.law_f_low.mgx T.law_f_low.F.kp T.law_f_low.b .nil pass0 (pa_cons (pe_ix (ix_tupK (K := K) rfl) (pe_dget (hu_of hr) (pv 3) (pv 5) (fun _ _ => rfl)) pe_int (fun _ _ => rfl)) (pa_cons (pe_ix (ix_tupK (K := K) rfl) (pe_dget (hu_of hr) (pv 3) (pv 5) (fun _ _ => rfl)) pe_int (fun _ _ => rfl)) pa_nil))) pa_nil))))) pa_nil)) (pa_cons (pe_call G_law_f_low (hr.mono (by decide)) rfl T.law_f_low.mgx T.law_f_low.F.kp T.law_f_low.b .nil pass0 (pa_cons (pv 6) (pa_cons (pv 7) pa_nil))) pa_nil))))))))), ?_⟩
    obtain ⟨an, ao, ad, us0, hs0, v1, v3, v7, v8, _⟩ := hI.sm.ex
    obtain ⟨rs, he, hL⟩ := hI.ev
    obtain ⟨kvs, hd, hv⟩ := hI.hp
    have ok := hI.ok
    have nd := ok.nd
    have nz := ok.nz
    have at0 : ∀ {x y z : V}, atI [x, y, z] 0 = some x := fun {x y z} => atI_nat (j := 0) rfl
    have q0 : ∀ {x y : V}, atI [x, y] 0 = some x := fun {x y} => atI_nat (j := 0) rfl
    have q1 : ∀ {x y : V}, atI [x, y] 1 = some y := fun {x y} => atI_nat (j := 1) rfl
    -- found
    refine ⟨_, rfl, p, _, _, _, rfl, rfl, SqT.of v1, at0, an, rfl, ⟨_, SqL.of v3⟩, fun D0 hD0 => ?_⟩
    refine lcPair walk_listN nd noZ (fun _ _ => True) (fun H' n u => ∃ t, u = .ref t ∧ H' t = some (.tup [.int (h n), .int 1])) hD0 rfl (by omega) (fun H1 H2 n u acc e1 e2 r => ?_) (fun _ _ _ _ _ _ => trivial) (fun H' e => SqL.of (e.at v3 rfl)) trivial (fun _ _ _ _ _ => rfl) (fun _ => rfl) (by exact (by decide : 5 < 9)) (fun i n H' acc Q2 hn e _ hacc q => ?_) fun H0 ps f0 s0 _ e0 p0 r0 => ?_
    · obtain ⟨t, rfl, h2⟩ := r
      exact ⟨t, rfl, e2 _ _ h2 rfl (ne_of h2 e1 (fun z => nomatch z))⟩
    · exact ⟨_, rfl, _, List.getElem?_set_self (by exact (by decide : 5 < 9)), d, _, rfl, .inl ⟨kvs, Sum.inr n, .inl (e.at hd rfl), rfl, (hv n (List.mem_of_getElem? hn)).symm⟩, ⟨show 2 ≤ sizeLine by decide, fun t ht => q _ _ (KpZ.of (same_new ht)) trivial ⟨t, rfl, upd_same⟩⟩⟩
    have s0' : Same H H0 := s0
    refine ⟨D0, ps, _, rfl, SqL.of e0, paired_same (fun _ _ z => SqT.of z) p0, fun fd hfd => ?_⟩
    rw [merge_dOf nd]
    have s1 : Same H (upd H0 fd (.dK (dOf N f0))) := s0'.trans (same_new hfd)
    have t1 : Same H0 (upd H0 fd (.dK (dOf N f0))) := same_new hfd
    have e1 : upd H0 fd (.dK (dOf N f0)) fd = some (.dK (dOf N f0)) := upd_same
    have hfd0 : H fd = none := s0'.free hfd
    generalize upd H0 fd (.dK (dOf N f0)) = H1 at s1 t1 e1 ⊢
    obtain ⟨tp, htp⟩ : ∃ tp : Str → Addr, ∀ n ∈ N, f0 n = .ref (tp n) ∧ H1 (tp n) = some (.tup [.int (h n), .int 1]) := by
      have ex : ∀ n : Str, ∃ t, n ∈ N → f0 n = .ref t ∧ H1 t = some (.tup [.int (h n), .int 1]) := fun n => by
        by_cases hn : n ∈ N
        · obtain ⟨t, h1, h2⟩ := r0 n hn
          exact ⟨t, fun _ => ⟨h1, t1 _ _ h2⟩⟩
        · exact ⟨0, fun z => absurd z hn⟩
      exact Classical.axiomOfChoice ex
    -- the parts
    refine ⟨_, rfl, _, rfl, p, e, N, R, L, rs, rfl, hI.sm.same s1, nd, ok.n1, nz, ok.rz, by rw [hI.ll]; exact ok.rz, s1 _ _ he, hL.same s1, hI.ndL, ok.ndR, hI.sub, hI.ends, fun H2 D s2 hD hP => ?_⟩
    obtain ⟨u, ls, hD2, dv, hp, u1, u2, u3, u4⟩ := vals_at hP
    have ll : ls.length = R.length := Paired.length hp
    have sH2 : Same H H2 := s1.trans s2
    have hDH : H D = none := s1.free hD
    have fD : fd ≠ D := ne_of_none e1 hD
    refine ⟨D, u, ls.map V.ref, rfl, hD2, dv, fun o => ?_⟩
    refine for_it walk_itf (fun i σ H' => Same H H' ∧ H' D = some (.frz o u) ∧ (∀ b xs, H2 b = some (.lst xs) → H' b = some (.lst xs)) ∧ (∃ o4 o5 : Option V, σ = [some (.ref p), some (.ref e), some (.ref d), some (.ref fd), o4, o5, none, none, none]) ∧
      ∃ t : Str → Addr, H' fd = some (.dK (dOf N fun n => .ref (t n))) ∧ ∀ n ∈ N, H' (t n) = some (.tup [.int (h n), .int (2 ^ cntFn (R.take i) (partFn N sing L) n)])) ?_ (fun i σ H' _ p => p.2.1) ?_ ?_
    · refine ⟨same_mut sH2 hDH, upd_same, fun b xs hb => ?_, ⟨_, _, rfl⟩, tp, ?_, fun n hn => ?_⟩
      · rw [upd_ne (fun z => by rw [z, hD2] at hb; exact u1 _ (Option.some.inj hb))]
        exact hb
      · rw [upd_ne fD, s2 _ _ e1, dOf_congr fun n hn => (htp n hn).1]
      · have q := s2 _ _ (htp n hn).2
        rw [upd_ne (fun z => by rw [z, hD2] at q; exact u3 _ (Option.some.inj q)), q]
        rfl
    · rintro i x σ H' H3 hi ⟨b1, hD1, bl, ⟨o4, o5, rfl⟩, t, c1, c2⟩ ⟨rfl, hx⟩
      obtain ⟨l, hl, rfl⟩ := map_at hx
      have hiR : i < R.length := ll ▸ (List.getElem?_eq_some_iff.mp hl).1
      obtain ⟨ab, hab⟩ : ∃ ab, R[i]? = some ab := ⟨_, List.getElem?_eq_getElem hiR⟩
      have hl0 := paired_at hp hl hab
      obtain ⟨part, hpt⟩ : ∃ part, part = partFn N sing L ab := ⟨_, rfl⟩
      rw [← hpt] at hl0
      have ndp : part.Nodup := by rw [hpt]; exact partFn_nd nd
      have subp : ∀ n ∈ part, n ∈ N := fun n hn => by rw [hpt] at hn; exact partFn_sub hn
      refine ⟨_, rfl, l, rfl, ⟨_, SqL.of (bl _ _ hl0)⟩, ?_⟩
      refine for_it (walk_list (xs := part.map V.str)) (fun k σ H' => Same H H' ∧ H' D = some (.frz o u) ∧ (∀ b xs, H2 b = some (.lst xs) → H' b = some (.lst xs)) ∧ (∃ o5 : Option V, σ = [some (.ref p), some (.ref e), some (.ref d), some (.ref fd), some (.ref l), o5, none, none, none]) ∧
        ∃ t : Str → Addr, H' fd = some (.dK (dOf N fun n => .ref (t n))) ∧ ∀ n ∈ N, H' (t n) = some (.tup [.int (h n), .int (2 ^ (cntFn (R.take i) (partFn N sing L) n + if n ∈ part.take k then 1 else 0))])) ?_ (fun k σ H' _ p => SqL.of (p.2.2.1 _ _ hl0)) ?_ ?_
      · refine ⟨b1, hD1, bl, ⟨_, rfl⟩, t, c1, fun n hn => ?_⟩
        rw [c2 n hn, if_neg (fun z => by cases z)] <;> rfl
      · rintro k' x σ H4 H5 hk ⟨b2, hD4, bl2, ⟨o5', rfl⟩, t, d1, d2⟩ ⟨rfl, hx2⟩
        obtain ⟨n, hn, rfl⟩ := map_strs_at hx2
        have nN : n ∈ N := subp n (List.mem_of_getElem? hn)
        have nk : ¬ n ∈ part.take k' := not_in_take_of ndp hn
        have dn := d2 n nN
        rw [if_neg nk] at dn
        have cle : cntFn (R.take i) (partFn N sing L) n ≤ 1000 := Nat.le_trans List.countP_le_length (by rw [List.length_take]; have := ok.rz; omega)
        refine ⟨_, rfl, _, rfl, fd, _, rfl, dget_dOf d1 nN, ⟨t n, _, _, _, rfl, rfl, SqT.of dn, q0, ?_⟩⟩
        refine ⟨_, rfl, _, rfl, fd, _, rfl, dget_dOf d1 nN, ⟨t n, _, _, _, rfl, rfl, SqT.of dn, q1, _, _, rfl, rfl, ?_, show 2 ≤ sizeLine by decide, fun p2 hp2 => ?_⟩⟩
        · refine wide_mul (a := 2) (b := 1002) (by decide) ?_ (by decide) (by decide) (by decide)
          rw [Int.natAbs_pow]
          exact Nat.pow_lt_pow_right (by decide) (by omega)
        have f4 : fd ≠ p2 := ne_of_none d1 hp2
        refine ⟨_, rfl, _, rfl, fd, _, rfl, .inl ⟨_, Sum.inr n, same_new hp2 _ _ d1, rfl, by rw [dOf_len]; exact Nat.lt_of_le_of_lt nz (by decide), rfl⟩, ?_⟩
        refine ⟨same_mut (b2.trans (same_new hp2)) hfd0, ?_, fun b xs hb => ?_, ⟨_, rfl⟩, (fun m => if m = n then p2 else t m), ?_, fun m hm => ?_⟩
        · rw [upd_ne (Ne.symm fD)]
          exact same_new hp2 _ _ hD4
        · have q := bl2 b xs hb
          rw [upd_ne (ne_of q d1 (fun z => nomatch z))]
          exact same_new hp2 _ _ q
        · rw [upd_same, put_dOf nN]
          refine congrArg (fun z => some (HO.dK z)) (dOf_congr fun m _ => ?_)
          dsimp only
          by_cases e : m = n
          · rw [if_pos e, if_pos e]
          · rw [if_neg e, if_neg e]
        · dsimp only
          rw [take_snoc hn]
          by_cases e : m = n
          · rw [if_pos e, upd_ne (Ne.symm f4), upd_same, e, if_pos (List.mem_append_right _ (List.mem_singleton.mpr rfl)), Int.pow_succ, Int.mul_comm]
            rfl
          · rw [if_neg e]
            have q := d2 m hm
            rw [upd_ne (ne_of q d1 (fun z => nomatch z)), same_new hp2 _ _ q]
            by_cases e2 : m ∈ part.take k'
            · rw [if_pos e2, if_pos (List.mem_append_left _ e2)]
            · rw [if_neg e2, if_neg]
              intro z
              rcases List.mem_append.mp z with z | z
              · exact e2 z
              · exact e (List.mem_singleton.mp z)
      · rintro σ H4 ⟨b2, hD4, bl2, ⟨o5', rfl⟩, t, d1, d2⟩
        refine ⟨b2, hD4, bl2, ⟨_, _, rfl⟩, t, d1, fun n hn => ?_⟩
        rw [List.length_map, List.take_length] at d2
        rw [d2 n hn, cnt_snoc hab, hpt]
    · rintro σ H4 ⟨b2, hD4, bl2, ⟨o4, o5, rfl⟩, t, d1, d2⟩
      rw [List.length_map, ll, List.take_length] at d2
      have hof : ∀ n, cntFn R (partFn N sing L) n = oftN N R L n := fun _ => rfl
      have lo : ∀ n, oftN N R L n ≤ 1000 := fun n => Nat.le_trans oft_le ok.rz
      have dvf : DVals (.dK (dOf N fun n => .ref (t n))) ((N.map t).map V.ref) := .inl ⟨_, rfl, by
        unfold dOf
        rw [List.map_map, List.map_map]
        rfl⟩
      have atv : ∀ {i : Nat} {x : V}, ((N.map t).map V.ref)[i]? = some x → ∃ n, N[i]? = some n ∧ x = .ref (t n) := fun {i x} hx => by
        rw [List.map_map, List.getElem?_map] at hx
        obtain ⟨n, hn, en⟩ := Option.map_eq_some_iff.mp hx
        exact ⟨n, hn, en.symm⟩
      -- top, bottom = 0, max(..)
      refine ⟨_, rfl, fd, _, _, rfl, d1, dvf, fun of => ?_⟩
      have s5 : Same H (upd H4 fd (.frz of (.dK (dOf N fun n => .ref (t n))))) := same_mut b2 hfd0
      have f5 : upd H4 fd (.frz of (.dK (dOf N fun n => .ref (t n)))) fd = some (.frz of (.dK (dOf N fun n => .ref (t n)))) := upd_same
      have p5 : ∀ n ∈ N, upd H4 fd (.frz of (.dK (dOf N fun n => .ref (t n)))) (t n) = some (.tup [.int (h n), .int (2 ^ oftN N R L n)]) := fun n hn => by
        have q := d2 n hn
        rw [upd_ne (ne_of q d1 (fun z => nomatch z)), q]
        rfl
      generalize upd H4 fd (.frz of (.dK (dOf N fun n => .ref (t n)))) = H5 at s5 f5 p5 ⊢
      refine fun D5 hD5 => ?_
      refine lcZ (walk_itf (vals := (N.map t).map V.ref)) noZ (fun _ _ => True) (fun _ i v => ∃ n, N[i]? = some n ∧ v = .int (2 ^ oftN N R L n)) hD5 rfl (by rw [List.length_map, List.length_map]; omega) (fun _ _ _ _ _ _ _ r => r) (fun _ _ _ _ => trivial) (fun H' e => e.at f5 rfl) trivial ?_ ?_
      · rintro i x H6 H7 acc Q2 hi s6 _ h6 ⟨rfl, hx⟩ q
        obtain ⟨n, hn, rfl⟩ := atv hx
        exact ⟨rfl, ⟨_, rfl, ⟨t n, _, _, _, rfl, rfl, SqT.of (KpZ.at s6 (p5 n (List.mem_of_getElem? hn)) rfl), q1, q _ _ KpZ.refl trivial ⟨n, hn, rfl⟩⟩⟩⟩
      intro H6 ys s6 _ h6 ly rel
      rw [List.length_map, List.length_map] at ly
      have eys : ys = (N.map fun n => ((2 : Int) ^ oftN N R L n)).map V.int := by
        refine List.ext_getElem? fun i => ?_
        by_cases hi : i < ys.length
        · obtain ⟨n, hn, e⟩ := rel i _ (List.getElem?_eq_getElem hi)
          rw [List.getElem?_eq_getElem hi, e, List.map_map, List.getElem?_map, hn]
          rfl
        · rw [List.getElem?_eq_none (by omega), List.getElem?_eq_none (by rw [List.length_map, List.length_map]; omega)]
      subst eys
      have s6' : Same H5 H6 := s6
      refine ⟨D5, _, rfl, SqL.of h6, by rw [List.length_map]; exact ok.n1, fun m hm hmax => ⟨_, _, rfl, ?_⟩⟩
      have em : m = 2 ^ mostN N R L := pow_most hm hmax
      subst em
      have f6 := s6' _ _ f5
      -- the sum
      refine ⟨_, rfl, fd, of, _, _, rfl, f6, dvf, ?_⟩
      refine for_it walk_itf (fun i σ H' => H' = H6 ∧ ∃ (T : Int) (o8 : Option V), σ = [some (.ref p), some (.ref e), some (.ref d), some (.ref fd), o4, o5, some (.int T), some (.int (2 ^ mostN N R L)), o8] ∧ T = ((N.take i).map fun n => h n * 2 ^ (mostN N R L - oftN N R L n)).sum) ⟨rfl, 0, none, rfl, rfl⟩ (fun i σ H' _ p => by rw [p.1]; exact f6) ?_ ?_
      · rintro i x σ H' H7 hi ⟨rfl, T, o8, rfl, rfl⟩ ⟨rfl, hx⟩
        obtain ⟨n, hn, rfl⟩ := atv hx
        have nN := List.mem_of_getElem? hn
        have pt := s6' _ _ (p5 n nN)
        have le := oft_most (R := R) (L := L) nN
        have lm : mostN N R L ≤ 1000 := Nat.le_trans most_le ok.rz
        have dv2 : (2 : Int) ^ mostN N R L / 2 ^ oftN N R L n = 2 ^ (mostN N R L - oftN N R L n) := pow_div le
        refine ⟨_, rfl, _, rfl, ⟨t n, _, _, _, rfl, rfl, SqT.of pt, q0, _, rfl, _, rfl, ⟨t n, _, _, _, rfl, rfl, SqT.of pt, q1, _, _, rfl, rfl, ?_, _, _, rfl, rfl, ?_, _, _, rfl, rfl, ?_⟩⟩⟩
        · exact ⟨Int.pow_pos (by decide), PySem.Flt.log2_lt_of (k := 9000) (by decide) (pow_small (lo n))⟩
        · rw [dv2]
          refine wide_mul (a := 100) (b := 1001) ?_ ?_ (by decide) (by decide) (by decide)
          · have := hI.hb n nN
            omega
          · rw [Int.natAbs_pow]
            exact Nat.pow_lt_pow_right (by decide) (by omega)
        · refine ⟨rfl, _, _, rfl, ?_⟩
          rw [dv2, take_snoc hn, List.map_append, List.sum_append]
          simp
      · rintro σ H' ⟨rfl, T, o8, rfl, rfl⟩
        rw [List.length_map, List.length_map, List.take_length]
        refine ⟨_, rfl, fd, of, rfl, .inl ⟨_, f6, fun D hD => ?_⟩⟩
        refine lcPair walk_keysN nd noZ (fun _ _ => True) (fun H2 n u => ∃ l, u = .ref l ∧ H2 l = some (.tup (lowV (h n) (2 ^ oftN N R L n)))) hD rfl (by omega) (fun H1 H2 n u acc e1 e2 r => ?_) (fun _ _ _ _ _ _ => trivial) (fun H2 e => e.at f6 rfl) trivial (fun _ _ _ _ _ => rfl) (fun _ => rfl) (by exact (by decide : 5 < 9)) (fun i n H7 acc Q2 hn e _ hacc q => ?_) fun H7 ps f7 s7 _ e7 p7 r7 => ?_
        · obtain ⟨l, rfl, h2⟩ := r
          exact ⟨l, rfl, e2 _ _ h2 rfl (ne_of h2 e1 (fun z => nomatch z))⟩
        · have nN := List.mem_of_getElem? hn
          have pt := e.at (s6' _ _ (p5 n nN)) rfl
          have ff := e.at f6 rfl
          have dg : DGet H7 fd (.str n) (some (.ref (t n))) := .inl ⟨_, Sum.inr n, .inr ⟨of, ff⟩, rfl, (val_dOf (f := fun n => V.ref (t n)) nN).symm⟩
          refine ⟨_, rfl, _, List.getElem?_set_self (by exact (by decide : 5 < 9)), fd, _, rfl, dg, ⟨t n, _, _, _, rfl, rfl, SqT.of pt, q0, _, rfl, _, List.getElem?_set_self (by exact (by decide : 5 < 9)), fd, _, rfl, dg, ⟨t n, _, _, _, rfl, rfl, SqT.of pt, q1, ?_⟩⟩⟩
          exact ⟨_, _, rfl, (hI.hb n nN).1, pow_one_le _, pow_small (lo n), fun l hl => q _ _ (KpZ.of (same_new hl)) trivial ⟨l, rfl, upd_same⟩⟩
        have s7' : Same H' H7 := s7
        refine ⟨D, ps, _, rfl, SqL.of e7, paired_same (fun _ _ z => SqT.of z) p7, fun d2 hd2 => ?_⟩
        rw [merge_dOf nd]
        have s8 : Same H7 (upd H7 d2 (.dK (dOf N f7))) := same_new hd2
        have e8 : upd H7 d2 (.dK (dOf N f7)) d2 = some (.dK (dOf N f7)) := upd_same
        generalize upd H7 d2 (.dK (dOf N f7)) = H8 at s8 e8 ⊢
        obtain ⟨gl, hgl⟩ : ∃ gl : Str → Addr, ∀ n ∈ N, f7 n = .ref (gl n) ∧ H8 (gl n) = some (.tup (lowV (h n) (2 ^ oftN N R L n))) := by
          have ex : ∀ n : Str, ∃ t, n ∈ N → f7 n = .ref t ∧ H8 t = some (.tup (lowV (h n) (2 ^ oftN N R L n))) := fun n => by
            by_cases hn : n ∈ N
            · obtain ⟨t, h1, h2⟩ := r7 n hn
              exact ⟨t, fun _ => ⟨h1, s8 _ _ h2⟩⟩
            · exact ⟨0, fun z => absurd z hn⟩
          exact Classical.axiomOfChoice ex
        refine ⟨_, rfl, _, rfl, topN N R L h, 2 ^ mostN N R L, rfl, top_pos fun n hn => (hI.hb n hn).1, pow_one_le _, pow_small (Nat.le_trans most_le ok.rz), fun t2 ht2 => ⟨show 2 ≤ sizeLine by decide, fun q hq => ?_⟩⟩
        have s9 : Same H8 (upd (upd H8 t2 (.tup (lowV (topN N R L h) (2 ^ mostN N R L)))) q (.tup [.ref d2, .ref t2])) := (same_new ht2).trans (same_new hq)
        refine k _ q d2 t2 gl ((((s5.trans s6').trans s7').trans s8).trans s9) upd_same ⟨?_, fun n hn => s9 _ _ (hgl n hn).2⟩ ?_
        · rw [s9 _ _ e8, dOf_congr fun n hn => (hgl n hn).1]
        · rw [upd_ne (ne_of_none upd_same hq), upd_same]
end
end K80
namespace K80
open PySem PySem.Spec PyProof.Rows L2
/-! ### the weights 2^-(how often) add up to one -/
theorem sum_zero {N : List Str} {f : Str → Nat} (h : ∀ n ∈ N, f n = 0) : (N.map f).sum = 0 := by
  induction N with
  | nil => rfl
  | cons a N ih =>
    rw [List.map_cons, List.sum_cons, h a List.mem_cons_self, ih fun n hn => h n (List.mem_cons_of_mem _ hn)]
theorem sum_one {N : List Str} {f : Str → Nat} {m : Str} (nd : N.Nodup) (hm : m ∈ N) (h : ∀ n ∈ N, n ≠ m → f n = 0) : (N.map f).sum = f m := by
  induction N with
  | nil => cases hm
  | cons a N ih =>
    rw [List.map_cons, List.sum_cons]
    rcases List.mem_cons.mp hm with rfl | hm
    · rw [sum_zero fun n hn => h n (List.mem_cons_of_mem _ hn) fun z => (List.nodup_cons.mp nd).1 (z ▸ hn)]
      rfl
    · rw [h a List.mem_cons_self (fun z => (List.nodup_cons.mp nd).1 (z ▸ hm)), ih (List.nodup_cons.mp nd).2 hm fun n hn => h n (List.mem_cons_of_mem _ hn), Nat.zero_add]
theorem sum_two {N : List Str} {f a b : Str → Nat} (h : ∀ n ∈ N, 2 * f n = a n + b n) : 2 * (N.map f).sum = (N.map a).sum + (N.map b).sum := by
  induction N with
  | nil => rfl
  | cons x N ih =>
    rw [List.map_cons, List.sum_cons, List.map_cons, List.sum_cons, List.map_cons, List.sum_cons]
    have := h x List.mem_cons_self
    have := ih fun n hn => h n (List.mem_cons_of_mem _ hn)
    omega
theorem sum_congr {N : List Str} {f g : Str → Nat} (h : ∀ n ∈ N, f n = g n) : (N.map f).sum = (N.map g).sum := by
  rw [List.map_congr_left h]
theorem pow_half {a b : Nat} (h : b = a + 1) : 2 * 2 ^ a = 2 ^ b := by
  rw [h, Nat.pow_succ, Nat.mul_comm]
theorem part_mem {N : List Str} {lots : Str → List Str} {ab : Rd2} {n : Str} : n ∈ partStep N lots ab ↔ n ∈ N ∧ (n ∈ lots ab.1 ∨ n ∈ lots ab.2) := by
  unfold partStep
  rw [List.mem_filter, decide_eq_true_eq, List.mem_append]
/-- behind i roads -/
structure WAt (N : List Str) (L : List Rd2) (i : Nat) : Prop where
  lots : ∀ m ∈ N, ∀ n, n ∈ lotsAll N sing (L.take i) m ↔ n ∈ N ∧ repAll id (L.take i) n = repAll id (L.take i) m
  cnt : ∀ n, cntFn (L.take i) (partFn N sing L) n ≤ i
  sum : ∀ m ∈ N, (N.map fun n => if repAll id (L.take i) n = repAll id (L.take i) m then 2 ^ (L.length - cntFn (L.take i) (partFn N sing L) n) else 0).sum = 2 ^ L.length
theorem w_zero {N : List Str} {L : List Rd2} (nd : N.Nodup) : WAt N L 0 := by
  refine ⟨fun m hm n => ?_, fun n => Nat.le_refl _, fun m hm => ?_⟩
  · show n ∈ [m] ↔ n ∈ N ∧ n = m
    rw [List.mem_singleton]
    exact ⟨fun e => ⟨e ▸ hm, e⟩, fun e => e.2⟩
  · refine (sum_one nd hm fun n _ ne => if_neg ne).trans (if_pos rfl)
theorem w_step {N : List Str} {L : List Rd2} {i : Nat} {ab : Rd2} (ndL : L.Nodup) (ok : RepOk id L) (ends : ∀ ab ∈ L, ab.1 ∈ N ∧ ab.2 ∈ N) (e : L[i]? = some ab) (h : WAt N L i) : WAt N L (i + 1) := by
  obtain ⟨ha, hb⟩ := ends ab (List.mem_of_getElem? e)
  have hne := ok.at e
  have hi : i < L.length := (List.getElem?_eq_some_iff.mp e).1
  have er := repAll_snoc (rep := id) e
  have el := lotsAll_snoc (N := N) (lots := sing) e
  have ef := partFn_at (N := N) (lots := sing) ndL e
  have hl := h.lots
  have hs := h.sum
  have hc := h.cnt
  have ec : ∀ n, cntFn (L.take (i + 1)) (partFn N sing L) n = cntFn (L.take i) (partFn N sing L) n + if n ∈ partFn N sing L ab then 1 else 0 := fun n => cnt_snoc e
  generalize repAll id (L.take i) = rep at hne er hl hs
  generalize lotsAll N sing (L.take i) = lots at el ef hl
  generalize cntFn (L.take i) (partFn N sing L) = cnt at hc hs ec
  have pm : ∀ n, n ∈ partStep N lots ab ↔ n ∈ N ∧ (rep n = rep ab.1 ∨ rep n = rep ab.2) := fun n => by
    rw [part_mem, hl _ ha n, hl _ hb n]
    exact ⟨fun z => ⟨z.1, z.2.imp (·.2) (·.2)⟩, fun z => ⟨z.1, z.2.imp (fun q => ⟨z.1, q⟩) fun q => ⟨z.1, q⟩⟩⟩
  have st : ∀ n, repStep rep ab n = rep ab.1 ↔ rep n = rep ab.1 ∨ rep n = rep ab.2 := fun n => by
    unfold repStep
    by_cases c : rep n = rep ab.2
    · rw [if_pos c]
      exact ⟨fun _ => .inr c, fun _ => rfl⟩
    · rw [if_neg c]
      exact ⟨.inl, fun z => z.resolve_right c⟩
  have sn : ∀ n, ¬ (rep n = rep ab.1 ∨ rep n = rep ab.2) → repStep rep ab n = rep n := fun n z => if_neg fun c => z (.inr c)
  refine ⟨fun m hm n => ?_, fun n => ?_, fun m hm => ?_⟩
  · rw [er, el]
    unfold lotsStep
    by_cases c : m ∈ partStep N lots ab
    · rw [if_pos c, pm n, (st m).mpr ((pm m).mp c).2, st n]
    · have cm : ¬ (rep m = rep ab.1 ∨ rep m = rep ab.2) := fun z => c ((pm m).mpr ⟨hm, z⟩)
      rw [if_neg c, hl m hm n, sn m cm]
      refine and_congr_right fun hn => ?_
      by_cases cn : rep n = rep ab.1 ∨ rep n = rep ab.2
      · rw [(st n).mpr cn]
        refine ⟨fun z => absurd ?_ cm, fun z => absurd ?_ cm⟩
        · rw [← z]
          exact cn
        · exact .inl z.symm
      · rw [sn n cn]
  · rw [ec n]
    have := hc n
    split <;> omega
  · rw [er]
    by_cases c : rep m = rep ab.1 ∨ rep m = rep ab.2
    · rw [(st m).mpr c]
      have q := sum_two (N := N) (f := fun n => if repStep rep ab n = rep ab.1 then 2 ^ (L.length - cntFn (L.take (i + 1)) (partFn N sing L) n) else 0)
        (a := fun n => if rep n = rep ab.1 then 2 ^ (L.length - cnt n) else 0) (b := fun n => if rep n = rep ab.2 then 2 ^ (L.length - cnt n) else 0) fun n hn => by
          have cn := hc n
          by_cases c1 : rep n = rep ab.1
          · have c2 : ¬ rep n = rep ab.2 := fun z => hne (c1.symm.trans z)
            have hp : n ∈ partFn N sing L ab := by rw [ef]; exact (pm n).mpr ⟨hn, .inl c1⟩
            rw [if_pos ((st n).mpr (.inl c1)), if_pos c1, if_neg c2, ec n, if_pos hp, Nat.add_zero]
            exact pow_half (by omega)
          · by_cases c2 : rep n = rep ab.2
            · have hp : n ∈ partFn N sing L ab := by rw [ef]; exact (pm n).mpr ⟨hn, .inr c2⟩
              rw [if_pos ((st n).mpr (.inr c2)), if_neg c1, if_pos c2, ec n, if_pos hp, Nat.zero_add]
              exact pow_half (by omega)
            · rw [if_neg (fun z => ((st n).mp z).elim c1 c2), if_neg c1, if_neg c2]
      rw [hs _ ha, hs _ hb] at q
      omega
    · rw [sn m c]
      refine (sum_congr fun n hn => ?_).trans (hs m hm)
      by_cases cn : rep n = rep ab.1 ∨ rep n = rep ab.2
      · rw [(st n).mpr cn, if_neg (fun z => c (.inl z.symm)), if_neg (fun z => c (by rw [← z]; exact cn))]
      · have hp : ¬ n ∈ partFn N sing L ab := by
          rw [ef]
          exact fun z => cn ((pm n).mp z).2
        rw [sn n cn, ec n, if_neg hp, Nat.add_zero]
theorem w_all {N : List Str} {L : List Rd2} (nd : N.Nodup) (ndL : L.Nodup) (ok : RepOk id L) (ends : ∀ ab ∈ L, ab.1 ∈ N ∧ ab.2 ∈ N) : ∀ i, i ≤ L.length → WAt N L i
  | 0, _ => w_zero nd
  | i + 1, hi => w_step ndL ok ends (List.getElem?_eq_getElem (by omega)) (w_all nd ndL ok ends i (by omega))
theorem sum_mul {N : List Str} {f : Str → Nat} {k : Nat} : (N.map fun n => f n * k).sum = (N.map f).sum * k := by
  induction N with
  | nil => exact (Nat.zero_mul k).symm
  | cons a N ih => rw [List.map_cons, List.sum_cons, List.map_cons, List.sum_cons, ih, Nat.add_mul]
theorem weights {N : List Str} {R L : List Rd2} (ok : SomeOk N R) (pL : L.Perm R) : (N.map fun n => 2 ^ (mostN N R L - oftN N R L n)).sum = 2 ^ mostN N R L := by
  have tL := ok.tree.perm pL
  have rL := tree_rep ok.nd tL
  have W := w_all ok.nd (uniq_nd (rep_uniq rL)) rL tL.ends L.length (Nat.le_refl _)
  obtain ⟨m, hm⟩ : ∃ m, m ∈ N := by
    have := ok.n1
    match N, this with
    | m :: _, _ => exact ⟨m, List.mem_cons_self⟩
  have q := W.sum m hm
  rw [List.take_length] at q
  have cn : ∀ n, cntFn L (partFn N sing L) n = oftN N R L n := fun n => pL.countP_eq _
  have ml : mostN N R L ≤ L.length := by rw [pL.length_eq]; exact most_le
  have e : (N.map fun n => 2 ^ (mostN N R L - oftN N R L n) * 2 ^ (L.length - mostN N R L)).sum = 2 ^ L.length := by
    rw [← q]
    refine sum_congr fun n hn => ?_
    have le := oft_most (R := R) (L := L) hn
    rw [if_pos (tL.conn (repAll id L) (fun ab hab => rep_edge hab) n hn m hm), cn n, ← Nat.pow_add]
    exact congrArg _ (by omega)
  rw [sum_mul] at e
  have e2 : 2 ^ L.length = 2 ^ mostN N R L * 2 ^ (L.length - mostN N R L) := by
    rw [← Nat.pow_add]
    exact congrArg _ (by omega)
  rw [e2] at e
  exact Nat.eq_of_mul_eq_mul_right (Nat.pow_pos (by decide)) e
/-- in whole numbers -/
theorem int_sum {N : List Str} {f : Str → Nat} : (N.map fun n => ((f n : Nat) : Int)).sum = (((N.map f).sum : Nat) : Int) := by
  induction N with
  | nil => rfl
  | cons a N ih => rw [List.map_cons, List.sum_cons, List.map_cons, List.sum_cons, ih, Int.natCast_add]
theorem top_ones {N : List Str} {R L : List Rd2} (ok : SomeOk N R) (pL : L.Perm R) : topN N R L (fun _ => 1) = 2 ^ mostN N R L := by
  unfold topN
  rw [pow_nat, ← weights ok pL, ← int_sum]
  refine congrArg List.sum (List.map_congr_left fun n _ => ?_)
  rw [Int.one_mul, pow_nat]
theorem sum_le {N : List Str} {f g : Str → Int} (h : ∀ n ∈ N, f n ≤ g n) : (N.map f).sum ≤ (N.map g).sum := by
  induction N with
  | nil => exact Int.le_refl _
  | cons a N ih =>
    rw [List.map_cons, List.sum_cons, List.map_cons, List.sum_cons]
    exact Int.add_le_add (h a List.mem_cons_self) (ih fun n hn => h n (List.mem_cons_of_mem _ hn))
theorem sum_scale {N : List Str} {f : Str → Int} {k : Int} : (N.map fun n => k * f n).sum = k * (N.map f).sum := by
  induction N with
  | nil => exact (Int.mul_zero k).symm
  | cons a N ih => rw [List.map_cons, List.sum_cons, List.map_cons, List.sum_cons, ih, Int.mul_add]
theorem top_scale {N : List Str} {R L : List Rd2} {k : Int} (ok : SomeOk N R) (pL : L.Perm R) : (N.map fun n => k * 2 ^ (mostN N R L - oftN N R L n)).sum = k * 2 ^ mostN N R L := by
  rw [sum_scale, ← top_ones ok pL]
  unfold topN
  refine congrArg (fun z => k * List.sum z) (List.map_congr_left fun n _ => ?_)
  rw [Int.one_mul]
theorem top_ge {N : List Str} {R L : List Rd2} {h : Str → Int} {k : Int} (ok : SomeOk N R) (pL : L.Perm R) (hk : ∀ n ∈ N, k ≤ h n) : k * 2 ^ mostN N R L ≤ topN N R L h := by
  rw [← top_scale ok pL]
  exact sum_le fun n hn => Int.mul_le_mul_of_nonneg_right (hk n hn) (Int.le_of_lt (Int.pow_pos (by decide)))
theorem top_le {N : List Str} {R L : List Rd2} {h : Str → Int} {k : Int} (ok : SomeOk N R) (pL : L.Perm R) (hk : ∀ n ∈ N, h n ≤ k) : topN N R L h ≤ k * 2 ^ mostN N R L := by
  rw [← top_scale ok pL]
  exact sum_le fun n hn => Int.mul_le_mul_of_nonneg_right (hk n hn) (Int.le_of_lt (Int.pow_pos (by decide)))
/-- lowest terms -/
theorem low_parts {a b : Int} (ha : 0 ≤ a) (hb : 1 ≤ b) : ∃ g : Int, 1 ≤ g ∧ a = g * (low a b).1 ∧ b = g * (low a b).2 := by
  refine ⟨((Nat.gcd a.natAbs b.natAbs : Nat) : Int), ?_, ?_, ?_⟩
  · have : 0 < Nat.gcd a.natAbs b.natAbs := Nat.gcd_pos_of_pos_right _ (by omega)
    omega
  · have d : ((Nat.gcd a.natAbs b.natAbs : Nat) : Int) ∣ a := Int.ofNat_dvd_left.mpr (Nat.gcd_dvd_left _ _)
    exact (Int.mul_ediv_cancel' d).symm
  · have d : ((Nat.gcd a.natAbs b.natAbs : Nat) : Int) ∣ b := Int.ofNat_dvd_left.mpr (Nat.gcd_dvd_right _ _)
    exact (Int.mul_ediv_cancel' d).symm
theorem low_ge {a b k : Int} (ha : 0 ≤ a) (hb : 1 ≤ b) (h : k * b ≤ a) : k * (low a b).2 ≤ (low a b).1 := by
  obtain ⟨g, hg, ea, eb⟩ := low_parts ha hb
  have q : g * (k * (low a b).2) ≤ g * (low a b).1 := by
    rw [← ea, Int.mul_left_comm, ← eb]
    exact h
  exact Int.le_of_mul_le_mul_left q (by omega)
theorem low_le {a b k : Int} (ha : 0 ≤ a) (hb : 1 ≤ b) (h : a ≤ k * b) : (low a b).1 ≤ k * (low a b).2 := by
  obtain ⟨g, hg, ea, eb⟩ := low_parts ha hb
  have q : g * (low a b).1 ≤ g * (k * (low a b).2) := by
    rw [← ea, Int.mul_left_comm, ← eb]
    exact h
  exact Int.le_of_mul_le_mul_left q (by omega)
theorem low_self {a : Int} (ha : 1 ≤ a) : low a a = (1, 1) := by
  unfold low
  rw [Nat.gcd_self, show ((a.natAbs : Nat) : Int) = a by omega, Int.ediv_self (by omega)]
end K80
namespace K80
open PySem PySem.Spec PyProof.Rows L2
/-! ### _law_same: alike things, by their depth -/
abbrev RelH := Hp → V → V → Prop
inductive Sc : V → V → Prop
  | non : Sc .non .non
  | bl (b : Bool) : Sc (.bl b) (.bl b)
  | int (i : Int) : Sc (.int i) (.int i)
  | str (z : Str) : Sc (.str z) (.str z)
inductive SeqOf (R : RelH) (H : Hp) : V → V → Prop
  | lst {a b : Addr} {xs ys : List V} (ha : H a = some (.lst xs)) (hb : H b = some (.lst ys)) (z : xs.length ≤ 1000) (h : Paired (R H) xs ys) : SeqOf R H (.ref a) (.ref b)
  | tup {a b : Addr} {xs ys : List V} (ha : H a = some (.tup xs)) (hb : H b = some (.tup ys)) (z : xs.length ≤ 1000) (h : Paired (R H) xs ys) : SeqOf R H (.ref a) (.ref b)
inductive DictOf (R : RelH) (H : Hp) : V → V → Prop
  | mk {a b : Addr} {kvs lvs : List (Key × V)} (ha : H a = some (.dK kvs)) (hb : H b = some (.dK lvs)) (z : kvs.length ≤ 1000) (h : Paired (fun p q => (p.1 = q.1 ∧ ∃ n, p.1 = Sum.inr n) ∧ R H p.2 q.2) kvs lvs) : DictOf R H (.ref a) (.ref b)
def Stays (R : RelH) : Prop := ∀ H H' x y, Same H H' → R H x y → R H' x y
def RelSp (R : RelH) : Sp := fun vs H Q _ => ∃ x y, vs = [x, y] ∧ R H x y ∧ ∀ H', Same H H' → Q (.bl true) H'
theorem stays_seq {R : RelH} (h : Stays R) : Stays (SeqOf R) := fun H H' x y e q => by
  cases q with
  | lst ha hb z p => exact .lst (e _ _ ha) (e _ _ hb) z (paired_same (fun _ _ r => h _ _ _ _ e r) p)
  | tup ha hb z p => exact .tup (e _ _ ha) (e _ _ hb) z (paired_same (fun _ _ r => h _ _ _ _ e r) p)
theorem stays_dict {R : RelH} (h : Stays R) : Stays (DictOf R) := fun H H' x y e q => by
  cases q with
  | mk ha hb z p => exact .mk (e _ _ ha) (e _ _ hb) z (paired_same (fun _ _ r => ⟨r.1, h _ _ _ _ e r.2⟩) p)
/-- one more step -/
def Up (S D : RelH) (wd : Bool) : RelH := fun H x y => Sc x y ∨ SeqOf S H x y ∨ (wd = true ∧ DictOf D H x y)
def NoR : RelH := fun _ _ _ => False
theorem stays_no : Stays NoR := fun _ _ _ _ _ h => h.elim
theorem stays_up {S D : RelH} {wd : Bool} (s : Stays S) (d : Stays D) : Stays (Up S D wd) := fun H H' x y e q => by
  rcases q with q | q | q
  · exact .inl q
  · exact .inr (.inl (stays_seq s _ _ _ _ e q))
  · exact .inr (.inr ⟨q.1, stays_dict d _ _ _ _ e q.2⟩)
theorem kit_four {K : PySem.W.Frag} {n : String} (h : n = "NoneType" ∨ n = "str") : PySem.W.kitAny K (.type n) [.type "int", .type "list", .type "tuple", .type "dict"] = some false := by
  have m : n ∈ tys7 := by rcases h with rfl | rfl <;> decide
  have f1 : (n == "int" || n == "bool") = false := by rcases h with rfl | rfl <;> decide
  have f2 : (n == "list") = false := by rcases h with rfl | rfl <;> decide
  have f3 : (n == "tuple") = false := by rcases h with rfl | rfl <;> decide
  have f4 : (n == "dict") = false := by rcases h with rfl | rfl <;> decide
  have k1 := kit_int (K := K) m
  have k2 := kit_list (K := K) m
  have k3 := kit_tuple (K := K) m
  have k4 := kit_dict (K := K) m
  rw [f1] at k1
  rw [f2] at k2
  rw [f3] at k3
  rw [f4] at k4
  refine kitAny_cons k1 (fun _ => ?_) fun z => by cases z
  refine kitAny_cons k2 (fun _ => ?_) fun z => by cases z
  refine kitAny_cons k3 (fun _ => ?_) fun z => by cases z
  refine kitAny_cons k4 (fun _ => kitAny_nil) fun z => by cases z
section
variable {K : PySem.W.Frag} {a b : Addr} {xs ys : List V}
theorem walk_zipT {n : Nat} (hn : n = min xs.length ys.length) : Walk (RZ.ItzT K a b) n (fun H => SqT K H a xs ∧ SqT K H b ys) (YPair (fun i => xs[i]?) (fun i => ys[i]?)) := by
  refine ⟨fun i H hi h => ?_, fun H h => ?_, fun i H x H' hi h y => ?_⟩
  · exact ⟨xs, ys, _, _, h.1, h.2, List.getElem?_eq_getElem (by omega), List.getElem?_eq_getElem (by omega)⟩
  · exact ⟨xs, ys, h.1, h.2, by omega⟩
  · obtain ⟨T, x', y', e1, e2, e3, e4, e5⟩ := y
    exact ⟨T, x', y', e1, e2, e3, e4 _ h.1, e5 _ h.2⟩
end
section
variable {P : Program} {w : World} {K : PySem.W.Frag} {mg : Str → Option Value} {base : Heap}
theorem ok_same_up {k : Nat} {S D I : RelH} {wd : Bool} (T : Txt K mg) (sS : Stays S) (sD : Stays D) (G_law_same : FnOk P w K mg base CX0 k T.law_same.f T.law_same.fd ["_law_found", "_law_due"] (RelSp S)) (G_items : FnOk P w K mg base CX0 k T.law_same.f T.law_same.fd ["_law_found", "_law_due"] (RelSp I))
    (hI : wd = true → ∀ (H : Hp) (p q : Addr) (ps qs : List Addr) (kvs lvs : List (Key × V)), H p = some (.lst (ps.map V.ref)) → H q = some (.lst (qs.map V.ref)) → kvs.length ≤ 1000 → Paired (fun (t : Addr) (r : Key × V) => H t = some (.tup [kV r.1, r.2])) ps kvs → Paired (fun (t : Addr) (r : Key × V) => H t = some (.tup [kV r.1, r.2])) qs lvs →
      Paired (fun p q => (p.1 = q.1 ∧ ∃ n, p.1 = Sum.inr n) ∧ D H p.2 q.2) kvs lvs → I H (.ref p) (.ref q)) :
    FnOk P w K mg base CX0 (k + 1) T.law_same.f T.law_same.fd ["_law_found", "_law_due"] (RelSp (Up S D wd)) := by
  refine T.law_same.F.ok sc_law_same (fun vs H Q E h => ?_) (fun cdv A outer s H vs Q E hr h => ?_)
  · obtain ⟨x, y, rfl, _⟩ := h
    rfl
  · obtain ⟨x, y, rfl, hR, k0⟩ := h
    -- slots: 0 _law_found, 1 _law_due, 2 _law_x, 3 _law_y
    refine ⟨_, (pss_cons (ps_if (pt_val (pe_callB call_isiT (by rfl) T.n_isinstance (by decide +kernel) (pa_cons (pv 1) (pa_cons (pe_tup (pa_cons (pe_bltn (v := .ty "list") (by rfl) T.n_list (by decide +kernel) rfl) (pa_cons (pe_bltn (v := .ty "tuple") (by rfl) T.n_tuple (by decide +kernel) rfl) pa_nil))) pa_nil)))) (pss_cons (ps_if (PW.pt (pw_or (pt_cmpR op_ne (pe_callB call_isi (by rfl) T.n_isinstance (by decide +kernel) (pa_cons (pv 0) (pa_cons (pe_bltn (v := .ty "list") (by rfl) T.n_list (by decide +kernel) rfl) pa_nil))) (pe_callB call_isi (by rfl) T.n_isinstance (by decide +kernel) (pa_cons (pv 1) (pa_cons (pe_bltn (v := .ty "list") (by rfl) T.n_list (by decide +kernel) rfl) pa_nil))) (nomark _)) (pw_or1 (pt_cmpR op_ne (pe_callB call_isi (by rfl) T.n_isinstance (by decide +kernel) (pa_cons (pv 0) (pa_cons (pe_bltn (v := .ty "tuple") (by rfl) T.n_tuple (by decide +kernel) rfl) pa_nil))) (pe_callB call_isi (by rfl) T.n_isinstance (by decide +kernel) (pa_cons (pv 1) (pa_cons (pe_bltn (v := .ty "tuple") (by rfl) T.n_tuple (by decide +kernel) rfl) pa_nil))) (nomark _))))) (pss_one (ps_ret pe_bl)) pss_nil)
    (pss_one (ps_ret (pe_and (pe_cmpR op_eq (pe_callB call_len_seq (by rfl) T.n_len (by decide +kernel) (pa_cons (pv 0) pa_nil)) (pe_callB call_len_seq (by rfl) T.n_len (by decide +kernel) (pa_cons (pv 1) pa_nil)) (nomark _)) (pe_one (pe_callB (cr_all rfl) (by rfl) T.n_all (by decide +kernel) (pa_cons (pe_lc (own := [("_law_x", 2), ("_law_y", 3)]) (g := gTup K 2 (gCons (gName 2) (gCons (gName 3) gNil))) (tt := tYes) rfl sc_law_same.nd (RZ.pi_zipA (by rfl) T.n_zip (pa_cons (pv 0) (pa_cons (pv 1) pa_nil))) (blkOk_by (N := N_law_same) (own := [("_law_x", 2), ("_law_y", 3)]) (sc := defScope s_law_same) (by decide +kernel)) (fun _ _ _ _ _ => (pg_tup rfl (pgs_cons (pg_name (i := 2) sc_law_same.nd rfl (Or.inl rfl)) (pgs_cons (pg_name (i := 3) sc_law_same.nd rfl (Or.inl rfl)) pgs_nil)))) (fun _ _ _ _ _ => pts_nil) (fun _ _ _ _ _ => (pe_call G_law_same (hr.mono (Nat.le_refl _)) rfl T.law_same.mgx T.law_same.F.kp T.law_same.b .nil pass0 (pa_cons (pv 2) (pa_cons (pv 3) pa_nil))))) pa_nil))))))) pss_nil)
    (pss_cons (ps_if (pt_val (pe_callB call_isi (by rfl) T.n_isinstance (by decide +kernel) (pa_cons (pv 1) (pa_cons (pe_bltn (v := .ty "dict") (by rfl) T.n_dict (by decide +kernel) rfl) pa_nil)))) (pss_one (ps_ret (pe_and (pe_callB call_isi (by rfl) T.n_isinstance (by decide +kernel) (pa_cons (pv 0) (pa_cons (pe_bltn (v := .ty "dict") (by rfl) T.n_dict (by decide +kernel) rfl) pa_nil))) (pe_one (pe_call G_items (hr.mono (Nat.le_refl _)) rfl T.law_same.mgx T.law_same.F.kp T.law_same.b .nil pass0 (pa_cons (LiI.pe_listItems rfl (pv 0) (by rfl) T.n_list (by decide +kernel)) (pa_cons (LiI.pe_listItems rfl (pv 1) (by rfl) T.n_list (by decide +kernel)) pa_nil))))))) pss_nil)
    (pss_cons (ps_if (pt_val (pe_callB call_isi (by rfl) T.n_isinstance (by decide +kernel) (pa_cons (pv 1) (pa_cons (pe_bltn (v := .ty "int") (by rfl) T.n_int (by decide +kernel) rfl) pa_nil)))) (pss_one (ps_ret (pe_and (pe_callB call_isi (by rfl) T.n_isinstance (by decide +kernel) (pa_cons (pv 0) (pa_cons (pe_bltn (v := .ty "int") (by rfl) T.n_int (by decide +kernel) rfl) pa_nil))) (pe_and (pe_cmpR op_eq (pe_callB call_isi (by rfl) T.n_isinstance (by decide +kernel) (pa_cons (pv 0) (pa_cons (pe_bltn (v := .ty "bool") (by rfl) T.n_bool (by decide +kernel) rfl) pa_nil))) (pe_callB call_isi (by rfl) T.n_isinstance (by decide +kernel) (pa_cons (pv 1) (pa_cons (pe_bltn (v := .ty "bool") (by rfl) T.n_bool (by decide +kernel) rfl) pa_nil))) (nomark _)) (pe_one (pe_cmpR op_eq (pv 0) (pv 1) (nomark _))))))) pss_nil)
    (pss_one (ps_ret (pe_and (pe_not (pe_callB call_isiT (by rfl) T.n_isinstance (by decide +kernel) (pa_cons (pv 0) (pa_cons (pe_tup (pa_cons (pe_bltn (v := .ty "int") (by rfl) T.n_int (by decide +kernel) rfl) (pa_cons (pe_bltn (v := .ty "list") (by rfl) T.n_list (by decide +kernel) rfl) (pa_cons (pe_bltn (v := .ty "tuple") (by rfl) T.n_tuple (by decide +kernel) rfl) (pa_cons (pe_bltn (v := .ty "dict") (by rfl) T.n_dict (by decide +kernel) rfl) pa_nil))))) pa_nil)))) (pe_one (pe_cmpR op_eq (pv 0) (pv 1) (nomark _))))))))), ?_⟩
    rcases hR with hR | hR | hR
    · cases hR with
      | non =>
        have t : TyN K H .non "NoneType" := TyN.non
        refine ⟨_, rfl, (show 2 ≤ sizeLine by decide), fun p hp => ?_⟩
        have s1 : Same H (upd H p (.tup [.ty "list", .ty "tuple"])) := same_new hp
        refine ⟨_, p, _, _, _, _, rfl, upd_same, .cons (.ty _) (.cons (.ty _) .nil), (t.same s1).ty, kit_seq t.m, _, rfl, iteF ?_⟩
        generalize upd H p (.tup [.ty "list", .ty "tuple"]) = H1 at s1 ⊢
        have t1 := t.same s1
        refine ⟨_, rfl, _, _, _, _, _, rfl, .ty _, t1.ty, kit_dict t.m, _, rfl, iteF ?_⟩
        refine ⟨_, rfl, _, _, _, _, _, rfl, .ty _, t1.ty, kit_int t.m, _, rfl, iteF ?_⟩
        refine ⟨_, rfl, (show 4 ≤ sizeLine by decide), fun p2 hp2 => ?_⟩
        refine ⟨_, p2, _, _, _, _, rfl, upd_same, .cons (.ty _) (.cons (.ty _) (.cons (.ty _) (.cons (.ty _) .nil))), (t1.same (same_new hp2)).ty, kit_four (.inl rfl), _, rfl, _, rfl, iteT ⟨_, rfl, _, rfl, rfl, ?_⟩⟩
        rw [decide_eq_true rfl]
        exact k0 _ (s1.trans (same_new hp2))
      | bl b =>
        have t : TyN K H (.bl b) "bool" := TyN.bl
        refine ⟨_, rfl, (show 2 ≤ sizeLine by decide), fun p hp => ?_⟩
        have s1 : Same H (upd H p (.tup [.ty "list", .ty "tuple"])) := same_new hp
        refine ⟨_, p, _, _, _, _, rfl, upd_same, .cons (.ty _) (.cons (.ty _) .nil), (t.same s1).ty, kit_seq t.m, _, rfl, iteF ?_⟩
        generalize upd H p (.tup [.ty "list", .ty "tuple"]) = H1 at s1 ⊢
        have t1 := t.same s1
        refine ⟨_, rfl, _, _, _, _, _, rfl, .ty _, t1.ty, kit_dict t.m, _, rfl, iteF ?_⟩
        refine ⟨_, rfl, _, _, _, _, _, rfl, .ty _, t1.ty, kit_int t.m, _, rfl, iteT ?_⟩
        refine ⟨_, rfl, _, _, _, _, _, rfl, .ty _, t1.ty, kit_int t.m, _, rfl, iteT ?_⟩
        refine ⟨_, rfl, _, _, _, _, _, rfl, .ty _, t1.ty, kit_bool t.m, _, rfl, _, _, _, _, _, rfl, .ty _, t1.ty, kit_bool t.m, rfl, _, rfl, iteT ⟨_, rfl, _, rfl, rfl, ?_⟩⟩
        rw [decide_eq_true rfl]
        exact k0 _ s1
      | int i =>
        have t : TyN K H (.int i) "int" := TyN.int
        refine ⟨_, rfl, (show 2 ≤ sizeLine by decide), fun p hp => ?_⟩
        have s1 : Same H (upd H p (.tup [.ty "list", .ty "tuple"])) := same_new hp
        refine ⟨_, p, _, _, _, _, rfl, upd_same, .cons (.ty _) (.cons (.ty _) .nil), (t.same s1).ty, kit_seq t.m, _, rfl, iteF ?_⟩
        generalize upd H p (.tup [.ty "list", .ty "tuple"]) = H1 at s1 ⊢
        have t1 := t.same s1
        refine ⟨_, rfl, _, _, _, _, _, rfl, .ty _, t1.ty, kit_dict t.m, _, rfl, iteF ?_⟩
        refine ⟨_, rfl, _, _, _, _, _, rfl, .ty _, t1.ty, kit_int t.m, _, rfl, iteT ?_⟩
        refine ⟨_, rfl, _, _, _, _, _, rfl, .ty _, t1.ty, kit_int t.m, _, rfl, iteT ?_⟩
        refine ⟨_, rfl, _, _, _, _, _, rfl, .ty _, t1.ty, kit_bool t.m, _, rfl, _, _, _, _, _, rfl, .ty _, t1.ty, kit_bool t.m, rfl, _, rfl, iteT ⟨_, rfl, _, rfl, rfl, ?_⟩⟩
        rw [decide_eq_true rfl]
        exact k0 _ s1
      | str z =>
        have t : TyN K H (.str z) "str" := TyN.str
        refine ⟨_, rfl, (show 2 ≤ sizeLine by decide), fun p hp => ?_⟩
        have s1 : Same H (upd H p (.tup [.ty "list", .ty "tuple"])) := same_new hp
        refine ⟨_, p, _, _, _, _, rfl, upd_same, .cons (.ty _) (.cons (.ty _) .nil), (t.same s1).ty, kit_seq t.m, _, rfl, iteF ?_⟩
        generalize upd H p (.tup [.ty "list", .ty "tuple"]) = H1 at s1 ⊢
        have t1 := t.same s1
        refine ⟨_, rfl, _, _, _, _, _, rfl, .ty _, t1.ty, kit_dict t.m, _, rfl, iteF ?_⟩
        refine ⟨_, rfl, _, _, _, _, _, rfl, .ty _, t1.ty, kit_int t.m, _, rfl, iteF ?_⟩
        refine ⟨_, rfl, (show 4 ≤ sizeLine by decide), fun p2 hp2 => ?_⟩
        refine ⟨_, p2, _, _, _, _, rfl, upd_same, .cons (.ty _) (.cons (.ty _) (.cons (.ty _) (.cons (.ty _) .nil))), (t1.same (same_new hp2)).ty, kit_four (.inr rfl), _, rfl, _, rfl, iteT ⟨_, rfl, _, rfl, rfl, ?_⟩⟩
        rw [decide_eq_true rfl]
        exact k0 _ (s1.trans (same_new hp2))
    · -- two lists, two tuples
      obtain ⟨a, b, xs, ys, kd, rfl, rfl, ha, hb, lz, hp⟩ : ∃ (a b : Addr) (xs ys : List V) (kd : Bool), x = .ref a ∧ y = .ref b ∧ (if kd = true then H a = some (.lst xs) else H a = some (.tup xs)) ∧ (if kd = true then H b = some (.lst ys) else H b = some (.tup ys)) ∧ xs.length ≤ 1000 ∧ Paired (S H) xs ys := by
        cases hR with
        | lst ha hb z p => exact ⟨_, _, _, _, true, rfl, rfl, ha, hb, z, p⟩
        | tup ha hb z p => exact ⟨_, _, _, _, false, rfl, rfl, ha, hb, z, p⟩
      have len : xs.length = ys.length := Paired.length hp
      have tx : TyN K H (.ref a) (if kd = true then "list" else "tuple") := by
        cases kd with
        | true => exact TyN.lst ha
        | false => exact TyN.tup ha
      have ty : TyN K H (.ref b) (if kd = true then "list" else "tuple") := by
        cases kd with
        | true => exact TyN.lst hb
        | false => exact TyN.tup hb
      refine ⟨_, rfl, (show 2 ≤ sizeLine by decide), fun p hp2 => ?_⟩
      have s1 : Same H (upd H p (.tup [.ty "list", .ty "tuple"])) := same_new hp2
      refine ⟨_, p, _, _, _, _, rfl, upd_same, .cons (.ty _) (.cons (.ty _) .nil), (ty.same s1).ty, kit_seq ty.m, true, ?_, iteT ?_⟩
      · cases kd <;> rfl
      generalize upd H p (.tup [.ty "list", .ty "tuple"]) = H1 at s1 ⊢
      have tx1 := tx.same s1
      have ty1 := ty.same s1
      refine ⟨_, rfl, _, _, _, _, _, rfl, .ty _, tx1.ty, kit_list tx.m, _, rfl, _, _, _, _, _, rfl, .ty _, ty1.ty, kit_list ty.m, rfl, false, ?_, iteF ?_⟩
      · rw [decide_eq_true rfl] <;> rfl
      refine ⟨_, rfl, _, _, _, _, _, rfl, .ty _, tx1.ty, kit_tuple tx.m, _, rfl, _, _, _, _, _, rfl, .ty _, ty1.ty, kit_tuple ty.m, rfl, false, ?_, iteF ?_⟩
      · rw [decide_eq_true rfl] <;> rfl
      have sa : Seq H1 a xs := by
        cases kd with
        | true => exact .inl (s1 _ _ ha)
        | false => exact .inr (s1 _ _ ha)
      have sb : Seq H1 b ys := by
        cases kd with
        | true => exact .inl (s1 _ _ hb)
        | false => exact .inr (s1 _ _ hb)
      refine ⟨_, rfl, _, _, rfl, sa.or, _, rfl, _, _, rfl, sb.or, rfl, true, ?_, iteT ?_⟩
      · rw [len, decide_eq_true rfl]
      have fin : ∀ {J : It} {G : Hp → Prop}, Walk J xs.length G (YPair (fun i => xs[i]?) (fun i => ys[i]?)) → (∀ H', Same H1 H' → G H') → ∀ D, H1 D = none → ∃ W : Nat → Nat → Hp → Prop, (∃ m, W 0 m (upd H1 D (.lst []))) ∧ ∀ i m H, W i m H →
          (J.stop i H ∧ (∃ (c : Addr) (bs : List Bool), [V.ref D] = [.ref c] ∧ SqL K H c (bs.map V.bl) ∧ Q (.bl (bs.all id)) H)) ∨ (J.go i H ∧ ∃ Nx : Hp → Prop, (∀ H', Nx H' → ∃ m', m' < m ∧ W (i + 1) m' H') ∧
          ∀ x H', J.yld i H x H' → gTup K 2 (gCons (gName 2) (gCons (gName 3) gNil)) x (wipe (L2.start N_law_same [.ref a, .ref b]) [2, 3]) H' fun σ2 H2 => wipe σ2 [2, 3] = wipe (L2.start N_law_same [.ref a, .ref b]) [2, 3] ∧ tYes σ2 H2 fun b H3 => if b = true then tCall (RelSp S) [] E0 (tCons (tVar 2) (tCons (tVar 3) tNil)) σ2 H3 fun y H4 => ∃ acc, H4 D = some (.lst acc) ∧ acc.length < sizeLine ∧ Nx (upd H4 D (.lst (acc ++ [y]))) else Nx H3) := by
        intro J G wk hG D hD
        refine lcZ wk noZ (fun _ _ => True) (fun _ _ v => v = .bl true) hD rfl (by omega) (fun _ _ _ _ _ _ _ r => r) (fun _ _ _ _ => trivial) (fun H' e => hG H' e) trivial ?_ ?_
        · rintro i v H3 H4 acc Q2 hi s3 _ h3 ⟨t, x1, y1, rfl, ht, rfl, e1, e2⟩ q
          refine ⟨t, _, rfl, SqT.of upd_same, rfl, _, _, rfl, _, _, rfl, rfl, rfl, ?_⟩
          have s4 : Same H3 (upd H3 t (.tup [x1, y1])) := same_new ht
          exact ⟨_, rfl, _, rfl, x1, y1, rfl, sS _ _ _ _ ((s1.trans s3).trans s4) (paired_at hp e1 e2), fun H5 s5 => q _ _ (s4.trans s5) trivial rfl⟩
        · intro H3 vs s3 _ h3 lv rel
          have ev : vs = (List.replicate xs.length true).map V.bl := by
            refine List.ext_getElem? fun i => ?_
            by_cases hi : i < vs.length
            · rw [List.getElem?_eq_getElem hi, rel i _ (List.getElem?_eq_getElem hi), List.getElem?_map, List.getElem?_replicate, if_pos (by omega)]
              rfl
            · rw [List.getElem?_eq_none (by omega), List.getElem?_eq_none (by rw [List.length_map, List.length_replicate]; omega)]
          subst ev
          refine ⟨D, _, rfl, SqL.of h3, ?_⟩
          have at_ : (List.replicate xs.length true).all id = true := List.all_eq_true.mpr fun b hb => by rw [(List.mem_replicate.mp hb).2] <;> rfl
          rw [at_]
          exact k0 _ (s1.trans s3)
      cases kd with
      | true =>
        have a1 := s1 _ _ ha
        have b1 := s1 _ _ hb
        refine ⟨_, rfl, _, rfl, a, b, xs, ys, rfl, .inl ⟨SqL.of a1, SqL.of b1, fun D hD => ?_⟩⟩
        exact fin (walk_zip (by omega)) (fun H' e => ⟨SqL.of (e _ _ a1), SqL.of (e _ _ b1)⟩) D hD
      | false =>
        have a1 := s1 _ _ ha
        have b1 := s1 _ _ hb
        refine ⟨_, rfl, _, rfl, a, b, xs, ys, rfl, .inr ⟨SqT.of a1, SqT.of b1, fun D hD => ?_⟩⟩
        exact fin (walk_zipT (by omega)) (fun H' e => ⟨SqT.of (e _ _ a1), SqT.of (e _ _ b1)⟩) D hD
    · -- two dicts
      obtain ⟨hwd, hR⟩ := hR
      cases hR with
      | mk ha hb lz hp =>
        rename_i a b kvs lvs
        have tx : TyN K H (.ref a) "dict" := TyN.dK ha
        have ty : TyN K H (.ref b) "dict" := TyN.dK hb
        refine ⟨_, rfl, (show 2 ≤ sizeLine by decide), fun p hp2 => ?_⟩
        have s1 : Same H (upd H p (.tup [.ty "list", .ty "tuple"])) := same_new hp2
        refine ⟨_, p, _, _, _, _, rfl, upd_same, .cons (.ty _) (.cons (.ty _) .nil), (ty.same s1).ty, kit_seq ty.m, _, rfl, iteF ?_⟩
        generalize upd H p (.tup [.ty "list", .ty "tuple"]) = H1 at s1 ⊢
        have tx1 := tx.same s1
        have ty1 := ty.same s1
        refine ⟨_, rfl, _, _, _, _, _, rfl, .ty _, ty1.ty, kit_dict ty.m, _, rfl, iteT ?_⟩
        refine ⟨_, rfl, _, _, _, _, _, rfl, .ty _, tx1.ty, kit_dict tx.m, _, rfl, iteT ?_⟩
        refine ⟨_, rfl, a, kvs, rfl, s1 _ _ ha, fun H2 p2 ts s2 f2 ft2 np2 e2 q2 => ?_⟩
        have s2' : Same H1 H2 := s2
        refine ⟨_, rfl, b, lvs, rfl, s2' _ _ (s1 _ _ hb), fun H3 p3 us s3 f3 ft3 np3 e3 q3 => ?_⟩
        have s3' : Same H2 H3 := s3
        refine ⟨_, _, rfl, hI hwd H3 p2 p3 ts us kvs lvs (s3' _ _ e2) e3 lz (paired_same (fun _ _ z => s3' _ _ z) q2) q3 (paired_same (fun _ _ z => ⟨z.1, sD _ _ _ _ ((s1.trans s2').trans s3') z.2⟩) hp), fun H4 s4 => k0 _ (((s1.trans s2').trans s3').trans s4)⟩
theorem ok_same_no (T : Txt K mg) : FnOk P w K mg base CX0 1 T.law_same.f T.law_same.fd ["_law_found", "_law_due"] (RelSp NoR) := by
  refine fn_never.imp (sp := fun _ _ _ _ => False) fun vs H Q E h => ?_
  obtain ⟨_, _, _, z, _⟩ := h
  exact z
/-- alike things, n levels deep -/
def Lv : Nat → RelH
  | 0 => Up NoR NoR false
  | n + 1 => Up (Lv n) (Lv n) true
theorem stays_lv : ∀ n, Stays (Lv n)
  | 0 => stays_up stays_no stays_no
  | n + 1 => stays_up (stays_lv n) (stays_lv n)
theorem Lv.sc {n : Nat} {H : Hp} {x y : V} (h : Sc x y) : Lv n H x y := by
  cases n with
  | zero => exact .inl h
  | succ n => exact .inl h
theorem no_wd {A : Prop} (h : false = true) : A := Bool.noConfusion h
theorem ok_same (T : Txt K mg) : ∀ n, FnOk P w K mg base CX0 (2 + 3 * n) T.law_same.f T.law_same.fd ["_law_found", "_law_due"] (RelSp (Lv n))
  | 0 => ok_same_up T stays_no stays_no (ok_same_no T) (ok_same_no T) no_wd
  | n + 1 => by
    have A : FnOk P w K mg base CX0 (2 + 3 * n) T.law_same.f T.law_same.fd ["_law_found", "_law_due"] (RelSp (Lv n)) := ok_same T n
    have Z : ∀ j, FnOk P w K mg base CX0 (1 + j) T.law_same.f T.law_same.fd ["_law_found", "_law_due"] (RelSp NoR) := fun j => (ok_same_no T).mono (by omega)
    have B : FnOk P w K mg base CX0 (2 + 3 * n + 1) T.law_same.f T.law_same.fd ["_law_found", "_law_due"] (RelSp (Up (Lv n) NoR false)) := ok_same_up (k := 2 + 3 * n) T (stays_lv n) stays_no A ((Z (1 + 3 * n)).mono (by omega)) no_wd
    have C : FnOk P w K mg base CX0 (2 + 3 * n + 2) T.law_same.f T.law_same.fd ["_law_found", "_law_due"] (RelSp (Up (Up (Lv n) NoR false) NoR false)) := ok_same_up (k := 2 + 3 * n + 1) T (stays_up (stays_lv n) stays_no) stays_no B ((Z (2 + 3 * n)).mono (by omega)) no_wd
    refine ok_same_up (k := 2 + 3 * n + 2) T (stays_lv n) (stays_lv n) (A.mono (by omega)) C fun _ H p q ps qs kvs lvs hp hq z h1 h2 h3 => ?_
    refine .inr (.inl (.lst hp hq (by rw [List.length_map, Paired.length h1]; exact z) ?_))
    clear hp hq z
    induction h3 generalizing ps qs with
    | nil =>
      cases h1
      cases h2
      exact .nil
    | cons r t ih =>
      cases h1 with
      | cons r1 t1 =>
        cases h2 with
        | cons r2 t2 =>
          refine .cons (.inr (.inl (.tup r1 r2 (show 2 ≤ 1000 by decide) (.cons ?_ (.cons r.2 .nil))))) (ih _ _ t1 t2)
          obtain ⟨m, em⟩ := r.1.2
          rw [← r.1.1, em]
          exact Lv.sc (.str m)
end
end K80
namespace K80
open PySem PySem.Spec PyProof.Rows L2
theorem lv_up : ∀ {n : Nat} {H : Hp} {x y : V}, Lv n H x y → Lv (n + 1) H x y
  | 0, H, x, y, h => by
    rcases h with h | h | h
    · exact .inl h
    · cases h with
      | lst ha hb z p =>
        cases p with
        | nil => exact .inr (.inl (.lst ha hb z .nil))
        | cons r _ => exact r.elim
      | tup ha hb z p =>
        cases p with
        | nil => exact .inr (.inl (.tup ha hb z .nil))
        | cons r _ => exact r.elim
    · exact no_wd h.1
  | n + 1, H, x, y, h => by
    rcases h with h | h | h
    · exact .inl h
    · cases h with
      | lst ha hb z p => exact .inr (.inl (.lst ha hb z (paired_same (fun _ _ q => lv_up q) p)))
      | tup ha hb z p => exact .inr (.inl (.tup ha hb z (paired_same (fun _ _ q => lv_up q) p)))
    · obtain ⟨_, h⟩ := h
      cases h with
      | mk ha hb z p => exact .inr (.inr ⟨rfl, .mk ha hb z (paired_same (fun _ _ q => ⟨q.1, lv_up q.2⟩) p)⟩)
theorem lv_le {n m : Nat} {H : Hp} {x y : V} (h : Lv n H x y) (le : n ≤ m) : Lv m H x y := by
  induction le with
  | refl => exact h
  | step _ ih => exact lv_up ih
theorem paired_self {α : Type} {F : α → α → Prop} : ∀ {xs : List α}, (∀ x ∈ xs, F x x) → Paired F xs xs
  | [], _ => .nil
  | x :: xs, h => .cons (h x List.mem_cons_self) (paired_self fun y hy => h y (List.mem_cons_of_mem _ hy))
theorem lv_seq {n : Nat} {H : Hp} {a : Addr} {xs : List V} (h : Seq H a xs) (z : xs.length ≤ 1000) (hx : ∀ x ∈ xs, Lv n H x x) : Lv (n + 1) H (.ref a) (.ref a) := by
  rcases h with h | h
  · exact .inr (.inl (.lst h h z (paired_self hx)))
  · exact .inr (.inl (.tup h h z (paired_self hx)))
theorem lv_dict {n : Nat} {H : Hp} {a : Addr} {kvs : List (Key × V)} (h : H a = some (.dK kvs)) (z : kvs.length ≤ 1000) (hk : ∀ p ∈ kvs, (∃ m, p.1 = Sum.inr m) ∧ Lv n H p.2 p.2) : Lv (n + 1) H (.ref a) (.ref a) :=
  .inr (.inr ⟨rfl, .mk h h z (paired_self fun p hp => ⟨⟨rfl, (hk p hp).1⟩, (hk p hp).2⟩)⟩)
theorem lv_strs {n : Nat} {H : Hp} {N : List Str} : ∀ x ∈ N.map V.str, Lv n H x x := fun x hx => by
  obtain ⟨z, _, rfl⟩ := List.mem_map.mp hx
  exact Lv.sc (.str z)
theorem lv_ints {n : Nat} {H : Hp} {ns : List Int} : ∀ x ∈ ns.map V.int, Lv n H x x := fun x hx => by
  obtain ⟨z, _, rfl⟩ := List.mem_map.mp hx
  exact Lv.sc (.int z)
theorem lv_pair {n : Nat} {H : Hp} {r : Addr} {x y : Str} (h : H r = some (.tup [.str x, .str y])) : Lv (n + 1) H (.ref r) (.ref r) :=
  lv_seq (xs := [x, y].map V.str) (.inr h) (show 2 ≤ 1000 by decide) lv_strs
/-! ### the odd things -/
structure OddV (K : PySem.W.Frag) (H : Hp) (y : V) : Prop where
  ty : ∃ n, TyN K H y n
  lv : Lv 4 H y y
structure OddE (K : PySem.W.Frag) (N : List Str) (R : List Rd2) (H : Hp) (y : V) : Prop where
  ev : ∃ o, EvArg K H y o ∧ knownEv N R o = none
  lv : Lv 4 H y y
structure OddH (K : PySem.W.Frag) (N : List Str) (H : Hp) (y : V) : Prop where
  hp : ∃ oh, HpArg K H y oh ∧ ¬ heapsOk N oh
  lv : Lv 4 H y y
theorem OddV.same {K : PySem.W.Frag} {H H' : Hp} {y : V} (e : Same H H') (h : OddV K H y) : OddV K H' y := ⟨let ⟨n, t⟩ := h.ty; ⟨n, t.same e⟩, stays_lv 4 _ _ _ _ e h.lv⟩
theorem OddE.same {K : PySem.W.Frag} {N : List Str} {R : List Rd2} {H H' : Hp} {y : V} (e : Same H H') (h : OddE K N R H y) : OddE K N R H' y := ⟨let ⟨o, a, b⟩ := h.ev; ⟨o, a.same e, b⟩, stays_lv 4 _ _ _ _ e h.lv⟩
theorem OddH.same {K : PySem.W.Frag} {N : List Str} {H H' : Hp} {y : V} (e : Same H H') (h : OddH K N H y) : OddH K N H' y := ⟨let ⟨o, a, b⟩ := h.hp; ⟨o, a.same e, b⟩, stays_lv 4 _ _ _ _ e h.lv⟩
def spOddV (K : PySem.W.Frag) : Sp := fun vs H Q _ => ∃ (p : Addr) (N : List Str) (R : List Rd2), vs = [.ref p] ∧ SomeAt H p N R ∧ N.length ≤ 60 ∧ R.length ≤ 60 ∧ ∀ (H' : Hp) (l : Addr) (ys : List V), Same H H' → H' l = some (.lst ys) → (∀ y ∈ ys, OddV K H' y) → Q (.ref l) H'
def spOddE (K : PySem.W.Frag) : Sp := fun vs H Q _ => ∃ (p : Addr) (N : List Str) (R : List Rd2), vs = [.ref p] ∧ SomeAt H p N R ∧ SomeOk N R ∧ ∀ (H' : Hp) (l : Addr) (ys : List V), Same H H' → H' l = some (.lst ys) → (∀ y ∈ ys, OddE K N R H' y) → Q (.ref l) H'
def spOddH (K : PySem.W.Frag) : Sp := fun vs H Q _ => ∃ (d : Addr) (N : List Str), vs = [.ref d] ∧ H d = some (.dK (dOf N fun _ => .int 3)) ∧ N.Nodup ∧ 1 ≤ N.length ∧ N.length ≤ 60 ∧ (∀ n ∈ N, n ≠ "nobody") ∧ ∀ (H' : Hp) (l : Addr) (ys : List V), Same H H' → H' l = some (.lst ys) → (∀ y ∈ ys, OddH K N H' y) → Q (.ref l) H'
section
variable {P : Program} {w : World} {K : PySem.W.Frag} {mg : Str → Option Value} {base : Heap}
theorem some_lv {H : Hp} {p : Addr} {N : List Str} {R : List Rd2} (h : SomeAt H p N R) (n1 : N.length ≤ 60) (n2 : R.length ≤ 60) : Lv 4 H (.ref p) (.ref p) := by
  obtain ⟨a, b, d, us, hs, h1, h2, h3, h4, h5, h6, h7⟩ := h.ex
  have lu : us.length = R.length := Paired.length h4
  refine lv_seq (.inr h1) (show 3 ≤ 1000 by decide) fun x hx => ?_
  simp only [List.mem_cons, List.mem_nil_iff, or_false] at hx
  rcases hx with rfl | rfl | rfl
  · exact lv_le (lv_seq (n := 0) (.inl h2) (by rw [List.length_map]; omega) lv_strs) (by decide)
  · refine lv_le (lv_seq (n := 1) (.inl h3) (by rw [List.length_map]; omega) fun x hx => ?_) (by decide)
    obtain ⟨r, hr, rfl⟩ := List.mem_map.mp hx
    obtain ⟨i, hi, ei⟩ := List.mem_iff_getElem.mp hr
    have hri : us[i]? = some r := by rw [← ei]; exact List.getElem?_eq_getElem hi
    obtain ⟨ab, hab⟩ : ∃ ab, R[i]? = some ab := ⟨_, List.getElem?_eq_getElem (by omega)⟩
    exact lv_pair (paired_at h4 hri hab)
  · exact lv_le (lv_seq (n := 0) (.inl h5) (by rw [List.length_map]; omega) lv_ints) (by decide)
theorem ok_odd_valleys (T : Txt K mg) : FnOk P w K mg base CX0 1 T.law_f_odd_valleys.f T.law_f_odd_valleys.fd ["_law_some"] (spOddV K) := by
  refine T.law_f_odd_valleys.F.ok sc_law_f_odd_valleys (fun vs H Q E h => ?_) (fun cdv A outer s H vs Q E hr h => ?_)
  · obtain ⟨p, N, R, rfl, _⟩ := h
    rfl
  · obtain ⟨p, N, R, rfl, hA, n1, n2, k⟩ := h
    -- slots: 0 _law_some
    refine ⟨_, (pss_one (ps_ret (pe_lst (pa_cons pe_non (pa_cons pe_int (pa_cons pe_str (pa_cons (pe_lst pa_nil) (pa_cons pe_dnewK (pa_cons pe_bl (pa_cons (pe_callTy call_list_of (by rfl) T.n_list (by decide +kernel) (pa_cons (pe_ix ix_tup (pv 0) pe_int (fun _ _ => rfl)) pa_nil)) (pa_cons (pe_callTy call_tuple_of (by rfl) T.n_tuple (by decide +kernel) (pa_cons (pv 0) pa_nil)) pa_nil))))))))))), ?_⟩
    have hA0 := hA
    obtain ⟨a, b, d, us, hs, h1, h2, h3, h4, h5, h6, h7⟩ := hA.ex
    refine ⟨show 0 ≤ sizeLine by decide, fun l1 e1 => ?_⟩
    have s1 : Same H (upd H l1 (.lst [])) := same_new e1
    have q1 : upd H l1 (.lst []) l1 = some (.lst []) := upd_same
    generalize upd H l1 (.lst []) = H1 at s1 q1 ⊢
    refine fun l2 e2 => ?_
    have s2 : Same H1 (upd H1 l2 (.dK [])) := same_new e2
    have q2 : upd H1 l2 (.dK []) l2 = some (.dK []) := upd_same
    generalize upd H1 l2 (.dK []) = H2 at s2 q2 ⊢
    refine ⟨_, rfl, p, _, _, _, rfl, rfl, SqT.of (s2 _ _ (s1 _ _ h1)), atI_nat (j := 0) rfl, a, _, rfl, .inl (SqL.of (s2 _ _ (s1 _ _ h2))), fun l3 e3 => ?_⟩
    have s3 : Same H2 (upd H2 l3 (.lst (N.map V.str))) := same_new e3
    have q3 : upd H2 l3 (.lst (N.map V.str)) l3 = some (.lst (N.map V.str)) := upd_same
    generalize upd H2 l3 (.lst (N.map V.str)) = H3 at s3 q3 ⊢
    have sH : Same H H3 := (s1.trans s2).trans s3
    refine ⟨_, rfl, p, _, rfl, .inr ⟨SqT.of (sH _ _ h1), show 8 ≤ sizeLine by decide, fun l e => ?_⟩⟩
    generalize eH : upd H3 l (HO.lst _) = H4
    have s4 : Same H3 H4 := by rw [← eH]; exact same_new e
    have q4 : H4 l = some (.lst [.non, .int 5, .str "ab", .ref l1, .ref l2, .bl true, .ref l3, .ref p]) := by rw [← eH]; exact upd_same
    clear eH
    refine k H4 l _ (sH.trans s4) q4 fun y hy => ?_
    have c1 := s4 _ _ (s3 _ _ (s2 _ _ q1))
    have c2 := s4 _ _ (s3 _ _ q2)
    have c3 := s4 _ _ q3
    simp only [List.mem_cons, List.mem_nil_iff, or_false] at hy
    rcases hy with rfl | rfl | rfl | rfl | rfl | rfl | rfl | rfl
    · exact ⟨⟨_, TyN.non⟩, Lv.sc .non⟩
    · exact ⟨⟨_, TyN.int⟩, Lv.sc (.int _)⟩
    · exact ⟨⟨_, TyN.str⟩, Lv.sc (.str _)⟩
    · exact ⟨⟨_, TyN.lst c1⟩, lv_seq (.inl c1) (by decide) fun x hx => by cases hx⟩
    · exact ⟨⟨_, TyN.dK c2⟩, lv_dict c2 (by decide) fun x hx => by cases hx⟩
    · exact ⟨⟨_, TyN.bl⟩, Lv.sc (.bl _)⟩
    · exact ⟨⟨_, TyN.lst c3⟩, lv_seq (.inl c3) (by rw [List.length_map]; omega) lv_strs⟩
    · exact ⟨⟨_, TyN.tup (s4 _ _ (sH _ _ h1))⟩, some_lv (hA0.same (sH.trans s4)) n1 n2⟩
end
end K80
namespace K80
open PySem PySem.Spec PyProof.Rows L2
theorem cut_tail {xs : List V} : cutV xs (some 1) none = xs.drop 1 := by
  unfold cutV HT.sIx
  cases xs with
  | nil => rfl
  | cons x xs => simp
theorem cut_init {xs : List V} : cutV xs none (some (-1)) = xs.take (xs.length - 1) := by
  unfold cutV HT.sIx
  cases xs with
  | nil => rfl
  | cons x xs =>
    simp
    try omega
theorem cut_one {xs : List V} : cutV xs none (some 1) = xs.take 1 := by
  unfold cutV HT.sIx
  cases xs with
  | nil => rfl
  | cons x xs =>
    simp
    try omega
theorem paired_append {α β : Type} {F : α → β → Prop} : ∀ {xs xs2 : List α} {ys ys2 : List β}, Paired F xs ys → Paired F xs2 ys2 → Paired F (xs ++ xs2) (ys ++ ys2)
  | _, _, _, _, .nil, h => h
  | _, _, _, _, .cons r t, h => .cons r (paired_append t h)
theorem paired_take {α β : Type} {F : α → β → Prop} : ∀ {xs : List α} {ys : List β} (n : Nat), Paired F xs ys → Paired F (xs.take n) (ys.take n)
  | _, _, 0, _ => .nil
  | _, _, _ + 1, .nil => .nil
  | _, _, n + 1, .cons r t => .cons r (paired_take n t)
theorem paired_drop {α β : Type} {F : α → β → Prop} : ∀ {xs : List α} {ys : List β} (n : Nat), Paired F xs ys → Paired F (xs.drop n) (ys.drop n)
  | _, _, 0, h => h
  | _, _, _ + 1, .nil => .nil
  | _, _, n + 1, .cons r t => paired_drop n t
/-- a road within an odd evening -/
structure Item (K : PySem.W.Frag) (H : Hp) (v : V) (o : Option Rd2) : Prop where
  a : RoadArg K H v o
  l : Lv 3 H v v
theorem Item.same {K : PySem.W.Frag} {H H' : Hp} {v : V} {o : Option Rd2} (e : Same H H') (h : Item K H v o) : Item K H' v o := ⟨h.a.same e, stays_lv 3 _ _ _ _ e h.l⟩
theorem item_non {K : PySem.W.Frag} {H : Hp} : Item K H .non none := ⟨.no TyN.non rfl, Lv.sc .non⟩
theorem item_str {K : PySem.W.Frag} {H : Hp} {z : Str} : Item K H (.str z) none := ⟨.no TyN.str rfl, Lv.sc (.str z)⟩
theorem item_rd {K : PySem.W.Frag} {H : Hp} {r : Addr} {ab : Rd2} (h : H r = some (.tup [.str ab.1, .str ab.2])) : Item K H (.ref r) (some ab) := ⟨.two (.inr h), lv_le (lv_pair (n := 0) h) (by decide)⟩
theorem item_four {K : PySem.W.Frag} {H : Hp} {r : Addr} {a b c d : Str} (h : H r = some (.tup [.str a, .str b, .str c, .str d])) : Item K H (.ref r) none :=
  ⟨.len (.inr h) (show 4 ≠ 2 by decide), lv_le (lv_seq (n := 0) (xs := [a, b, c, d].map V.str) (.inr h) (show 4 ≤ 1000 by decide) lv_strs) (by decide)⟩
theorem odd_seq {K : PySem.W.Frag} {N : List Str} {R : List Rd2} {H : Hp} {a : Addr} {xs : List V} {os : List (Option Rd2)} (h : H a = some (.lst xs)) (z : xs.length ≤ 1000) (p : Paired (Item K H) xs os) (k : knownEv N R (some os) = none) : OddE K N R H (.ref a) := by
  refine ⟨⟨some os, .seq (.inl h) z (paired_same (fun _ _ q => q.a) p), k⟩, lv_seq (.inl h) z fun x hx => ?_⟩
  obtain ⟨i, hi, ei⟩ := List.mem_iff_getElem.mp hx
  have l := Paired.length p
  have hxi : xs[i]? = some x := by rw [← ei]; exact List.getElem?_eq_getElem hi
  exact (paired_at p hxi (List.getElem?_eq_getElem (by omega))).l
theorem known_len {N : List Str} {R : List Rd2} {os : List (Option Rd2)} (h : os.length ≠ R.length) : knownEv N R (some os) = none := if_neg fun z => h z.1
theorem known_bad {N : List Str} {R : List Rd2} {os : List (Option Rd2)} {o : Option Rd2} (h : o ∈ os) (e : roadIn N R o = none) : knownEv N R (some os) = none := if_neg fun z => z.2.1 o h e
theorem known_dup {N : List Str} {R : List Rd2} {os : List (Option Rd2)} {o : Option Rd2} {x : Rd2} (h : x ∈ os.filterMap (roadIn N R)) (e : roadIn N R o = some x) : knownEv N R (some (os ++ [o])) = none := if_neg fun z => by
  have nd := z.2.2
  rw [List.filterMap_append] at nd
  refine (List.nodup_append.mp nd).2.2 x h x ?_ rfl
  rw [List.filterMap_cons, e]
  exact List.mem_cons_self
theorem rds_ne (R : List Rd2) : (!PyData.eqv (.list ((R.map some).map rdD)) (.list [])) = decide (R ≠ []) := by
  cases R with
  | nil => simp [PyData.eqv, PyData.eqvAll]
  | cons n ns => simp [PyData.eqv, PyData.eqvAll]
section
variable {P : Program} {w : World} {K : PySem.W.Frag} {mg : Str → Option Value} {base : Heap}
theorem ok_odd_evenings (T : Txt K mg) : FnOk P w K mg base CX0 1 T.law_f_odd_evenings.f T.law_f_odd_evenings.fd ["_law_some"] (spOddE K) := by
  refine T.law_f_odd_evenings.F.ok sc_law_f_odd_evenings (fun vs H Q E h => ?_) (fun cdv A outer s H vs Q E hr h => ?_)
  · obtain ⟨p, N, R, rfl, _⟩ := h
    rfl
  · obtain ⟨p, N, R, rfl, hA, ok, k⟩ := h
    -- slots: 0 _law_some, 1 _law_roads, 2 _law_found
    refine ⟨_, (pss_cons (ps_set (i := 1) sc_law_f_odd_evenings.nd rfl (Or.inl rfl) (pe_callTy call_list_of (by rfl) T.n_list (by decide +kernel) (pa_cons (pe_ix ix_tup (pv 0) pe_int (fun _ _ => rfl)) pa_nil)))
    (pss_cons (ps_set (i := 2) sc_law_f_odd_evenings.nd rfl (Or.inl rfl) (pe_lst (pa_cons pe_non (pa_cons pe_int (pa_cons pe_str (pa_cons pe_dnewK (pa_cons pe_bl (pa_cons (pe_op op_cat (pv 1) (pe_lst (pa_cons pe_non pa_nil))) (pa_cons (pe_op op_cat (pe_op op_cat (pv 1) (pe_slice sl_list (pv 1) po_none (po_some pe_int))) (pe_lst (pa_cons (pe_tup (pa_cons pe_str (pa_cons pe_str pa_nil))) pa_nil))) (pa_cons (pe_op op_cat (pe_lst (pa_cons pe_non pa_nil)) (pv 1)) pa_nil))))))))))
    (pss_cons (ps_if (pt_cmpR (op_neD (dp_of64 hr)) (pv 1) (pe_lst pa_nil) (nomark _)) (pss_one (ps_expr (pe_bm PySem.F.plainAttrs_list PySem.F.slot_list_extend PySem.F.type_list_extend mt_extend (pv 2) (pa_cons (pe_lst (pa_cons (pe_lst pa_nil) (pa_cons (pe_slice sl_list (pv 1) (po_some pe_int) po_none) (pa_cons (pe_op op_cat (pe_slice sl_list (pv 1) po_none (po_some (pe_un un_neg pe_int))) (pe_lst (pa_cons pe_non pa_nil))) (pa_cons (pe_op op_cat (pe_slice sl_list (pv 1) po_none (po_some (pe_un un_neg pe_int))) (pe_lst (pa_cons (pe_tup (pa_cons (pe_ix ix_tup (pe_ix ix_list (pv 1) (pe_un un_neg pe_int) (fun _ _ => rfl)) pe_int (fun _ _ => rfl)) (pa_cons pe_str pa_nil))) pa_nil))) (pa_cons (pe_op op_cat (pe_slice sl_list (pv 1) po_none (po_some (pe_un un_neg pe_int))) (pe_lst (pa_cons pe_str pa_nil))) pa_nil)))))) pa_nil)))) pss_nil)
    (pss_cons (ps_if (pt_cmpR op_gt (pe_callB call_len_seq (by rfl) T.n_len (by decide +kernel) (pa_cons (pv 1) pa_nil)) pe_int (nomark _)) (pss_one (ps_expr (pe_bm PySem.F.plainAttrs_list PySem.F.slot_list_extend PySem.F.type_list_extend mt_extend (pv 2) (pa_cons (pe_lst (pa_cons (pe_op op_cat (pe_slice sl_list (pv 1) po_none (po_some (pe_un un_neg pe_int))) (pe_slice sl_list (pv 1) po_none (po_some pe_int))) (pa_cons (pe_op op_cat (pe_slice sl_list (pv 1) po_none (po_some (pe_un un_neg pe_int))) (pe_lst (pa_cons (pe_revP (pe_ix ix_list (pv 1) pe_int (fun _ _ => rfl))) pa_nil))) (pa_cons (pe_op op_cat (pe_lst (pa_cons (pe_op op_catA (pe_ix ix_list (pv 1) pe_int (fun _ _ => rfl)) (pe_ix ix_list (pv 1) pe_int (fun _ _ => rfl))) pa_nil)) (pe_slice sl_list (pv 1) (po_some pe_int) po_none)) pa_nil)))) pa_nil)))) pss_nil)
    (pss_one (ps_ret (pv 2))))))), ?_⟩
    obtain ⟨a, b, d, us, hs, h1, h2, h3, h4, h5, h6, h7⟩ := hA.ex
    have lu : us.length = R.length := Paired.length h4
    have rl := ok.rl
    obtain ⟨xs, hxs⟩ : ∃ xs, xs = us.map V.ref := ⟨_, rfl⟩
    have lx : xs.length = R.length := by rw [hxs, List.length_map, lu]
    rw [← hxs] at h3
    have items : Paired (Item K H) xs (R.map some) := by
      rw [hxs]
      exact paired_map (paired_same (F := fun v ab => Item K H v (some ab)) (fun _ _ q => q) (by
        refine paired_of (by rw [List.length_map, lu]) fun i v ab hv hab => ?_
        obtain ⟨r, hr1, rfl⟩ := map_at hv
        exact item_rd (paired_at h4 hr1 hab)))
    refine ⟨_, rfl, p, _, _, _, rfl, rfl, SqT.of h1, atI_nat (j := 1) rfl, b, _, rfl, .inl (SqL.of h3), fun l1 e1 => ?_⟩
    generalize eH : upd H l1 (_ : HO) = H1
    have s1 : Same H H1 := by rw [← eH]; exact same_new e1
    have q1 : H1 l1 = some (.lst xs) := by rw [← eH]; exact upd_same
    clear eH
    refine fun d1 e2 => ?_
    generalize eH : upd H1 d1 (_ : HO) = H2
    have s2 : Same H1 H2 := by rw [← eH]; exact same_new e2
    have q2 : H2 d1 = some (.dK []) := by rw [← eH]; exact upd_same
    clear eH
    -- roads + [None]
    refine ⟨_, rfl, show 1 ≤ sizeLine by decide, fun m1 e3 => ?_⟩
    generalize eH : upd H2 m1 (_ : HO) = H3
    have s3 : Same H2 H3 := by rw [← eH]; exact same_new e3
    have q3 : H3 m1 = some (.lst [.non]) := by rw [← eH]; exact upd_same
    clear eH
    have t3 : Same H1 H3 := s2.trans s3
    refine ⟨l1, m1, _, _, rfl, rfl, t3 _ _ q1, q3, Nat.le_trans (show xs.length + 1 ≤ 1000 by omega) (by decide), fun c1 e4 => ?_⟩
    generalize eH : upd H3 c1 (_ : HO) = H4
    have s4 : Same H3 H4 := by rw [← eH]; exact same_new e4
    have q4 : H4 c1 = some (.lst (xs ++ [.non])) := by rw [← eH]; exact upd_same
    clear eH
    have t4 : Same H1 H4 := t3.trans s4
    -- roads + roads[:1] + [('nobody', 'a')]
    refine ⟨_, rfl, _, rfl, 1, rfl, l1, _, rfl, SqL.of (t4 _ _ q1), fun m2 e5 => ?_⟩
    rw [cut_one]
    generalize eH : upd H4 m2 (_ : HO) = H5
    have s5 : Same H4 H5 := by rw [← eH]; exact same_new e5
    have q5 : H5 m2 = some (.lst (xs.take 1)) := by rw [← eH]; exact upd_same
    clear eH
    have t5 : Same H1 H5 := t4.trans s5
    refine ⟨l1, m2, _, _, rfl, rfl, t5 _ _ q1, q5, Nat.le_trans (show xs.length + (xs.take 1).length ≤ 1000 by rw [List.length_take]; omega) (by decide), fun c2 e6 => ?_⟩
    generalize eH : upd H5 c2 (_ : HO) = H6
    have s6 : Same H5 H6 := by rw [← eH]; exact same_new e6
    have q6 : H6 c2 = some (.lst (xs ++ xs.take 1)) := by rw [← eH]; exact upd_same
    clear eH
    refine ⟨show 2 ≤ sizeLine by decide, fun t e7 => ?_⟩
    generalize eH : upd H6 t (_ : HO) = H7
    have s7 : Same H6 H7 := by rw [← eH]; exact same_new e7
    have q7 : H7 t = some (.tup [.str "nobody", .str "a"]) := by rw [← eH]; exact upd_same
    clear eH
    refine ⟨show 1 ≤ sizeLine by decide, fun m3 e8 => ?_⟩
    generalize eH : upd H7 m3 (_ : HO) = H8
    have s8 : Same H7 H8 := by rw [← eH]; exact same_new e8
    have q8 : H8 m3 = some (.lst [.ref t]) := by rw [← eH]; exact upd_same
    clear eH
    have u8 : Same H6 H8 := s7.trans s8
    refine ⟨c2, m3, _, _, rfl, rfl, u8 _ _ q6, q8, Nat.le_trans (show (xs ++ xs.take 1).length + 1 ≤ 1000 by rw [List.length_append, List.length_take]; omega) (by decide), fun c3 e9 => ?_⟩
    generalize eH : upd H8 c3 (_ : HO) = H9
    have s9 : Same H8 H9 := by rw [← eH]; exact same_new e9
    have q9 : H9 c3 = some (.lst ((xs ++ xs.take 1) ++ [.ref t])) := by rw [← eH]; exact upd_same
    clear eH
    have t9 : Same H4 H9 := ((s5.trans s6).trans u8).trans s9
    -- [None] + roads
    refine ⟨show 1 ≤ sizeLine by decide, fun m4 e10 => ?_⟩
    generalize eH : upd H9 m4 (_ : HO) = H10
    have s10 : Same H9 H10 := by rw [← eH]; exact same_new e10
    have q10 : H10 m4 = some (.lst [.non]) := by rw [← eH]; exact upd_same
    clear eH
    have t10 : Same H1 H10 := (t4.trans t9).trans s10
    refine ⟨_, rfl, m4, l1, _, _, rfl, rfl, q10, t10 _ _ q1, Nat.le_trans (show 1 + xs.length ≤ 1000 by omega) (by decide), fun c4 e11 => ?_⟩
    generalize eH : upd H10 c4 (_ : HO) = H11
    have s11 : Same H10 H11 := by rw [← eH]; exact same_new e11
    have q11 : H11 c4 = some (.lst ([.non] ++ xs)) := by rw [← eH]; exact upd_same
    clear eH
    refine ⟨show 8 ≤ sizeLine by decide, fun f e12 => ?_⟩
    generalize eH : upd H11 f (_ : HO) = H12
    have s12 : Same H11 H12 := by rw [← eH]; exact same_new e12
    have q12 : H12 f = some (.lst [.non, .int 5, .str "ab", .ref d1, .bl true, .ref c1, .ref c3, .ref c4]) := by rw [← eH]; exact upd_same
    clear eH
    have tB : Same H4 H11 := (t9.trans s10).trans s11
    have tA : Same H4 H12 := tB.trans s12
    have sB : Same H H11 := (s1.trans t4).trans tB
    have sH : Same H H12 := sB.trans s12
    have i12 : Paired (Item K H11) xs (R.map some) := paired_same (fun _ _ q => q.same sB) items
    have odd1 : ∀ y ∈ [V.non, .int 5, .str "ab", .ref d1, .bl true, .ref c1, .ref c3, .ref c4], OddE K N R H11 y := by
      intro y hy
      simp only [List.mem_cons, List.mem_nil_iff, or_false] at hy
      rcases hy with rfl | rfl | rfl | rfl | rfl | rfl | rfl | rfl
      · exact ⟨⟨none, .no TyN.non rfl, rfl⟩, Lv.sc .non⟩
      · exact ⟨⟨none, .no TyN.int rfl, rfl⟩, Lv.sc (.int _)⟩
      · exact ⟨⟨none, .no TyN.str rfl, rfl⟩, Lv.sc (.str _)⟩
      · have c := tB _ _ (s4 _ _ (s3 _ _ q2))
        exact ⟨⟨none, .no (TyN.dK c) rfl, rfl⟩, lv_dict c (by decide) fun x hx => by cases hx⟩
      · exact ⟨⟨none, .no TyN.bl rfl, rfl⟩, Lv.sc (.bl _)⟩
      · exact odd_seq (tB _ _ q4) (by rw [List.length_append]; show xs.length + 1 ≤ 1000; omega) (paired_append i12 (.cons item_non .nil)) (known_len (by rw [List.length_append, List.length_map]; show ¬ R.length + 1 = R.length; omega))
      · refine odd_seq (os := (R.map some ++ (R.map some).take 1) ++ [some (("nobody", "a") : Rd2)]) (s11 _ _ (s10 _ _ q9)) ?_ (paired_append (paired_append i12 (paired_take 1 i12)) (.cons (item_rd (ab := ("nobody", "a")) ?_) .nil)) (known_len ?_)
        · rw [List.length_append, List.length_append, List.length_take]
          show xs.length + min 1 xs.length + 1 ≤ 1000
          omega
        · exact s11 _ _ (s10 _ _ (s9 _ _ (s8 _ _ q7)))
        · rw [List.length_append, List.length_append, List.length_take, List.length_map]
          show ¬ R.length + min 1 R.length + 1 = R.length
          omega
      · exact odd_seq q11 (by show xs.length + 1 ≤ 1000; omega) (.cons item_non i12) (known_len (by show ¬ (R.map some).length + 1 = R.length; rw [List.length_map]; omega))
    have nob : ∀ x : Str, roadIn N R (some (x, "nobody")) = none := fun x => if_neg fun z => (ok.ok _ z.2).nb rfl
    have found : Paired (FoundAt H) xs (R.map some) := by
      rw [hxs]
      exact paired_map (F := FoundAt H) (f := some) (paired_of (by rw [List.length_map, lu]) fun i v ab hv hab => by
        obtain ⟨r, hr1, rfl⟩ := map_at hv
        exact ⟨r, rfl, paired_at h4 hr1 hab⟩)
    have okg : ∀ o ∈ R.map some, OkRd o := fun o ho ab e => by
      obtain ⟨cd, hcd, rfl⟩ := List.mem_map.mp ho
      cases e
      exact ok.vok.ok _ hcd
    -- behind the first test
    refine ⟨_, rfl, show 0 ≤ sizeLine by decide, fun z1 e13 => ?_⟩
    generalize eH : upd H12 z1 (_ : HO) = H13
    have s13 : Same H12 H13 := by rw [← eH]; exact same_new e13
    have q13 : H13 z1 = some (.lst []) := by rw [← eH]; exact upd_same
    clear eH
    have sH13 := sH.trans s13
    have l13 := (tA.trans s13) _ _ (t4 _ _ q1)
    have f13 := s13 _ _ q12
    have fnone : H f = none := (((s1.trans t4).trans ((t9.trans s10).trans s11))).free e12
    refine ⟨.list ((R.map some).map rdD), .list [], .lst (SqL.of l13) (rdD_dps (paired_same (fun _ _ q => FoundAt.same sH13 q) found)), .lst (SqL.of q13) .nil, rdDs_shaped okg, by decide, decide (R ≠ []), ?_, ite2 (fun cc => ?b1) fun cc => ?b2⟩
    · exact congrArg V.bl (rds_ne R)
    case' b1 =>
      have rne : R.length ≠ 0 := fun z => (of_decide_eq_true cc) (List.eq_nil_of_length_eq_zero z)
      obtain ⟨la, hla⟩ : ∃ la, R[R.length - 1]? = some la := ⟨_, List.getElem?_eq_getElem (by omega)⟩
      obtain ⟨lr, hlr⟩ : ∃ lr, us[R.length - 1]? = some lr := ⟨_, List.getElem?_eq_getElem (by omega)⟩
      have hlast : H lr = some (.tup [.str la.1, .str la.2]) := paired_at h4 hlr hla
      have atl : atI xs (-1) = some (.ref lr) := by
        have hx : xs[R.length - 1]? = some (.ref lr) := by rw [hxs, List.getElem?_map, hlr] <;> rfl
        have q := take_snoc hx
        rw [List.take_of_length_le (by omega)] at q
        rw [q]
        exact atI_last _ _
      refine ⟨_, rfl, .inl ⟨rfl, _, SqL.of f13⟩, show 0 ≤ sizeLine by decide, fun n1 g1 => ?_⟩
      generalize eH : upd H13 n1 (_ : HO) = H14
      have s14 : Same H13 H14 := by rw [← eH]; exact same_new g1
      have q14 : H14 n1 = some (.lst []) := by rw [← eH]; exact upd_same
      clear eH
      refine ⟨_, rfl, 1, rfl, l1, _, rfl, SqL.of (s14 _ _ l13), fun n2 g2 => ?_⟩
      rw [cut_tail]
      generalize eH : upd H14 n2 (_ : HO) = H15
      have s15 : Same H14 H15 := by rw [← eH]; exact same_new g2
      have q15 : H15 n2 = some (.lst (xs.drop 1)) := by rw [← eH]; exact upd_same
      clear eH
      have l15 := s15 _ _ (s14 _ _ l13)
      refine ⟨_, rfl, 1, rfl, -1, rfl, l1, _, rfl, SqL.of l15, fun n3 g3 => ?_⟩
      rw [cut_init]
      generalize eH : upd H15 n3 (_ : HO) = H16
      have s16 : Same H15 H16 := by rw [← eH]; exact same_new g3
      have q16 : H16 n3 = some (.lst (xs.take (xs.length - 1))) := by rw [← eH]; exact upd_same
      clear eH
      refine ⟨show 1 ≤ sizeLine by decide, fun n4 g4 => ?_⟩
      generalize eH : upd H16 n4 (_ : HO) = H17
      have s17 : Same H16 H17 := by rw [← eH]; exact same_new g4
      have q17 : H17 n4 = some (.lst [.non]) := by rw [← eH]; exact upd_same
      clear eH
      have lt : (xs.take (xs.length - 1)).length + 1 ≤ 1000 := by rw [List.length_take]; omega
      refine ⟨n3, n4, _, _, rfl, rfl, s17 _ _ q16, q17, Nat.le_trans lt (by decide), fun r1 g5 => ?_⟩
      generalize eH : upd H17 r1 (_ : HO) = H18
      have s18 : Same H17 H18 := by rw [← eH]; exact same_new g5
      have q18 : H18 r1 = some (.lst (xs.take (xs.length - 1) ++ [.non])) := by rw [← eH]; exact upd_same
      clear eH
      have l18 := s18 _ _ (s17 _ _ (s16 _ _ l15))
      refine ⟨_, rfl, 1, rfl, -1, rfl, l1, _, rfl, SqL.of l18, fun n6 g6 => ?_⟩
      rw [cut_init]
      generalize eH : upd H18 n6 (_ : HO) = H19
      have s19 : Same H18 H19 := by rw [← eH]; exact same_new g6
      have q19 : H19 n6 = some (.lst (xs.take (xs.length - 1))) := by rw [← eH]; exact upd_same
      clear eH
      have l19 := s19 _ _ l18
      have s13_19 : Same H13 H19 := (((s14.trans s15).trans s16).trans s17).trans (s18.trans s19)
      refine ⟨_, rfl, 1, rfl, ⟨l1, _, _, _, rfl, rfl, SqL.of l19, atl, ⟨lr, _, _, _, rfl, rfl, SqT.of ((sH13.trans s13_19) _ _ hlast), atI_nat (j := 0) rfl, show 2 ≤ sizeLine by decide, fun t2 g7 => ?_⟩⟩⟩
      generalize eH : upd H19 t2 (_ : HO) = H20
      have s20 : Same H19 H20 := by rw [← eH]; exact same_new g7
      have q20 : H20 t2 = some (.tup [.str la.1, .str "nobody"]) := by rw [← eH]; exact upd_same
      clear eH
      refine ⟨show 1 ≤ sizeLine by decide, fun n7 g8 => ?_⟩
      generalize eH : upd H20 n7 (_ : HO) = H21
      have s21 : Same H20 H21 := by rw [← eH]; exact same_new g8
      have q21 : H21 n7 = some (.lst [.ref t2]) := by rw [← eH]; exact upd_same
      clear eH
      refine ⟨n6, n7, _, _, rfl, rfl, s21 _ _ (s20 _ _ q19), q21, Nat.le_trans lt (by decide), fun r2 g9 => ?_⟩
      generalize eH : upd H21 r2 (_ : HO) = H22
      have s22 : Same H21 H22 := by rw [← eH]; exact same_new g9
      have q22 : H22 r2 = some (.lst (xs.take (xs.length - 1) ++ [.ref t2])) := by rw [← eH]; exact upd_same
      clear eH
      have l22 := s22 _ _ (s21 _ _ (s20 _ _ l19))
      refine ⟨_, rfl, 1, rfl, -1, rfl, l1, _, rfl, SqL.of l22, fun n8 g10 => ?_⟩
      rw [cut_init]
      generalize eH : upd H22 n8 (_ : HO) = H23
      have s23 : Same H22 H23 := by rw [← eH]; exact same_new g10
      have q23 : H23 n8 = some (.lst (xs.take (xs.length - 1))) := by rw [← eH]; exact upd_same
      clear eH
      refine ⟨show 1 ≤ sizeLine by decide, fun n9 g11 => ?_⟩
      generalize eH : upd H23 n9 (_ : HO) = H24
      have s24 : Same H23 H24 := by rw [← eH]; exact same_new g11
      have q24 : H24 n9 = some (.lst [.str "ab"]) := by rw [← eH]; exact upd_same
      clear eH
      refine ⟨n8, n9, _, _, rfl, rfl, s24 _ _ q23, q24, Nat.le_trans lt (by decide), fun r3 g12 => ?_⟩
      generalize eH : upd H24 r3 (_ : HO) = H25
      have s25 : Same H24 H25 := by rw [← eH]; exact same_new g12
      have q25 : H25 r3 = some (.lst (xs.take (xs.length - 1) ++ [.str "ab"])) := by rw [← eH]; exact upd_same
      clear eH
      refine ⟨show 5 ≤ sizeLine by decide, fun m g13 => ?_⟩
      generalize eH : upd H25 m (_ : HO) = H26
      have s26 : Same H25 H26 := by rw [← eH]; exact same_new g13
      have q26 : H26 m = some (.lst [.ref n1, .ref n2, .ref r1, .ref r2, .ref r3]) := by rw [← eH]; exact upd_same
      clear eH
      have s22_26 : Same H22 H26 := ((s23.trans s24).trans s25).trans s26
      have s19_26 : Same H19 H26 := ((s20.trans s21).trans s22).trans s22_26
      have s13_26 : Same H13 H26 := s13_19.trans s19_26
      have sH26 := sH13.trans s13_26
      have l26 := s13_26 _ _ l13
      have f26 := s13_26 _ _ f13
      refine ⟨f, m, _, _, rfl, rfl, f26, q26, show 13 ≤ sizeLine by decide, ?_⟩
      have fl1 : l1 ≠ f := fun z => by
        rw [z] at l13
        have q := (t4.trans ((t9.trans s10).trans s11)) _ _ q1
        rw [z] at q
        rw [e12] at q
        cases q
      have w1 : Same H (upd H26 f (.lst ([.non, .int 5, .str "ab", .ref d1, .bl true, .ref c1, .ref c3, .ref c4] ++ [.ref n1, .ref n2, .ref r1, .ref r2, .ref r3]))) := same_mut sH26 fnone
      have w2 : upd H26 f (.lst ([.non, .int 5, .str "ab", .ref d1, .bl true, .ref c1, .ref c3, .ref c4] ++ [.ref n1, .ref n2, .ref r1, .ref r2, .ref r3])) l1 = some (.lst xs) := by rw [upd_ne fl1]; exact l26
      have w3 : upd H26 f (.lst ([.non, .int 5, .str "ab", .ref d1, .bl true, .ref c1, .ref c3, .ref c4] ++ [.ref n1, .ref n2, .ref r1, .ref r2, .ref r3])) f = some (.lst ([.non, .int 5, .str "ab", .ref d1, .bl true, .ref c1, .ref c3, .ref c4] ++ [.ref n1, .ref n2, .ref r1, .ref r2, .ref r3])) := upd_same
      have hh : ∀ {b : Addr} {o : HO}, H26 b = some o → b ≠ f → hid (fun b => decide (b = f)) H26 b = some o := fun e n => hid_of e (decide_eq_false n)
      have lty : ∀ {Ha : Hp} {b : Addr}, Same H13 Ha → Ha b = none → b ≠ f := fun e n => Ne.symm (ne_of_none (e _ _ f13) n)
      have iF : Paired (Item K (hid (fun b => decide (b = f)) H26)) xs (R.map some) := by
        refine paired_same (fun v o q => Item.same (H := H) (fun b o e => hh (sH26 _ _ e) (fun z => ?_)) q) items
        rw [z, fnone] at e
        cases e
      have lti : (xs.take (xs.length - 1)).length = R.length - 1 := by rw [List.length_take]; omega
      have k1 : Same H13 H15 := s14.trans s15
      have k2 : Same H13 H17 := (k1.trans s16).trans s17
      have k3 : Same H13 H21 := (s13_19.trans s20).trans s21
      have k4 : Same H13 H24 := ((k3.trans s22).trans s23).trans s24
      have odd2 : ∀ y ∈ [V.ref n1, .ref n2, .ref r1, .ref r2, .ref r3], OddE K N R (hid (fun b => decide (b = f)) H26) y := by
        intro y hy
        simp only [List.mem_cons, List.mem_nil_iff, or_false] at hy
        rcases hy with rfl | rfl | rfl | rfl | rfl
        · exact odd_seq (os := []) (hh (((((s15.trans s16).trans s17).trans s18).trans (s19.trans s19_26)) _ _ q14) (lty (Same.refl _) g1)) (by decide) .nil (known_len (fun z => rne z.symm))
        · exact odd_seq (hh ((((s16.trans s17).trans s18).trans (s19.trans s19_26)) _ _ q15) (lty s14 g2)) (by rw [List.length_drop]; omega) (paired_drop 1 iF) (known_len (by rw [List.length_drop, List.length_map]; omega))
        · exact odd_seq (hh ((s19.trans s19_26) _ _ q18) (lty k2 g5)) (by rw [List.length_append]; exact lt) (paired_append (paired_take (xs.length - 1) iF) (.cons item_non .nil)) (known_bad (o := none) (List.mem_append_right _ List.mem_cons_self) rfl)
        · refine odd_seq (hh (s22_26 _ _ q22) (lty k3 g9)) (by rw [List.length_append]; exact lt) (paired_append (paired_take (xs.length - 1) iF) (.cons (item_rd (ab := (la.1, "nobody")) (hh (((s21.trans s22).trans s22_26) _ _ q20) (lty s13_19 g7))) .nil)) (known_bad (List.mem_append_right _ List.mem_cons_self) (nob la.1))
        · exact odd_seq (hh (s26 _ _ q25) (lty k4 g12)) (by rw [List.length_append]; exact lt) (paired_append (paired_take (xs.length - 1) iF) (.cons item_str .nil)) (known_bad (o := none) (List.mem_append_right _ List.mem_cons_self) rfl)
      have w4 : ∀ y ∈ ([.non, .int 5, .str "ab", .ref d1, .bl true, .ref c1, .ref c3, .ref c4] ++ [.ref n1, .ref n2, .ref r1, .ref r2, .ref r3] : List V), OddE K N R (hid (fun b => decide (b = f)) (upd H26 f (.lst ([.non, .int 5, .str "ab", .ref d1, .bl true, .ref c1, .ref c3, .ref c4] ++ [.ref n1, .ref n2, .ref r1, .ref r2, .ref r3])))) y := fun y hy => by
        rcases List.mem_append.mp hy with hy | hy
        · exact (odd1 y hy).same fun b o e => hid_of (same_mut ((s12.trans s13).trans s13_26) e12 _ _ e) (decide_eq_false fun z => by rw [z, e12] at e; cases e)
        · exact (odd2 y hy).same fun b o e => by
            refine hid_of ?_ (hid_not e)
            rw [upd_ne (of_decide_eq_false (hid_not e))]
            exact hid_some e
      have w5 : ([.non, .int 5, .str "ab", .ref d1, .bl true, .ref c1, .ref c3, .ref c4] ++ [.ref n1, .ref n2, .ref r1, .ref r2, .ref r3] : List V).length ≤ 13 := Nat.le_refl _
      generalize upd H26 f (HO.lst ([.non, .int 5, .str "ab", .ref d1, .bl true, .ref c1, .ref c3, .ref c4] ++ [.ref n1, .ref n2, .ref r1, .ref r2, .ref r3])) = Hx at w1 w2 w3 w4 ⊢
      generalize ([.non, .int 5, .str "ab", .ref d1, .bl true, .ref c1, .ref c3, .ref c4] ++ [.ref n1, .ref n2, .ref r1, .ref r2, .ref r3] : List V) = ys at w3 w4 w5
    case' b2 =>
      have w1 := sH13
      have w2 := l13
      have w3 := f13
      have w4 : ∀ y ∈ [V.non, .int 5, .str "ab", .ref d1, .bl true, .ref c1, .ref c3, .ref c4], OddE K N R (hid (fun b => decide (b = f)) H13) y := fun y hy => (odd1 y hy).same fun b o e => hid_of ((s12.trans s13) _ _ e) (decide_eq_false fun z => by rw [z, e12] at e; cases e)
      have w5 : ([.non, .int 5, .str "ab", .ref d1, .bl true, .ref c1, .ref c3, .ref c4] : List V).length ≤ 13 := (by decide : 8 ≤ 13)
      generalize H13 = Hx at w1 w2 w3 w4 ⊢
      generalize ([.non, .int 5, .str "ab", .ref d1, .bl true, .ref c1, .ref c3, .ref c4] : List V) = ys at w3 w4 w5
    all_goals
      refine ⟨_, rfl, l1, _, rfl, .inl (SqL.of w2), _, _, rfl, rfl, _, rfl, ite2 (fun c2 => ?_) fun c2 => ?_⟩
      · have ge2 : 2 ≤ R.length := by
          have := of_decide_eq_true c2
          omega
        obtain ⟨fs, R1, hR⟩ : ∃ fs R1, R = fs :: R1 := by
          cases R with
          | nil => exact absurd ge2 (by decide)
          | cons x r => exact ⟨x, r, rfl⟩
        have hfs : R[0]? = some fs := by rw [hR]; rfl
        obtain ⟨u0, hu0⟩ : ∃ u0, us[0]? = some u0 := ⟨_, List.getElem?_eq_getElem (by omega)⟩
        obtain ⟨u1, hu1⟩ : ∃ u1, us[1]? = some u1 := ⟨_, List.getElem?_eq_getElem (by omega)⟩
        obtain ⟨sd, hsd⟩ : ∃ sd, R[1]? = some sd := ⟨_, List.getElem?_eq_getElem (by omega)⟩
        have hx0 : xs[0]? = some (.ref u0) := by rw [hxs, List.getElem?_map, hu0] <;> rfl
        have hx1 : xs[1]? = some (.ref u1) := by rw [hxs, List.getElem?_map, hu1] <;> rfl
        have ht0 := paired_at h4 hu0 hfs
        have ht1 := paired_at h4 hu1 hsd
        have lt : (xs.take (xs.length - 1)).length = R.length - 1 := by rw [List.length_take]; omega
        have l1t : (xs.take 1).length = 1 := by rw [List.length_take]; omega
        refine ⟨_, rfl, .inl ⟨rfl, _, SqL.of w3⟩, ?_⟩
        refine ⟨_, rfl, 1, rfl, -1, rfl, l1, _, rfl, SqL.of w2, fun n1 g1 => ?_⟩
        rw [cut_init]
        generalize eH : upd Hx n1 (_ : HO) = Y1
        have y1 : Same Hx Y1 := by rw [← eH]; exact same_new g1
        have v1 : Y1 n1 = some (.lst (xs.take (xs.length - 1))) := by rw [← eH]; exact upd_same
        clear eH
        refine ⟨_, rfl, 1, rfl, l1, _, rfl, SqL.of (y1 _ _ w2), fun n2 g2 => ?_⟩
        rw [cut_one]
        generalize eH : upd Y1 n2 (_ : HO) = Y2
        have y2 : Same Y1 Y2 := by rw [← eH]; exact same_new g2
        have v2 : Y2 n2 = some (.lst (xs.take 1)) := by rw [← eH]; exact upd_same
        clear eH
        refine ⟨n1, n2, _, _, rfl, rfl, y2 _ _ v1, v2, Nat.le_trans (show _ ≤ 1000 by omega) (by decide), fun r1 g3 => ?_⟩
        generalize eH : upd Y2 r1 (_ : HO) = Y3
        have y3 : Same Y2 Y3 := by rw [← eH]; exact same_new g3
        have v3 : Y3 r1 = some (.lst (xs.take (xs.length - 1) ++ xs.take 1)) := by rw [← eH]; exact upd_same
        clear eH
        have x3 : Same Hx Y3 := (y1.trans y2).trans y3
        refine ⟨_, rfl, 1, rfl, -1, rfl, l1, _, rfl, SqL.of (x3 _ _ w2), fun n3 g4 => ?_⟩
        rw [cut_init]
        generalize eH : upd Y3 n3 (_ : HO) = Y4
        have y4 : Same Y3 Y4 := by rw [← eH]; exact same_new g4
        have v4 : Y4 n3 = some (.lst (xs.take (xs.length - 1))) := by rw [← eH]; exact upd_same
        clear eH
        have x4 : Same Hx Y4 := x3.trans y4
        refine ⟨_, rfl, ⟨l1, _, _, _, rfl, rfl, SqL.of (x4 _ _ w2), atI_nat (j := 0) hx0, u0, _, _, rfl, SqT.of ((w1.trans x4) _ _ ht0), fun t g5 => ?_⟩⟩
        generalize eH : upd Y4 t (_ : HO) = Y5
        have y5 : Same Y4 Y5 := by rw [← eH]; exact same_new g5
        have v5 : Y5 t = some (.tup [.str fs.2, .str fs.1]) := by rw [← eH]; exact upd_same
        clear eH
        refine ⟨show 1 ≤ sizeLine by decide, fun n4 g6 => ?_⟩
        generalize eH : upd Y5 n4 (_ : HO) = Y6
        have y6 : Same Y5 Y6 := by rw [← eH]; exact same_new g6
        have v6 : Y6 n4 = some (.lst [.ref t]) := by rw [← eH]; exact upd_same
        clear eH
        refine ⟨n3, n4, _, _, rfl, rfl, y6 _ _ (y5 _ _ v4), v6, Nat.le_trans (show (xs.take (xs.length - 1)).length + 1 ≤ 1000 by omega) (by decide), fun r2 g7 => ?_⟩
        generalize eH : upd Y6 r2 (_ : HO) = Y7
        have y7 : Same Y6 Y7 := by rw [← eH]; exact same_new g7
        have v7 : Y7 r2 = some (.lst (xs.take (xs.length - 1) ++ [.ref t])) := by rw [← eH]; exact upd_same
        clear eH
        have x7 : Same Hx Y7 := ((x4.trans y5).trans y6).trans y7
        refine ⟨_, rfl, ⟨l1, _, _, _, rfl, rfl, SqL.of (x7 _ _ w2), atI_nat (j := 0) hx0, _, rfl, ⟨l1, _, _, _, rfl, rfl, SqL.of (x7 _ _ w2), atI_nat (j := 1) hx1, ?_⟩⟩⟩
        refine ⟨u0, u1, _, _, rfl, rfl, SqT.of ((w1.trans x7) _ _ ht0), SqT.of ((w1.trans x7) _ _ ht1), show 4 ≤ sizeLine by decide, (fun z => by cases z), (fun _ z => by cases z), fun _ _ q g8 => ?_⟩
        generalize eH : upd Y7 q (_ : HO) = Y8
        have y8 : Same Y7 Y8 := by rw [← eH]; exact same_new g8
        have v8 : Y8 q = some (.tup [.str fs.1, .str fs.2, .str sd.1, .str sd.2]) := by rw [← eH]; exact upd_same
        clear eH
        refine ⟨show 1 ≤ sizeLine by decide, fun n5 g9 => ?_⟩
        generalize eH : upd Y8 n5 (_ : HO) = Y9
        have y9 : Same Y8 Y9 := by rw [← eH]; exact same_new g9
        have v9 : Y9 n5 = some (.lst [.ref q]) := by rw [← eH]; exact upd_same
        clear eH
        have x9 : Same Hx Y9 := (x7.trans y8).trans y9
        refine ⟨_, rfl, 1, rfl, l1, _, rfl, SqL.of (x9 _ _ w2), fun n6 g10 => ?_⟩
        rw [cut_tail]
        generalize eH : upd Y9 n6 (_ : HO) = Ya
        have ya : Same Y9 Ya := by rw [← eH]; exact same_new g10
        have va : Ya n6 = some (.lst (xs.drop 1)) := by rw [← eH]; exact upd_same
        clear eH
        refine ⟨n5, n6, _, _, rfl, rfl, ya _ _ v9, va, Nat.le_trans (show 1 + (xs.drop 1).length ≤ 1000 by rw [List.length_drop]; omega) (by decide), fun r3 g11 => ?_⟩
        generalize eH : upd Ya r3 (_ : HO) = Yb
        have yb : Same Ya Yb := by rw [← eH]; exact same_new g11
        have vb : Yb r3 = some (.lst ([.ref q] ++ xs.drop 1)) := by rw [← eH]; exact upd_same
        clear eH
        refine ⟨show 3 ≤ sizeLine by decide, fun m g12 => ?_⟩
        generalize eH : upd Yb m (_ : HO) = Yc
        have yc : Same Yb Yc := by rw [← eH]; exact same_new g12
        have vc : Yc m = some (.lst [.ref r1, .ref r2, .ref r3]) := by rw [← eH]; exact upd_same
        clear eH
        have xa : Same Hx Ya := x9.trans ya
        have xb : Same Hx Yb := xa.trans yb
        have xc : Same Hx Yc := xb.trans yc
        have fc := xc _ _ w3
        refine ⟨f, m, _, _, rfl, rfl, fc, vc, Nat.le_trans (show ys.length + 3 ≤ 1000 by omega) (by decide), ?_⟩
        have hh : ∀ {b : Addr} {o : HO}, Yc b = some o → b ≠ f → hid (fun b => decide (b = f)) Yc b = some o := fun e n => hid_of e (decide_eq_false n)
        have lty : ∀ {Ha : Hp} {b : Addr}, Same Hx Ha → Ha b = none → b ≠ f := fun e n => Ne.symm (ne_of_none (e _ _ w3) n)
        have iF : Paired (Item K (hid (fun b => decide (b = f)) Yc)) xs (R.map some) := by
          refine paired_same (fun v o q => Item.same (H := H) (fun b o e => hh ((w1.trans xc) _ _ e) (fun z => ?_)) q) items
          rw [z, fnone] at e
          cases e
        have e0 : roadIn N R (some fs) = some fs := by
          have en := ok.tree.ends fs (by rw [hR]; exact List.mem_cons_self)
          refine (if_pos en).trans ?_
          rw [hR]
          exact List.find?_cons_of_pos (decide_eq_true (.inl rfl))
        have e1 : roadIn N R (some (fs.2, fs.1)) = some fs := by
          have en := ok.tree.ends fs (by rw [hR]; exact List.mem_cons_self)
          refine (if_pos ⟨en.2, en.1⟩).trans ?_
          rw [hR]
          exact List.find?_cons_of_pos (decide_eq_true (.inr rfl))
        have mem0 : fs ∈ ((R.map some).take (xs.length - 1)).filterMap (roadIn N R) := by
          refine List.mem_filterMap.mpr ⟨some fs, ?_, e0⟩
          rw [hR, List.map_cons]
          obtain ⟨j, hj⟩ : ∃ j, xs.length - 1 = j + 1 := ⟨xs.length - 2, by omega⟩
          rw [hj]
          exact List.mem_cons_self
        have tk1 : (R.map some).take 1 = [some fs] := by rw [hR]; rfl
        have odd3 : ∀ y ∈ [V.ref r1, .ref r2, .ref r3], OddE K N R (hid (fun b => decide (b = f)) Yc) y := by
          intro y hy
          simp only [List.mem_cons, List.mem_nil_iff, or_false] at hy
          rcases hy with rfl | rfl | rfl
          · refine odd_seq (os := (R.map some).take (xs.length - 1) ++ [some fs]) (hh (((((((((y4.trans y5).trans y6).trans y7).trans y8).trans y9).trans ya).trans yb).trans yc) _ _ v3) (lty (y1.trans y2) g3)) (by rw [List.length_append]; omega) ?_ (known_dup mem0 e0)
            have q2 := paired_append (paired_take (xs.length - 1) iF) (paired_take 1 iF)
            rw [tk1] at q2
            exact q2
          · exact odd_seq (hh ((((((y8.trans y9).trans ya).trans yb).trans yc)) _ _ v7) (lty ((x4.trans y5).trans y6) g7)) (by rw [List.length_append]; show _ + 1 ≤ 1000; omega) (paired_append (paired_take (xs.length - 1) iF) (.cons (item_rd (ab := (fs.2, fs.1)) (hh ((((((((y6.trans y7).trans y8).trans y9).trans ya).trans yb).trans yc)) _ _ v5) (lty x4 g5))) .nil)) (known_dup mem0 e1)
          · exact odd_seq (os := none :: (R.map some).drop 1) (hh (yc _ _ vb) (lty xa g11)) (by show (xs.drop 1).length + 1 ≤ 1000; rw [List.length_drop]; omega) (.cons (item_four (hh ((((y9.trans ya).trans yb).trans yc) _ _ v8) (lty x7 g8))) (paired_drop 1 iF)) (known_bad (o := none) List.mem_cons_self rfl)
        refine ⟨_, rfl, k _ f _ (same_mut (w1.trans xc) fnone) upd_same fun y hy => ?_⟩
        rcases List.mem_append.mp hy with hy | hy
        · exact (w4 y hy).same fun b o e => by
            have n := of_decide_eq_false (hid_not e)
            rw [upd_ne n]
            exact xc _ _ (hid_some e)
        · exact (odd3 y hy).same fun b o e => by
            rw [upd_ne (of_decide_eq_false (hid_not e))]
            exact hid_some e
      · exact ⟨_, rfl, k _ f _ w1 w3 fun y hy => (w4 y hy).same hid_in⟩
end
end K80
namespace K80
open PySem PySem.Spec PyProof.Rows L2
/-- rows as (key, value) -/
def rowsOf (ks : List (Str × V)) : List (Key × V) := ks.map fun p => (Sum.inr p.1, p.2)
theorem rows_keys {ks : List (Str × V)} : (rowsOf ks).map (·.1) = (ks.map (·.1)).map (Sum.inr : Str → Key) := by
  unfold rowsOf
  rw [List.map_map, List.map_map]
  rfl
theorem inr_nodup {l : List Str} (h : l.Nodup) : (l.map (Sum.inr : Str → Key)).Nodup := by
  induction l with
  | nil => exact .nil
  | cons n N ih =>
    rw [List.map_cons]
    refine List.nodup_cons.mpr ⟨fun z => ?_, ih (List.nodup_cons.mp h).2⟩
    obtain ⟨m, hm, e⟩ := List.mem_map.mp z
    cases e
    exact (List.nodup_cons.mp h).1 hm
theorem rows_merge {ks : List (Str × V)} (nd : (ks.map (·.1)).Nodup) : mergeK [] (rowsOf ks) = rowsOf ks := by
  refine (merge_new Built.nil ?_ fun k _ z => by cases z).trans (List.nil_append _)
  rw [rows_keys]
  exact inr_nodup nd
theorem val_rows {ks : List (Str × V)} {n : Str} {v : V} (h : valV (rowsOf ks) (Sum.inr n) = some v) : (n, v) ∈ ks := by
  unfold valV at h
  obtain ⟨p, hp, e⟩ := Option.map_eq_some_iff.mp h
  have m := List.mem_of_find?_eq_some hp
  have q := of_decide_eq_true (List.find?_some (p := fun kv : Key × V => decide (kv.1 = Sum.inr n)) hp)
  obtain ⟨r, hr, er⟩ := List.mem_map.mp m
  subst er
  cases q
  cases e
  exact hr
theorem odd_rows {K : PySem.W.Frag} {N : List Str} {H : Hp} {a : Addr} {ks : List (Str × V)} (h : H a = some (.dK (rowsOf ks))) (z : ks.length ≤ 1000) (hv : ∀ p ∈ ks, (∃ o, NumV K H p.2 o) ∧ Lv 3 H p.2 p.2) (bad : ks.length ≠ N.length ∨ ∃ n ∈ N, ∀ i : Int, 0 ≤ i → ¬ (n, V.int i) ∈ ks) : OddH K N H (.ref a) := by
  have lr : (rowsOf ks).length = ks.length := List.length_map _
  refine ⟨⟨some (rowsOf ks), .dict h fun n v e => (hv _ (val_rows e)).1, ?_⟩, lv_dict h (by rw [lr]; exact z) fun p hp => ?_⟩
  · rintro ⟨kvs, e, l, all⟩
    cases e
    rcases bad with c | ⟨n, hn, c⟩
    · exact c (lr.symm.trans l)
    · obtain ⟨e1, e2⟩ := hpOk_val (all n hn)
      exact c _ e2 (val_rows e1)
  · obtain ⟨r, hr, rfl⟩ := List.mem_map.mp hp
    exact ⟨⟨_, rfl⟩, (hv r hr).2⟩
section
variable {P : Program} {w : World} {K : PySem.W.Frag} {mg : Str → Option Value} {base : Heap}
theorem ok_odd_feasts (T : Txt K mg) : FnOk P w K mg base CX0 1 T.law_f_odd_feasts.f T.law_f_odd_feasts.fd ["_law_feasts"] (spOddH K) := by
  refine T.law_f_odd_feasts.F.ok sc_law_f_odd_feasts (fun vs H Q E h => ?_) (fun cdv A outer s H vs Q E hr h => ?_)
  · obtain ⟨d, N, rfl, _⟩ := h
    rfl
  · obtain ⟨d, N, rfl, hd, nd, n1, nz, nob, k⟩ := h
    -- slots: 0 _law_feasts, 1 _law_rows, 2 _law_name, 3 _law_found, 4 _law_odd
    refine ⟨_, (pss_cons (ps_par (i := 1) (j := 2) (by rfl) sc_law_f_odd_feasts.nd rfl rfl (by decide) rfl rfl (pa_cons (LiI.pe_listItems rfl (pv 0) (by rfl) T.n_list (by decide +kernel)) (pa_cons (pe_ix ix_list (pe_callTy (call_listD rfl) (by rfl) T.n_list (by decide +kernel) (pa_cons (pv 0) pa_nil)) pe_int (fun _ _ => rfl)) pa_nil)) (by rfl))
    (pss_cons (ps_set (i := 3) sc_law_f_odd_feasts.nd rfl (Or.inl rfl) (pe_lst (pa_cons pe_non (pa_cons pe_int (pa_cons pe_str (pa_cons (pe_lst pa_nil) (pa_cons pe_dnewK (pa_cons pe_bl (pa_cons (pv 1) (pa_cons (pe_callTy (call_dictP rfl) (by rfl) T.n_dict (by decide +kernel) (pa_cons (pe_slice sl_list (pv 1) (po_some pe_int) po_none) pa_nil)) (pa_cons (pe_callTy (call_dictP rfl) (by rfl) T.n_dict (by decide +kernel) (pa_cons (pe_op op_cat (pv 1) (pe_lst (pa_cons (pe_tup (pa_cons pe_str (pa_cons pe_int pa_nil))) pa_nil))) pa_nil)) pa_nil)))))))))))
    (pss_cons (ps_expr (pe_bm PySem.F.plainAttrs_list PySem.F.slot_list_append PySem.F.type_list_append mt_append (pv 3) (pa_cons (pe_callTy (call_dictP rfl) (by rfl) T.n_dict (by decide +kernel) (pa_cons (pe_op op_cat (pe_slice sl_list (pv 1) (po_some pe_int) po_none) (pe_lst (pa_cons (pe_tup (pa_cons pe_str (pa_cons pe_int pa_nil))) pa_nil))) pa_nil)) pa_nil)))
    (pss_cons (ps_for PassesOwn.never rfl (pi_tup (pe_tup (pa_cons (pe_un un_neg pe_int) (pa_cons pe_non (pa_cons pe_bl (pa_cons pe_str (pa_cons (pe_lst (pa_cons pe_int pa_nil)) (pa_cons (pe_tup (pa_cons pe_int (pa_cons pe_int pa_nil))) pa_nil)))))))) (pg_name (i := 4) sc_law_f_odd_feasts.nd rfl (Or.inl rfl))
      (pss_one (ps_expr (pe_bm PySem.F.plainAttrs_list PySem.F.slot_list_append PySem.F.type_list_append mt_append (pv 3) (pa_cons (pe_callTy (call_dictP rfl) (by rfl) T.n_dict (by decide +kernel) (pa_cons (pe_op op_cat (pe_slice sl_list (pv 1) (po_some pe_int) po_none) (pe_lst (pa_cons (pe_tup (pa_cons (pv 2) (pa_cons (pv 4) pa_nil))) pa_nil))) pa_nil)) pa_nil)))))
    (pss_one (ps_ret (pv 3))))))), ?_⟩
    obtain ⟨n0, N1, hN⟩ : ∃ n0 N1, N = n0 :: N1 := by
      cases N with
      | nil => exact absurd n1 (by decide)
      | cons x r => exact ⟨x, r, rfl⟩
    obtain ⟨ks, hks⟩ : ∃ ks : List (Str × V), ks = N.map fun n => (n, V.int 3) := ⟨_, rfl⟩
    have ed : dOf N (fun _ => V.int 3) = rowsOf ks := by
      rw [hks]
      unfold dOf rowsOf
      rw [List.map_map]
      rfl
    have kk : ks.map (·.1) = N := by
      rw [hks, List.map_map]
      exact (List.map_congr_left fun _ _ => rfl).trans (List.map_id _)
    have lk : ks.length = N.length := by rw [hks, List.length_map]
    have k3 : ∀ p ∈ ks, p.2 = V.int 3 := fun p hp => by
      rw [hks] at hp
      obtain ⟨_, _, rfl⟩ := List.mem_map.mp hp
      rfl
    have nd1 := List.nodup_cons.mp (hN ▸ nd)
    have kd : (ks.drop 1).map (·.1) = N1 := by rw [List.map_drop, kk, hN]; rfl
    rw [ed] at hd
    refine ⟨_, rfl, d, _, rfl, hd, fun H1 p ts s1 f1 ft np e1 q1 => ?_⟩
    have s1' : Same H H1 := s1
    refine ⟨_, rfl, d, _, rfl, .inl (s1' _ _ hd), fun l2 g2 => ?_⟩
    generalize eH : upd H1 l2 (_ : HO) = H2
    have s2 : Same H1 H2 := by rw [← eH]; exact same_new g2
    have q2 : H2 l2 = some (.lst ((rowsOf ks).map fun kv => kV kv.1)) := by rw [← eH]; exact upd_same
    clear eH
    have first : ((rowsOf ks).map fun kv => kV kv.1)[0]? = some (.str n0) := by
      rw [← ed, key_strs, hN]
      rfl
    refine ⟨l2, _, _, _, rfl, rfl, SqL.of q2, atI_nat (j := 0) first, _, _, rfl, ?_⟩
    have lts : ts.length = N.length := (Paired.length q1).trans (by rw [← lk]; exact List.length_map _)
    have e2 := s2 _ _ e1
    have r2 : Paired (fun (t : Addr) (q : Key × V) => H2 t = some (.tup [kV q.1, q.2])) ts (rowsOf ks) := paired_same (fun _ _ z => s2 _ _ z) q1
    have sB : Same H H2 := s1'.trans s2
    refine ⟨show 0 ≤ sizeLine by decide, fun l3 g3 => ?_⟩
    generalize eH : upd H2 l3 (_ : HO) = H3
    have s3 : Same H2 H3 := by rw [← eH]; exact same_new g3
    have q3 : H3 l3 = some (.lst []) := by rw [← eH]; exact upd_same
    clear eH
    refine fun l4 g4 => ?_
    generalize eH : upd H3 l4 (_ : HO) = H4
    have s4 : Same H3 H4 := by rw [← eH]; exact same_new g4
    have q4 : H4 l4 = some (.dK []) := by rw [← eH]; exact upd_same
    clear eH
    have u4 : Same H2 H4 := s3.trans s4
    refine ⟨_, rfl, _, rfl, 1, rfl, p, _, rfl, SqL.of (u4 _ _ e2), fun l5 g5 => ?_⟩
    rw [cut_tail, ← List.map_drop]
    generalize eH : upd H4 l5 (_ : HO) = H5
    have s5 : Same H4 H5 := by rw [← eH]; exact same_new g5
    have q5 : H5 l5 = some (.lst ((ts.drop 1).map V.ref)) := by rw [← eH]; exact upd_same
    clear eH
    have u5 : Same H2 H5 := u4.trans s5
    have ndd : ((ks.drop 1).map (·.1)).Nodup := by rw [kd]; exact nd1.2
    have rd : (rowsOf ks).drop 1 = rowsOf (ks.drop 1) := List.map_drop.symm
    refine ⟨l5, ts.drop 1, rowsOf (ks.drop 1), rfl, SqL.of q5, ?_, fun l6 g6 => ?_⟩
    · rw [← rd]
      exact paired_drop 1 (paired_same (fun _ _ z => SqT.of (u5 _ _ z)) r2)
    rw [rows_merge ndd]
    generalize eH : upd H5 l6 (_ : HO) = H6
    have s6 : Same H5 H6 := by rw [← eH]; exact same_new g6
    have q6 : H6 l6 = some (.dK (rowsOf (ks.drop 1))) := by rw [← eH]; exact upd_same
    clear eH
    have u6 : Same H2 H6 := u5.trans s6
    refine ⟨_, rfl, show 2 ≤ sizeLine by decide, fun t1 g7 => ?_⟩
    generalize eH : upd H6 t1 (_ : HO) = H7
    have s7 : Same H6 H7 := by rw [← eH]; exact same_new g7
    have q7 : H7 t1 = some (.tup [.str "nobody", .int 0]) := by rw [← eH]; exact upd_same
    clear eH
    refine ⟨show 1 ≤ sizeLine by decide, fun l7 g8 => ?_⟩
    generalize eH : upd H7 l7 (_ : HO) = H8
    have s8 : Same H7 H8 := by rw [← eH]; exact same_new g8
    have q8 : H8 l7 = some (.lst [.ref t1]) := by rw [← eH]; exact upd_same
    clear eH
    have u8 : Same H2 H8 := (u6.trans s7).trans s8
    refine ⟨p, l7, _, _, rfl, rfl, u8 _ _ e2, q8, Nat.le_trans (show (ts.map V.ref).length + 1 ≤ 1000 by rw [List.length_map]; omega) (by decide), fun l8 g9 => ?_⟩
    generalize eH : upd H8 l8 (_ : HO) = H9
    have s9 : Same H8 H9 := by rw [← eH]; exact same_new g9
    have q9 : H9 l8 = some (.lst (ts.map V.ref ++ [.ref t1])) := by rw [← eH]; exact upd_same
    clear eH
    have u9 : Same H2 H9 := u8.trans s9
    have ndn : ((ks ++ [(("nobody" : Str), V.int 0)]).map (·.1)).Nodup := by
      rw [List.map_append, kk]
      refine List.nodup_append.mpr ⟨nd, List.pairwise_singleton _ _, fun x hx y hy => ?_⟩
      rw [List.mem_singleton.mp hy]
      exact nob x hx
    refine ⟨l8, ts ++ [t1], rowsOf (ks ++ [(("nobody" : Str), V.int 0)]), rfl, ?_, ?_, fun l9 g10 => ?_⟩
    · refine SqL.of ?_
      rw [q9, List.map_append]
      rfl
    · unfold rowsOf
      rw [List.map_append]
      exact paired_append (paired_same (fun _ _ z => SqT.of (u9 _ _ z)) r2) (.cons (SqT.of (s9 _ _ (s8 _ _ q7))) .nil)
    rw [rows_merge ndn]
    generalize eH : upd H9 l9 (_ : HO) = Ha
    have sa : Same H9 Ha := by rw [← eH]; exact same_new g10
    have qa : Ha l9 = some (.dK (rowsOf (ks ++ [(("nobody" : Str), V.int 0)]))) := by rw [← eH]; exact upd_same
    clear eH
    have ua : Same H2 Ha := u9.trans sa
    refine ⟨show 9 ≤ sizeLine by decide, fun f g11 => ?_⟩
    have odd1 : ∀ y ∈ [V.non, .int 5, .str "ab", .ref l3, .ref l4, .bl true, .ref p, .ref l6, .ref l9], OddH K N Ha y := by
      have u3a : Same H3 Ha := (((((s4.trans s5).trans s6).trans s7).trans s8).trans s9).trans sa
      have u4a : Same H4 Ha := ((((s5.trans s6).trans s7).trans s8).trans s9).trans sa
      have u6a : Same H6 Ha := ((s7.trans s8).trans s9).trans sa
      have noH : ¬ heapsOk N none := fun ⟨_, e, _⟩ => by cases e
      intro y hy
      simp only [List.mem_cons, List.mem_nil_iff, or_false] at hy
      rcases hy with rfl | rfl | rfl | rfl | rfl | rfl | rfl | rfl | rfl
      · exact ⟨⟨none, .no TyN.non rfl, noH⟩, Lv.sc .non⟩
      · exact ⟨⟨none, .no TyN.int rfl, noH⟩, Lv.sc (.int _)⟩
      · exact ⟨⟨none, .no TyN.str rfl, noH⟩, Lv.sc (.str _)⟩
      · exact ⟨⟨none, .no (TyN.lst (u3a _ _ q3)) rfl, noH⟩, lv_seq (.inl (u3a _ _ q3)) (by decide) fun x hx => by cases hx⟩
      · exact odd_rows (ks := []) (u4a _ _ q4) (by decide) (fun q hq => by cases hq) (.inl (fun z => by rw [hN] at z; cases z))
      · exact ⟨⟨none, .no TyN.bl rfl, noH⟩, Lv.sc (.bl _)⟩
      · refine ⟨⟨none, .no (TyN.lst (ua _ _ e2)) rfl, noH⟩, lv_seq (.inl (ua _ _ e2)) (by rw [List.length_map]; omega) fun x hx => ?_⟩
        obtain ⟨t, ht, rfl⟩ := List.mem_map.mp hx
        obtain ⟨i, hi, ei⟩ := List.mem_iff_getElem.mp ht
        have hti : ts[i]? = some t := by rw [← ei]; exact List.getElem?_eq_getElem hi
        obtain ⟨kv, hkv⟩ : ∃ kv, ks[i]? = some kv := ⟨_, List.getElem?_eq_getElem (by omega)⟩
        have q := paired_at r2 hti (show (rowsOf ks)[i]? = some (Sum.inr kv.1, kv.2) by unfold rowsOf; rw [List.getElem?_map, hkv]; rfl)
        refine lv_le (lv_seq (n := 0) (.inr (ua _ _ q)) (show 2 ≤ 1000 by decide) fun x hx => ?_) (by decide)
        simp only [List.mem_cons, List.mem_nil_iff, or_false] at hx
        rcases hx with rfl | rfl
        · exact Lv.sc (.str _)
        · rw [k3 kv (List.mem_of_getElem? hkv)]
          exact Lv.sc (.int 3)
      · refine odd_rows (u6a _ _ q6) (by rw [List.length_drop]; omega) (fun q hq => ?_) (.inl (by rw [List.length_drop]; omega))
        rw [k3 q (List.mem_of_mem_drop hq)]
        exact ⟨⟨_, .int 3⟩, Lv.sc (.int 3)⟩
      · refine odd_rows qa (by rw [List.length_append]; show ks.length + 1 ≤ 1000; omega) (fun q hq => ?_) (.inl (by rw [List.length_append]; show ks.length + 1 ≠ N.length; omega))
        rcases List.mem_append.mp hq with hq | hq
        · rw [k3 q hq]
          exact ⟨⟨_, .int 3⟩, Lv.sc (.int 3)⟩
        · rw [List.mem_singleton.mp hq]
          exact ⟨⟨_, .int 0⟩, Lv.sc (.int 0)⟩
    generalize eF : upd Ha f (HO.lst _) = Hb
    have sb : Same Ha Hb := by rw [← eF]; exact same_new g11
    have qb : Hb f = some (.lst [.non, .int 5, .str "ab", .ref l3, .ref l4, .bl true, .ref p, .ref l6, .ref l9]) := by rw [← eF]; exact upd_same
    clear eF
    have fH : Ha f = none := g11
    have hidb : ∀ {b : Addr} {o : HO} {H' : Hp}, H' b = some o → b ≠ f → hid (fun b => decide (b = f)) H' b = some o := fun e n => hid_of e (decide_eq_false n)
    have odd0 : ∀ y ∈ [V.non, .int 5, .str "ab", .ref l3, .ref l4, .bl true, .ref p, .ref l6, .ref l9], OddH K N (hid (fun b => decide (b = f)) Hb) y := fun y hy => (odd1 y hy).same fun b o e => hidb (sb _ _ e) fun z => by rw [z, fH] at e; cases e
    have grow : ∀ {H1 H2 : Hp} {y : V}, Same H1 H2 → OddH K N (hid (fun b => decide (b = f)) H1) y → OddH K N (hid (fun b => decide (b = f)) H2) y := fun e h => h.same fun b o q => hid_of (e _ _ (hid_some q)) (hid_not q)
    have put : ∀ {H1 : Hp} {o : HO} {y : V}, OddH K N (hid (fun b => decide (b = f)) H1) y → OddH K N (hid (fun b => decide (b = f)) (upd H1 f o)) y := fun h => h.same fun b o q => by
      refine hid_of ?_ (hid_not q)
      rw [upd_ne (of_decide_eq_false (hid_not q))]
      exact hid_some q
    have nob1 : ∀ x ∈ N1, x ≠ ("nobody" : Str) := fun x hx => nob x (by rw [hN]; exact List.mem_cons_of_mem _ hx)
    have no1 : ∀ x ∈ N1, x ≠ n0 := fun x hx z => nd1.1 (z ▸ hx)
    have lN1 : N.length = N1.length + 1 := by rw [hN]; rfl
    refine ⟨_, rfl, .inl ⟨rfl, _, SqL.of qb⟩, _, rfl, 1, rfl, p, _, rfl, SqL.of ((ua.trans sb) _ _ e2), fun xa xga => ?_⟩
    rw [cut_tail, ← List.map_drop]
    generalize eH : upd Hb xa (_ : HO) = xH1
    have xs1 : Same Hb xH1 := by rw [← eH]; exact same_new xga
    have xq1 : xH1 xa = some (.lst ((ts.drop 1).map V.ref)) := by rw [← eH]; exact upd_same
    clear eH
    refine ⟨show 2 ≤ sizeLine by decide, fun xt xgt => ?_⟩
    generalize eH : upd xH1 xt (_ : HO) = xH2
    have xs2 : Same xH1 xH2 := by rw [← eH]; exact same_new xgt
    have xq2 : xH2 xt = some (.tup [.str "nobody", V.int 0]) := by rw [← eH]; exact upd_same
    clear eH
    refine ⟨show 1 ≤ sizeLine by decide, fun xb xgb => ?_⟩
    generalize eH : upd xH2 xb (_ : HO) = xH3
    have xs3 : Same xH2 xH3 := by rw [← eH]; exact same_new xgb
    have xq3 : xH3 xb = some (.lst [.ref xt]) := by rw [← eH]; exact upd_same
    clear eH
    refine ⟨xa, xb, _, _, rfl, rfl, xs3 _ _ (xs2 _ _ xq1), xq3, Nat.le_trans (show ((ts.drop 1).map V.ref).length + 1 ≤ 1000 by rw [List.length_map, List.length_drop]; omega) (by decide), fun xc xgc => ?_⟩
    generalize eH : upd xH3 xc (_ : HO) = xH4
    have xs4 : Same xH3 xH4 := by rw [← eH]; exact same_new xgc
    have xq4 : xH4 xc = some (.lst ((ts.drop 1).map V.ref ++ [.ref xt])) := by rw [← eH]; exact upd_same
    clear eH
    have xu4 : Same Hb xH4 := ((xs1.trans xs2).trans xs3).trans xs4
    have xnd : ((ks.drop 1 ++ [(("nobody" : Str), V.int 0)]).map (·.1)).Nodup := by
      rw [List.map_append, kd]
      refine List.nodup_append.mpr ⟨nd1.2, List.pairwise_singleton _ _, fun x hx y hy => ?_⟩
      rw [List.mem_singleton.mp hy]
      exact nob1 x hx
    refine ⟨xc, ts.drop 1 ++ [xt], rowsOf (ks.drop 1 ++ [(("nobody" : Str), V.int 0)]), rfl, ?_, ?_, fun xd xgd => ?_⟩
    · refine SqL.of ?_
      rw [xq4, List.map_append]
      rfl
    · unfold rowsOf
      rw [List.map_append]
      refine paired_append ?_ (.cons (SqT.of (xs4 _ _ (xs3 _ _ xq2))) .nil)
      show Paired _ (ts.drop 1) (rowsOf (ks.drop 1))
      rw [← rd]
      exact paired_drop 1 (paired_same (fun _ _ z => SqT.of (xu4 _ _ ((ua.trans sb) _ _ z))) r2)
    rw [rows_merge xnd]
    generalize eH : upd xH4 xd (_ : HO) = xH5
    have xs5 : Same xH4 xH5 := by rw [← eH]; exact same_new xgd
    have xq5 : xH5 xd = some (.dK (rowsOf (ks.drop 1 ++ [(("nobody" : Str), V.int 0)]))) := by rw [← eH]; exact upd_same
    clear eH
    have xu5 : Same Hb xH5 := xu4.trans xs5
    have xfd : xd ≠ f := Ne.symm (ne_of_none (xu4 _ _ qb) xgd)
    refine ⟨f, _, _, rfl, rfl, xu5 _ _ qb, show 9 < sizeLine by decide, ?_⟩
    have bigF : ∀ {m : Str} {v : V}, m = "nobody" ∧ v = .int 0 ∨ m = n0 ∧ (∀ i : Int, 0 ≤ i → v ≠ .int i) → ∃ n ∈ N, ∀ i : Int, 0 ≤ i → ¬ (n, V.int i) ∈ ks.drop 1 ++ [(m, v)] := fun {m v} c => by
      refine ⟨n0, by rw [hN]; exact List.mem_cons_self, fun i hi hm => ?_⟩
      rcases List.mem_append.mp hm with hm | hm
      · have q := List.mem_map_of_mem (f := fun p : Str × V => p.1) hm
        rw [kd] at q
        exact nd1.1 q
      · have q := List.mem_singleton.mp hm
        rcases c with ⟨rfl, rfl⟩ | ⟨rfl, c⟩
        · have : n0 = "nobody" := (Prod.mk.inj q).1
          exact nob n0 (by rw [hN]; exact List.mem_cons_self) this
        · exact c i hi (Prod.mk.inj q).2.symm
    have oddX : OddH K N (hid (fun b => decide (b = f)) xH5) (.ref xd) := by
      refine odd_rows (hidb xq5 xfd) (by rw [List.length_append, List.length_drop]; show _ + 1 ≤ 1000; omega) (fun q hq => ?_) (.inr (bigF (.inl ⟨rfl, rfl⟩)))
      rcases List.mem_append.mp hq with hq | hq
      · rw [k3 q (List.mem_of_mem_drop hq)]
        exact ⟨⟨_, .int 3⟩, Lv.sc (.int 3)⟩
      · rw [List.mem_singleton.mp hq]
        exact ⟨⟨_, .int 0⟩, Lv.sc (.int 0)⟩
    generalize eF : upd xH5 f (HO.lst _) = Hc
    have qc : Hc f = some (.lst ([.non, .int 5, .str "ab", .ref l3, .ref l4, .bl true, .ref p, .ref l6, .ref l9] ++ [.ref xd])) := by rw [← eF]; exact upd_same
    have sc : Same Ha Hc := by rw [← eF]; exact same_mut (sb.trans xu5) fH
    have oddc : ∀ y ∈ ([.non, .int 5, .str "ab", .ref l3, .ref l4, .bl true, .ref p, .ref l6, .ref l9] ++ [.ref xd] : List V), OddH K N (hid (fun b => decide (b = f)) Hc) y := fun y hy => by
      rw [← eF]
      rcases List.mem_append.mp hy with hy | hy
      · exact put (grow xu5 (odd0 y hy))
      · rw [List.mem_singleton.mp hy]
        exact put oddX
    clear eF
    -- the loop
    refine ⟨1, rfl, show 1 ≤ sizeLine by decide, fun lo gl => ?_⟩
    generalize eH : upd Hc lo (_ : HO) = Hd
    have sd : Same Hc Hd := by rw [← eH]; exact same_new gl
    have qd : Hd lo = some (.lst [.int 1]) := by rw [← eH]; exact upd_same
    clear eH
    refine ⟨show 2 ≤ sizeLine by decide, fun tu gt => ?_⟩
    generalize eH : upd Hd tu (_ : HO) = He
    have se : Same Hd He := by rw [← eH]; exact same_new gt
    have qe : He tu = some (.tup [.int 1, .int 2]) := by rw [← eH]; exact upd_same
    clear eH
    refine ⟨show 6 ≤ sizeLine by decide, fun six gx => ?_⟩
    generalize eH : upd He six (_ : HO) = Hg
    have sg : Same He Hg := by rw [← eH]; exact same_new gx
    have qg : Hg six = some (.tup [.int (-1), .non, .bl true, .str "1", .ref lo, .ref tu]) := by rw [← eH]; exact upd_same
    clear eH
    have cg : Same Hc Hg := (sd.trans se).trans sg
    have lof : lo ≠ f := Ne.symm (ne_of_none qc gl)
    have tuf : tu ≠ f := Ne.symm (ne_of_none (sd _ _ qc) gt)
    have sixf : six ≠ f := Ne.symm (ne_of_none ((sd.trans se) _ _ qc) gx)
    refine ⟨six, rfl, ⟨_, SqT.of qg⟩, ?_⟩
    refine for_it (walk_tup (xs := [V.int (-1), .non, .bl true, .str "1", .ref lo, .ref tu])) (fun i σ H' => Same Ha H' ∧ KpB noZ f Hg H' ∧ (∃ o : Option V, σ = [some (.ref d), some (.ref p), some (.str n0), some (.ref f), o]) ∧ ∃ ys : List V, H' f = some (.lst ys) ∧ ys.length ≤ 10 + i ∧ ∀ y ∈ ys, OddH K N (hid (fun b => decide (b = f)) H') y) ?_ (fun i σ H' _ q => SqT.of (q.2.1 _ _ qg rfl sixf)) ?_ ?_
    · exact ⟨sc.trans cg, fun _ _ e _ _ => e, ⟨_, rfl⟩, _, cg _ _ qc, show 10 ≤ 10 by decide, fun y hy => grow cg (oddc y hy)⟩
    · rintro i v σ Hi Hi2 hi ⟨si, bi, ⟨o4, rfl⟩, ys, fi, ly, oi⟩ ⟨rfl, hv⟩
      have i6 : i < 6 := hi
      have qlo := bi _ _ (sg _ _ (se _ _ qd)) rfl lof
      have qtu := bi _ _ (sg _ _ qe) rfl tuf
      have vok : (∃ o, NumV K (hid (fun b => decide (b = f)) Hi2) v o) ∧ Lv 3 (hid (fun b => decide (b = f)) Hi2) v v ∧ ∀ j : Int, 0 ≤ j → v ≠ .int j := by
        have m := List.mem_of_getElem? hv
        simp only [List.mem_cons, List.mem_nil_iff, or_false] at m
        rcases m with rfl | rfl | rfl | rfl | rfl | rfl
        · refine ⟨⟨_, .int _⟩, Lv.sc (.int _), fun j hj z => ?_⟩
          have := V.int.inj z
          omega
        · exact ⟨⟨_, .no TyN.non rfl⟩, Lv.sc .non, fun j _ z => by cases z⟩
        · exact ⟨⟨_, .no TyN.bl rfl⟩, Lv.sc (.bl _), fun j _ z => by cases z⟩
        · exact ⟨⟨_, .no TyN.str rfl⟩, Lv.sc (.str _), fun j _ z => by cases z⟩
        · exact ⟨⟨_, .no (TyN.lst (hidb qlo lof)) rfl⟩, lv_le (lv_seq (n := 0) (.inl (hidb qlo lof)) (show 1 ≤ 1000 by decide) (lv_ints (ns := [1]))) (by decide), fun j _ z => by cases z⟩
        · exact ⟨⟨_, .no (TyN.tup (hidb qtu tuf)) rfl⟩, lv_le (lv_seq (n := 0) (.inr (hidb qtu tuf)) (show 2 ≤ 1000 by decide) (lv_ints (ns := [1, 2]))) (by decide), fun j _ z => by cases z⟩
      refine ⟨_, rfl, .inl ⟨rfl, _, SqL.of fi⟩, _, rfl, 1, rfl, p, _, rfl, SqL.of ((ua.trans si) _ _ e2), fun za zga => ?_⟩
      rw [cut_tail, ← List.map_drop]
      generalize eH : upd Hi2 za (_ : HO) = zH1
      have zs1 : Same Hi2 zH1 := by rw [← eH]; exact same_new zga
      have zq1 : zH1 za = some (.lst ((ts.drop 1).map V.ref)) := by rw [← eH]; exact upd_same
      clear eH
      refine ⟨_, rfl, _, rfl, show 2 ≤ sizeLine by decide, fun zt zgt => ?_⟩
      generalize eH : upd zH1 zt (_ : HO) = zH2
      have zs2 : Same zH1 zH2 := by rw [← eH]; exact same_new zgt
      have zq2 : zH2 zt = some (.tup [.str n0, v]) := by rw [← eH]; exact upd_same
      clear eH
      refine ⟨show 1 ≤ sizeLine by decide, fun zb zgb => ?_⟩
      generalize eH : upd zH2 zb (_ : HO) = zH3
      have zs3 : Same zH2 zH3 := by rw [← eH]; exact same_new zgb
      have zq3 : zH3 zb = some (.lst [.ref zt]) := by rw [← eH]; exact upd_same
      clear eH
      refine ⟨za, zb, _, _, rfl, rfl, zs3 _ _ (zs2 _ _ zq1), zq3, Nat.le_trans (show ((ts.drop 1).map V.ref).length + 1 ≤ 1000 by rw [List.length_map, List.length_drop]; omega) (by decide), fun zc zgc => ?_⟩
      generalize eH : upd zH3 zc (_ : HO) = zH4
      have zs4 : Same zH3 zH4 := by rw [← eH]; exact same_new zgc
      have zq4 : zH4 zc = some (.lst ((ts.drop 1).map V.ref ++ [.ref zt])) := by rw [← eH]; exact upd_same
      clear eH
      have zu4 : Same Hi2 zH4 := ((zs1.trans zs2).trans zs3).trans zs4
      have znd : ((ks.drop 1 ++ [((n0 : Str), v)]).map (·.1)).Nodup := by
        rw [List.map_append, kd]
        refine List.nodup_append.mpr ⟨nd1.2, List.pairwise_singleton _ _, fun x hx y hy => ?_⟩
        rw [List.mem_singleton.mp hy]
        exact no1 x hx
      refine ⟨zc, ts.drop 1 ++ [zt], rowsOf (ks.drop 1 ++ [((n0 : Str), v)]), rfl, ?_, ?_, fun zd zgd => ?_⟩
      · refine SqL.of ?_
        rw [zq4, List.map_append]
        rfl
      · unfold rowsOf
        rw [List.map_append]
        refine paired_append ?_ (.cons (SqT.of (zs4 _ _ (zs3 _ _ zq2))) .nil)
        show Paired _ (ts.drop 1) (rowsOf (ks.drop 1))
        rw [← rd]
        exact paired_drop 1 (paired_same (fun _ _ z => SqT.of (zu4 _ _ ((ua.trans si) _ _ z))) r2)
      rw [rows_merge znd]
      generalize eH : upd zH4 zd (_ : HO) = zH5
      have zs5 : Same zH4 zH5 := by rw [← eH]; exact same_new zgd
      have zq5 : zH5 zd = some (.dK (rowsOf (ks.drop 1 ++ [((n0 : Str), v)]))) := by rw [← eH]; exact upd_same
      clear eH
      have zu5 : Same Hi2 zH5 := zu4.trans zs5
      have zfd : zd ≠ f := Ne.symm (ne_of_none (zu4 _ _ fi) zgd)
      have oddZ : OddH K N (hid (fun b => decide (b = f)) zH5) (.ref zd) := by
        refine odd_rows (hidb zq5 zfd) (by rw [List.length_append, List.length_drop]; show _ + 1 ≤ 1000; omega) (fun q hq => ?_) (.inr (bigF (.inr ⟨rfl, vok.2.2⟩)))
        have gz : Same (hid (fun b => decide (b = f)) Hi2) (hid (fun b => decide (b = f)) zH5) := fun b o q => hid_of (zu5 _ _ (hid_some q)) (hid_not q)
        rcases List.mem_append.mp hq with hq | hq
        · rw [k3 q (List.mem_of_mem_drop hq)]
          exact ⟨⟨_, .int 3⟩, Lv.sc (.int 3)⟩
        · rw [List.mem_singleton.mp hq]
          obtain ⟨o, ho⟩ := vok.1
          exact ⟨⟨o, ho.same gz⟩, stays_lv 3 _ _ _ _ gz vok.2.1⟩
      refine ⟨f, _, _, rfl, rfl, zu5 _ _ fi, Nat.lt_of_le_of_lt (show ys.length ≤ 100 by omega) (by decide), ?_⟩
      refine ⟨same_mut (si.trans zu5) fH, fun b o e z n => ?_, ⟨_, rfl⟩, _, upd_same, by rw [List.length_append]; show ys.length + 1 ≤ 10 + (i + 1); omega, fun y hy => ?_⟩
      · rw [upd_ne n]
        exact zu5 _ _ (bi b o e z n)
      · rcases List.mem_append.mp hy with hy | hy
        · exact put (grow zu5 (oi y hy))
        · rw [List.mem_singleton.mp hy]
          exact put oddZ
    · rintro σ Hi ⟨si, bi, ⟨o4, rfl⟩, ys, fi, ly, oi⟩
      exact ⟨_, rfl, k Hi f ys ((sB.trans ua).trans si) fi fun y hy => (oi y hy).same hid_in⟩
end
end K80
namespace K80
open PySem PySem.Spec PyProof.Rows L2
/-! ### copied: a thing that is no list and no dict, a dict, a list of tuples -/
def spCopy0 (K : PySem.W.Frag) : Sp := fun vs H Q _ => ∃ (v : V) (n : String), vs = [v] ∧ TyN K H v n ∧ (n == "dict") = false ∧ (n == "list") = false ∧ Q v H
def spCopyD : Sp := fun vs H Q _ => ∃ (d : Addr) (N : List Str) (f : Str → V), vs = [.ref d] ∧ H d = some (.dK (dOf N f)) ∧ N.Nodup ∧ N.length ≤ 1000 ∧ ∀ H' l, Same H H' → H l = none → H' l = some (.dK (dOf N f)) → Q (.ref l) H'
def spCopyL : Sp := fun vs H Q _ => ∃ (a : Addr) (us : List Addr), vs = [.ref a] ∧ H a = some (.lst (us.map V.ref)) ∧ us.length ≤ 1000 ∧ (∀ u ∈ us, ∃ xs, H u = some (.tup xs)) ∧ ∀ H' l, Same H H' → H l = none → H' l = some (.lst (us.map V.ref)) → Q (.ref l) H'
section
variable {P : Program} {w : World} {K : PySem.W.Frag} {mg : Str → Option Value} {base : Heap}
theorem ok_copy0 (T : Txt K mg) : FnOk P w K mg base CX0 2 T.law_f_copied.f T.law_f_copied.fd ["_law_thing"] (spCopy0 K) := by
  have G_law_f_copied : FnOk P w K mg base CX0 1 T.law_f_copied.f T.law_f_copied.fd ["_law_thing"] (fun _ _ _ _ => False) := fn_never
  refine T.law_f_copied.F.ok sc_law_f_copied (fun vs H Q E h => ?_) (fun cdv A outer s H vs Q E hr h => ?_)
  · obtain ⟨v, n, rfl, _⟩ := h
    rfl
  · obtain ⟨v, n, rfl, t, e1, e2, k⟩ := h
    -- slots: 0 _law_thing*, 1 _law_key, 2 _law_part
    refine ⟨_, (pss_cons (ps_if (pt_val (pe_callB call_isi (by rfl) T.n_isinstance (by decide +kernel) (pa_cons (pv 0) (pa_cons (pe_bltn (v := .ty "dict") (by rfl) T.n_dict (by decide +kernel) rfl) pa_nil)))) (pss_one (ps_lock (ps_ret (pe_callTy (call_dictP rfl) (by rfl) T.n_dict (by decide +kernel) (pa_cons (pe_lc (own := [("_law_key", 1)]) (g := gName 1) (tt := tYes) rfl sc_law_f_copied.nd (pi_keys (pv 0)) (blkOk_by (N := N_law_f_copied) (own := [("_law_key", 1)]) (sc := defScope s_law_f_copied) (by decide +kernel)) (fun _ _ _ _ _ => (pg_name (i := 1) sc_law_f_copied.nd rfl (Or.inl rfl))) (fun _ _ _ _ _ => pts_nil) (fun _ _ _ _ _ => (pe_tup (pa_cons (pv 1) (pa_cons (pe_dget (hu_of hr) (pv 0) (pv 1) (fun _ _ => rfl)) pa_nil))))) pa_nil))))) pss_nil)
    (pss_one (ps_ret (pe_ifExp (pt_val (pe_callB call_isi (by rfl) T.n_isinstance (by decide +kernel) (pa_cons (pv 0) (pa_cons (pe_bltn (v := .ty "list") (by rfl) T.n_list (by decide +kernel) rfl) pa_nil)))) (pe_lc (own := [("_law_part", 2)]) (g := gName 2) (tt := tYes) rfl sc_law_f_copied.nd (pi_list (pv 0)) (blkOk_by (N := N_law_f_copied) (own := [("_law_part", 2)]) (sc := defScope s_law_f_copied) (by decide +kernel)) (fun _ _ _ _ _ => (pg_name (i := 2) sc_law_f_copied.nd rfl (Or.inl rfl))) (fun _ _ _ _ _ => pts_nil) (fun _ _ _ _ _ => (pe_call G_law_f_copied (hr.mono (by decide)) rfl T.law_f_copied.mgx T.law_f_copied.F.kp T.law_f_copied.b .nil pass0 (pa_cons (pv 2) pa_nil)))) (pv 0))))), ?_⟩
    refine ⟨_, rfl, _, _, _, _, _, rfl, .ty _, t.ty, kit_dict t.m, _, rfl, ?_⟩
    rw [e1]
    refine iteF ⟨_, rfl, _, _, _, _, _, rfl, .ty _, t.ty, kit_list t.m, _, rfl, ?_⟩
    rw [e2]
    exact iteF ⟨_, rfl, k⟩
theorem ok_copyD (T : Txt K mg) : FnOk P w K mg base CX0 2 T.law_f_copied.f T.law_f_copied.fd ["_law_thing"] spCopyD := by
  have G_law_f_copied : FnOk P w K mg base CX0 1 T.law_f_copied.f T.law_f_copied.fd ["_law_thing"] (fun _ _ _ _ => False) := fn_never
  refine T.law_f_copied.F.ok sc_law_f_copied (fun vs H Q E h => ?_) (fun cdv A outer s H vs Q E hr h => ?_)
  · obtain ⟨d, N, f, rfl, _⟩ := h
    rfl
  · obtain ⟨d, N, f, rfl, hd, nd, nz, k⟩ := h
    -- slots: 0 _law_thing*, 1 _law_key, 2 _law_part
    refine ⟨_, (pss_cons (ps_if (pt_val (pe_callB call_isi (by rfl) T.n_isinstance (by decide +kernel) (pa_cons (pv 0) (pa_cons (pe_bltn (v := .ty "dict") (by rfl) T.n_dict (by decide +kernel) rfl) pa_nil)))) (pss_one (ps_lock (ps_ret (pe_callTy (call_dictP rfl) (by rfl) T.n_dict (by decide +kernel) (pa_cons (pe_lc (own := [("_law_key", 1)]) (g := gName 1) (tt := tYes) rfl sc_law_f_copied.nd (pi_keys (pv 0)) (blkOk_by (N := N_law_f_copied) (own := [("_law_key", 1)]) (sc := defScope s_law_f_copied) (by decide +kernel)) (fun _ _ _ _ _ => (pg_name (i := 1) sc_law_f_copied.nd rfl (Or.inl rfl))) (fun _ _ _ _ _ => pts_nil) (fun _ _ _ _ _ => (pe_tup (pa_cons (pv 1) (pa_cons (pe_dget (hu_of hr) (pv 0) (pv 1) (fun _ _ => rfl)) pa_nil))))) pa_nil))))) pss_nil)
    (pss_one (ps_ret (pe_ifExp (pt_val (pe_callB call_isi (by rfl) T.n_isinstance (by decide +kernel) (pa_cons (pv 0) (pa_cons (pe_bltn (v := .ty "list") (by rfl) T.n_list (by decide +kernel) rfl) pa_nil)))) (pe_lc (own := [("_law_part", 2)]) (g := gName 2) (tt := tYes) rfl sc_law_f_copied.nd (pi_list (pv 0)) (blkOk_by (N := N_law_f_copied) (own := [("_law_part", 2)]) (sc := defScope s_law_f_copied) (by decide +kernel)) (fun _ _ _ _ _ => (pg_name (i := 2) sc_law_f_copied.nd rfl (Or.inl rfl))) (fun _ _ _ _ _ => pts_nil) (fun _ _ _ _ _ => (pe_call G_law_f_copied (hr.mono (by decide)) rfl T.law_f_copied.mgx T.law_f_copied.F.kp T.law_f_copied.b .nil pass0 (pa_cons (pv 2) pa_nil)))) (pv 0))))), ?_⟩
    have t : TyN K H (.ref d) "dict" := TyN.dK hd
    refine ⟨_, rfl, _, _, _, _, _, rfl, .ty _, t.ty, kit_dict t.m, _, rfl, iteT ?_⟩
    refine ⟨d, _, hd, trivial, fun od => ?_⟩
    have h0 : upd H d (.frz od (.dK (dOf N f))) d = some (.frz od (.dK (dOf N f))) := upd_same
    have back : ∀ {H' : Hp} {o : HO}, Same (upd H d (.frz od (.dK (dOf N f)))) H' → Same H (upd H' d (.dK (dOf N f))) := fun {H' o} e b u q => by
      by_cases c : b = d
      · rw [c, hd] at q
        rw [c, upd_same, ← q]
      · rw [upd_ne c]
        exact e b u (by rw [upd_ne c]; exact q)
    refine ⟨_, rfl, d, od, rfl, .inl ⟨_, h0, fun D hD => ?_⟩⟩
    refine lcPair walk_keysN nd noZ (fun _ _ => True) (fun _ n v => v = f n) hD rfl (by omega) (fun _ _ _ _ _ _ _ r => r) (fun _ _ _ _ _ _ => trivial) (fun H' e => e.at h0 rfl) trivial (fun _ _ _ _ _ => rfl) (fun _ => rfl) (by exact (by decide : 1 < 3)) (fun i n H' acc Q2 hn e _ hacc q => ?_) fun H1 ps g s1 _ e1 p1 r1 => ?_
    · exact ⟨_, rfl, _, List.getElem?_set_self (by exact (by decide : 1 < 3)), d, _, rfl, .inl ⟨_, Sum.inr n, .inr ⟨od, e.at h0 rfl⟩, rfl, (val_dOf (f := f) (List.mem_of_getElem? hn)).symm⟩, q _ _ KpZ.refl trivial rfl⟩
    have s1' : Same (upd H d (.frz od (.dK (dOf N f)))) H1 := s1
    refine ⟨D, ps, _, rfl, SqL.of e1, paired_same (fun _ _ z => SqT.of z) p1, fun l hl => ?_⟩
    rw [merge_dOf nd, dOf_congr (g := f) r1]
    have s2 : Same (upd H d (.frz od (.dK (dOf N f)))) (upd H1 l (.dK (dOf N f))) := s1'.trans (same_new hl)
    have l0 := s1'.free hl
    have ld : l ≠ d := fun z => by rw [z, h0] at l0; cases l0
    refine ⟨s2 _ _ h0, k _ l (back (o := .dK []) s2) ?_ ?_⟩
    · rw [upd_ne ld] at l0
      exact l0
    · rw [upd_ne ld, upd_same]
theorem ok_copyL (T : Txt K mg) : FnOk P w K mg base CX0 3 T.law_f_copied.f T.law_f_copied.fd ["_law_thing"] spCopyL := by
  have G_law_f_copied : FnOk P w K mg base CX0 2 T.law_f_copied.f T.law_f_copied.fd ["_law_thing"] (spCopy0 K) := ok_copy0 T
  refine T.law_f_copied.F.ok sc_law_f_copied (fun vs H Q E h => ?_) (fun cdv A outer s H vs Q E hr h => ?_)
  · obtain ⟨a, us, rfl, _⟩ := h
    rfl
  · obtain ⟨a, us, rfl, ha, uz, ut, k⟩ := h
    -- slots: 0 _law_thing*, 1 _law_key, 2 _law_part
    refine ⟨_, (pss_cons (ps_if (pt_val (pe_callB call_isi (by rfl) T.n_isinstance (by decide +kernel) (pa_cons (pv 0) (pa_cons (pe_bltn (v := .ty "dict") (by rfl) T.n_dict (by decide +kernel) rfl) pa_nil)))) (pss_one (ps_lock (ps_ret (pe_callTy (call_dictP rfl) (by rfl) T.n_dict (by decide +kernel) (pa_cons (pe_lc (own := [("_law_key", 1)]) (g := gName 1) (tt := tYes) rfl sc_law_f_copied.nd (pi_keys (pv 0)) (blkOk_by (N := N_law_f_copied) (own := [("_law_key", 1)]) (sc := defScope s_law_f_copied) (by decide +kernel)) (fun _ _ _ _ _ => (pg_name (i := 1) sc_law_f_copied.nd rfl (Or.inl rfl))) (fun _ _ _ _ _ => pts_nil) (fun _ _ _ _ _ => (pe_tup (pa_cons (pv 1) (pa_cons (pe_dget (hu_of hr) (pv 0) (pv 1) (fun _ _ => rfl)) pa_nil))))) pa_nil))))) pss_nil)
    (pss_one (ps_ret (pe_ifExp (pt_val (pe_callB call_isi (by rfl) T.n_isinstance (by decide +kernel) (pa_cons (pv 0) (pa_cons (pe_bltn (v := .ty "list") (by rfl) T.n_list (by decide +kernel) rfl) pa_nil)))) (pe_lc (own := [("_law_part", 2)]) (g := gName 2) (tt := tYes) rfl sc_law_f_copied.nd (pi_list (pv 0)) (blkOk_by (N := N_law_f_copied) (own := [("_law_part", 2)]) (sc := defScope s_law_f_copied) (by decide +kernel)) (fun _ _ _ _ _ => (pg_name (i := 2) sc_law_f_copied.nd rfl (Or.inl rfl))) (fun _ _ _ _ _ => pts_nil) (fun _ _ _ _ _ => (pe_call G_law_f_copied (hr.mono (by decide)) rfl T.law_f_copied.mgx T.law_f_copied.F.kp T.law_f_copied.b .nil pass0 (pa_cons (pv 2) pa_nil)))) (pv 0))))), ?_⟩
    have t : TyN K H (.ref a) "list" := TyN.lst ha
    refine ⟨_, rfl, _, _, _, _, _, rfl, .ty _, t.ty, kit_dict t.m, _, rfl, iteF ?_⟩
    refine ⟨_, rfl, _, _, _, _, _, rfl, .ty _, t.ty, kit_list t.m, _, rfl, iteT ?_⟩
    refine ⟨_, rfl, a, rfl, ⟨_, SqL.of ha⟩, fun D hD => ?_⟩
    refine lcP (xs := us.map V.ref) walk_list (fun _ => true) (fun x => x) hD (by rw [List.length_map]; omega) (fun H' e => SqL.of (e _ _ ha)) (fun _ => rfl) (fun _ _ _ _ _ q => q _ (Same.refl _)) (fun x H' Q2 hm _ e q => ?_) fun H1 s1 h1 => ?_
    · obtain ⟨u, hu, rfl⟩ := List.mem_map.mp hm
      obtain ⟨xs, hx⟩ := ut u hu
      exact ⟨_, rfl, _, "tuple", rfl, TyN.tup (e _ _ hx), rfl, rfl, q _ (Same.refl _)⟩
    rw [List.filter_eq_self.mpr (fun _ _ => rfl), List.map_id'] at h1
    exact k H1 D s1 hD h1
end
end K80
namespace K80
open PySem PySem.Spec PyProof.Rows L2
/-! ### d.update(d2) -/
def rDUpdate : V → List V → Hp → VK → Prop := fun x vs H Q => ∃ (a b : Addr) (kvs lvs : List (Key × V)), x = .ref a ∧ vs = [.ref b] ∧ a ≠ b ∧ H a = some (.dK kvs) ∧ H b = some (.dK lvs) ∧ kvs.length + lvs.length ≤ sizeLine ∧ Q .non (upd H a (.dK (mergeK kvs lvs)))
theorem mtd_update {X : Cx} : MtR X "dict.update" rDUpdate := by
  intro pins s σ H x vs v us Q I rx rv h
  obtain ⟨a, b, kvs, lvs, rfl, rfl, ab, ha, hb, hz, q⟩ := h
  cases (show v = Value.ref a from rx)
  obtain ⟨u, rfl, ru⟩ := vals1 rv
  cases (show u = Value.ref b from ru)
  obtain ⟨za, da, as, ra, ea⟩ := dk_of I.hok ha
  obtain ⟨zb, db, bs, rb, eb⟩ := dk_of I.hok hb
  refine call_meetsIn PySem.F.slot_dict_update ea.typeIs PySem.F.entry_dict_update (PySem.F.args_dict_update_2 _ _) (meets_dict_update (mixKind X.prog X.w) a b ab db) ⟨as, bs, ea, eb, by rw [← ra.length, ← rb.length]; exact hz, fun h' ea' _ hs => ?_⟩
  have there : ∃ o, h'.get? a = some o := let ⟨o, _, _, ho, _⟩ := ea'; ⟨o, ho⟩
  refine ⟨.non, _, d_write (t' := s.toks) I (by rw [ha]; exact True.intro) hs there (dk_new (Nat.le_trans (length_mergeK lvs kvs) (by omega)) da (KV.merge rb ra) ea'), rfl, q⟩
/-- _law_f_change: a dict, a list of tuples -/
def spChangeD : Sp := fun vs H Q _ => ∃ (a b : Addr) (kvs : List (Key × V)) (N : List Str) (f : Str → V), vs = [.ref a, .ref b] ∧ a ≠ b ∧ H a = some (.dK kvs) ∧ H b = some (.dK (dOf N f)) ∧ N.Nodup ∧ N.length ≤ 1000 ∧ ∀ H', (∀ c o, H c = some o → c ≠ a → H' c = some o) → H' a = some (.dK (dOf N f)) → Q .non H'
def spChangeL : Sp := fun vs H Q _ => ∃ (a b : Addr) (us ws : List Addr), vs = [.ref a, .ref b] ∧ a ≠ b ∧ H a = some (.lst (us.map V.ref)) ∧ H b = some (.lst (ws.map V.ref)) ∧ us.length ≤ 1000 ∧ ws.length ≤ 1000 ∧ (∀ u ∈ us, ∃ xs, H u = some (.tup xs)) ∧ (∀ u ∈ ws, ∃ xs, H u = some (.tup xs)) ∧
  ∀ H', (∀ c o, H c = some o → c ≠ a → H' c = some o) → H' a = some (.lst (ws.map V.ref)) → Q .non H'
section
variable {P : Program} {w : World} {K : PySem.W.Frag} {mg : Str → Option Value} {base : Heap}
theorem ok_changeD (T : Txt K mg) : FnOk P w K mg base CX0 4 T.law_f_change.f T.law_f_change.fd ["_law_held", "_law_other"] spChangeD := by
  have G_copyL : FnOk P w K mg base CX0 3 T.law_f_copied.f T.law_f_copied.fd ["_law_thing"] spCopyL := ok_copyL T
  have G_law_f_change : FnOk P w K mg base CX0 1 T.law_f_change.f T.law_f_change.fd ["_law_held", "_law_other"] (fun _ _ _ _ => False) := fn_never
  refine T.law_f_change.F.ok sc_law_f_change (fun vs H Q E h => ?_) (fun cdv A outer s H vs Q E hr h => ?_)
  · obtain ⟨a, b, kvs, N, f, rfl, _⟩ := h
    rfl
  · obtain ⟨a, b, kvs, N, f, rfl, ab, ha, hb, nd, nz, k⟩ := h
    -- slots: 0 _law_held, 1 _law_other
    refine ⟨_, (pss_one (ps_if (pt_val (pe_callB call_isi (by rfl) T.n_isinstance (by decide +kernel) (pa_cons (pv 0) (pa_cons (pe_bltn (v := .ty "dict") (by rfl) T.n_dict (by decide +kernel) rfl) pa_nil)))) (pss_cons (ps_expr (pe_bm0 PySem.F.plainAttrs_dict PySem.F.slot_dict_clear PySem.F.type_dict_clear mtd_clear (pv 0)))
    (pss_one (ps_expr (pe_bm PySem.F.plainAttrs_dict PySem.F.slot_dict_update PySem.F.type_dict_update mtd_update (pv 0) (pa_cons (pv 1) pa_nil))))) (pss_one (ps_if (PW.pt (pw_and (pt_cmpR op_eq (pe_callB call_len_seq (by rfl) T.n_len (by decide +kernel) (pa_cons (pv 0) pa_nil)) pe_int (nomark _)) (pw_and (pt_val (pe_callB call_isi (by rfl) T.n_isinstance (by decide +kernel) (pa_cons (pe_ix ix_list (pv 0) pe_int (fun _ _ => rfl)) (pa_cons (pe_bltn (v := .ty "str") (by rfl) T.n_str (by decide +kernel) rfl) pa_nil)))) (pw_and1 (pt_val (pe_callB call_isi (by rfl) T.n_isinstance (by decide +kernel) (pa_cons (pe_ix ix_list (pv 0) pe_int (fun _ _ => rfl)) (pa_cons (pe_bltn (v := .ty "list") (by rfl) T.n_list (by decide +kernel) rfl) pa_nil)))))))) (pss_cons (ps_asg (pe_ix ix_list (pv 1) pe_int (fun _ _ => rfl)) (pg_sub (pv 0) pe_int set_list))
    (pss_one (ps_expr (pe_call G_law_f_change (hr.mono (by decide)) rfl T.law_f_change.mgx T.law_f_change.F.kp T.law_f_change.b .nil pass0 (pa_cons (pe_ix ix_list (pv 0) pe_int (fun _ _ => rfl)) (pa_cons (pe_ix ix_list (pv 1) pe_int (fun _ _ => rfl)) pa_nil)))))) (pss_cons (ps_expr (pe_bm0 PySem.F.plainAttrs_list PySem.F.slot_list_clear PySem.F.type_list_clear mt_clear (pv 0)))
    (pss_one (ps_expr (pe_bm PySem.F.plainAttrs_list PySem.F.slot_list_extend PySem.F.type_list_extend mt_extend (pv 0) (pa_cons (pe_call G_copyL (hr.mono (by decide)) rfl T.law_f_copied.mgx T.law_f_copied.F.kp T.law_f_copied.b .nil pass0 (pa_cons (pv 1) pa_nil)) pa_nil))))))))), ?_⟩
    have t : TyN K H (.ref a) "dict" := TyN.dK ha
    refine ⟨_, rfl, _, _, _, _, _, rfl, .ty _, t.ty, kit_dict t.m, _, rfl, iteT ?_⟩
    refine ⟨_, rfl, .inr (.inr (.inl ⟨rfl, .inl ⟨_, ha⟩⟩)), a, _, rfl, rfl, ha, ?_⟩
    have b1 : upd H a (.dK []) b = some (.dK (dOf N f)) := by rw [upd_ne (Ne.symm ab)]; exact hb
    refine ⟨_, rfl, .inr (.inr (.inl ⟨rfl, .inl ⟨_, upd_same⟩⟩)), _, rfl, a, b, _, _, rfl, rfl, ab, upd_same, b1, ?_, ?_⟩
    · rw [dOf_len]
      exact Nat.le_trans (show 0 + N.length ≤ 1000 by omega) (by decide)
    rw [upd_upd, merge_dOf nd]
    exact k _ (fun c o e n => by rw [upd_ne n]; exact e) upd_same
theorem ok_changeL (T : Txt K mg) : FnOk P w K mg base CX0 4 T.law_f_change.f T.law_f_change.fd ["_law_held", "_law_other"] spChangeL := by
  have G_copyL : FnOk P w K mg base CX0 3 T.law_f_copied.f T.law_f_copied.fd ["_law_thing"] spCopyL := ok_copyL T
  have G_law_f_change : FnOk P w K mg base CX0 1 T.law_f_change.f T.law_f_change.fd ["_law_held", "_law_other"] (fun _ _ _ _ => False) := fn_never
  refine T.law_f_change.F.ok sc_law_f_change (fun vs H Q E h => ?_) (fun cdv A outer s H vs Q E hr h => ?_)
  · obtain ⟨a, b, us, ws, rfl, _⟩ := h
    rfl
  · obtain ⟨a, b, us, ws, rfl, ab, ha, hb, uz, wz, ut, wt, k⟩ := h
    -- slots: 0 _law_held, 1 _law_other
    refine ⟨_, (pss_one (ps_if (pt_val (pe_callB call_isi (by rfl) T.n_isinstance (by decide +kernel) (pa_cons (pv 0) (pa_cons (pe_bltn (v := .ty "dict") (by rfl) T.n_dict (by decide +kernel) rfl) pa_nil)))) (pss_cons (ps_expr (pe_bm0 PySem.F.plainAttrs_dict PySem.F.slot_dict_clear PySem.F.type_dict_clear mtd_clear (pv 0)))
    (pss_one (ps_expr (pe_bm PySem.F.plainAttrs_dict PySem.F.slot_dict_update PySem.F.type_dict_update mtd_update (pv 0) (pa_cons (pv 1) pa_nil))))) (pss_one (ps_if (PW.pt (pw_and (pt_cmpR op_eq (pe_callB call_len_seq (by rfl) T.n_len (by decide +kernel) (pa_cons (pv 0) pa_nil)) pe_int (nomark _)) (pw_and (pt_val (pe_callB call_isi (by rfl) T.n_isinstance (by decide +kernel) (pa_cons (pe_ix ix_list (pv 0) pe_int (fun _ _ => rfl)) (pa_cons (pe_bltn (v := .ty "str") (by rfl) T.n_str (by decide +kernel) rfl) pa_nil)))) (pw_and1 (pt_val (pe_callB call_isi (by rfl) T.n_isinstance (by decide +kernel) (pa_cons (pe_ix ix_list (pv 0) pe_int (fun _ _ => rfl)) (pa_cons (pe_bltn (v := .ty "list") (by rfl) T.n_list (by decide +kernel) rfl) pa_nil)))))))) (pss_cons (ps_asg (pe_ix ix_list (pv 1) pe_int (fun _ _ => rfl)) (pg_sub (pv 0) pe_int set_list))
    (pss_one (ps_expr (pe_call G_law_f_change (hr.mono (by decide)) rfl T.law_f_change.mgx T.law_f_change.F.kp T.law_f_change.b .nil pass0 (pa_cons (pe_ix ix_list (pv 0) pe_int (fun _ _ => rfl)) (pa_cons (pe_ix ix_list (pv 1) pe_int (fun _ _ => rfl)) pa_nil)))))) (pss_cons (ps_expr (pe_bm0 PySem.F.plainAttrs_list PySem.F.slot_list_clear PySem.F.type_list_clear mt_clear (pv 0)))
    (pss_one (ps_expr (pe_bm PySem.F.plainAttrs_list PySem.F.slot_list_extend PySem.F.type_list_extend mt_extend (pv 0) (pa_cons (pe_call G_copyL (hr.mono (by decide)) rfl T.law_f_copied.mgx T.law_f_copied.F.kp T.law_f_copied.b .nil pass0 (pa_cons (pv 1) pa_nil)) pa_nil))))))))), ?_⟩
    have t : TyN K H (.ref a) "list" := TyN.lst ha
    refine ⟨_, rfl, _, _, _, _, _, rfl, .ty _, t.ty, kit_dict t.m, _, rfl, iteF ?_⟩
    have clear : ∀ {c : Addr} {H1 : Hp}, upd H a (.lst []) = H1 → H1 a = some (.lst []) ∧ H1 b = some (.lst (ws.map V.ref)) ∧ (∀ u ∈ ws, ∃ xs, H1 u = some (.tup xs)) := fun {c H1} e => by
      subst e
      refine ⟨upd_same, by rw [upd_ne (Ne.symm ab)]; exact hb, fun u hu => ?_⟩
      obtain ⟨xs, hx⟩ := wt u hu
      exact ⟨xs, by rw [upd_ne (ne_of hx ha (fun z => nomatch z))]; exact hx⟩
    obtain ⟨q1, q2, q3⟩ := clear (c := a) rfl
    have tail : ∀ {l : Addr} {H2 : Hp}, Same (upd H a (.lst [])) H2 → (upd H a (.lst [])) l = none → H2 l = some (.lst (ws.map V.ref)) → ∃ (x y : Addr) (xs zs : List V), V.ref a = .ref x ∧ [V.ref l] = [.ref y] ∧ H2 x = some (.lst xs) ∧ H2 y = some (.lst zs) ∧ xs.length + zs.length ≤ sizeLine ∧ Q .non (upd H2 x (.lst (xs ++ zs))) := fun {l H2} s2 fl e2 => by
      refine ⟨a, l, [], _, rfl, rfl, s2 _ _ q1, e2, Nat.le_trans (show 0 + (ws.map V.ref).length ≤ 1000 by rw [List.length_map]; omega) (by decide), ?_⟩
      rw [List.nil_append]
      refine k _ (fun c o e n => ?_) upd_same
      rw [upd_ne n]
      exact s2 _ _ (by rw [upd_ne n]; exact e)
    have last : rClear (.ref a) [] H (fun v H1 => v = .non ∧ H1 = upd H a (.lst [])) := ⟨a, _, rfl, rfl, ha, rfl, rfl⟩
    refine ⟨_, rfl, _, _, rfl, .inl (SqL.of ha), rfl, decide (us.length = 2), ?_, ite2 (fun c => ?_) fun c => ?_⟩
    · rw [List.length_map]
      refine congrArg V.bl (decide_eq_decide.mpr ⟨fun z => by have := V.int.inj z; omega, fun z => by rw [z]; rfl⟩)
    · have u2 : us.length = 2 := of_decide_eq_true c
      obtain ⟨u0, hu0⟩ : ∃ u0, us[0]? = some u0 := ⟨_, List.getElem?_eq_getElem (by omega)⟩
      obtain ⟨xs, hx⟩ := ut u0 (List.mem_of_getElem? hu0)
      have h0 : (us.map V.ref)[0]? = some (.ref u0) := by rw [List.getElem?_map, hu0] <;> rfl
      have t0 : TyN K H (.ref u0) "tuple" := TyN.tup hx
      refine ⟨_, rfl, ⟨a, _, _, _, rfl, rfl, SqL.of ha, atI_nat (j := 0) h0, _, _, _, _, _, rfl, .ty _, t0.ty, kit_str t0.m, _, rfl, iteF ?_⟩⟩
      refine ⟨_, rfl, .inl ⟨rfl, _, SqL.of ha⟩, a, _, rfl, rfl, ha, ?_⟩
      exact ⟨_, rfl, .inl ⟨rfl, _, SqL.of q1⟩, _, rfl, b, ws, rfl, q2, wz, q3, fun H2 l s2 fl e2 => tail s2 fl e2⟩
    · refine ⟨_, rfl, .inl ⟨rfl, _, SqL.of ha⟩, a, _, rfl, rfl, ha, ?_⟩
      exact ⟨_, rfl, .inl ⟨rfl, _, SqL.of q1⟩, _, rfl, b, ws, rfl, q2, wz, q3, fun H2 l s2 fl e2 => tail s2 fl e2⟩
end
end K80
namespace K80
open PySem PySem.Spec PyProof.Rows L2
/-! ### try with many clauses, each with a name -/
/-- a clause: the class, the slot of its name, its suite -/
structure Clause where
  kl : Value
  at_ : Nat
  su : Addr → Value → Option Addr → TS
/-- behind a suite the name's slot is empty -/
def endAt (D : Ends) (i : Nat) : Ends := ⟨fun τ => D.nx (τ.set i none), D.rt, fun τ => D.bk (τ.set i none), fun τ => D.ct (τ.set i none)⟩
def wClauses (K : PySem.W.Frag) (W0 : WX) (D : Ends) : List Clause → WX
  | [] => W0
  | q :: r => fun cls d τ G => ∃ b, PySem.W.exmOne K cls q.kl = some b ∧ (b = true → ∀ x, G x = none → q.at_ < τ.length → q.su x cls d (endAt D q.at_) (τ.set q.at_ (some (.ref x))) G) ∧ (b = false → wClauses K W0 D r cls d τ G)
inductive ClOk (Z : Cx) : List ExceptHandler → List Clause → Prop
  | nil : ClOk Z [] []
  | cons {m n : Str} {q : Clause} {st : Stmt} {sts : List Stmt} {po po' : Pos} {es : List ExceptHandler} {l : List Clause} (nm : Names Z m q.kl) (ix : Z.N[q.at_]? = some n) (lo : Z.env.kindOf n = some .local)
      (su : ∀ (x : Addr) (o : Obj) (cls : Value) (d : Option Addr) (qs : List (Addr × Obj)), Zc cls d o → (∃ vs, o.data = .fields vs) → PSs (Z.suite x ((x, o) :: qs)) (st :: sts) (q.su x cls d)) (r : ClOk Z es l) :
      ClOk Z (.ExceptHandler (some (.Name m po)) (some n) (st :: sts) po' :: es) (q :: l)
section
variable {Z : Cx} {bd : List Stmt} {e₀ : ExceptHandler} {es : List ExceptHandler} {l : List Clause} {po : Pos} {tb : WX → TS} {W0 : WX}
theorem ps_clauses (st : Z.stack = Z.env :: Z.outer) (fm : Z.env.frame = some Z.env.locals) (nd : Z.N.Nodup) (tk : Takes Z W0)
    (pb : ∀ (W : WX) (qs : List (Addr × Obj)) (xe : Value → Shared → Prop), Takes (Z.tr qs xe) W → PassesOwn (model Z.prog Z.w) Z.A Z.env xe → PSs (Z.tr qs xe) bd (tb W))
    (ok : ClOk Z (e₀ :: es) l) : PS Z (.Try bd (e₀ :: es) [] [] po) (fun D τ G => tb (wClauses Z.K W0 D l) D τ G) := by
  constructor
  intro ps s τ G D J0 h
  have O := J0.ok
  have fr : Z.A.frames = some (Z.env :: Z.outer) := O.frames.trans (congrArg some st)
  apply wpAny_Try_except
  refine wpAny_mono ((pb (wClauses Z.K W0 D l) (Z.pn ++ ps) (fun e s₁ => wpAny (model Z.prog Z.w) Z.A (noteFrame e Z.env) (fun _ s₂ => wpAny (model Z.prog Z.w) Z.A (setFlight e none) (fun _ s₃ =>
    wpAny (model Z.prog Z.w) Z.A (handleBy e Z.env (e₀ :: es)) (SP Z ps D) Z.xe s₃) Z.xe s₂) Z.xe s₁) (fun u s' thrown => ?_) PassesOwn.looking).run [] s τ G D (J0.toTry _) h) (fun f s1 done => ?_) (fun _ _ z => z)
  · obtain ⟨x, B, sI, ps', τ', G', cls, d, rfl, JT, nb, up, sk, nx, os, ag, w⟩ := thrown
    have J : Inv Z ps τ' G' sI := JT.ofTry O
    have sk' : Sky B (Z.env :: Z.outer) x (Zc cls d) Z.env.locals s'.heap := st ▸ sk
    change wpAny (model Z.prog Z.w) Z.A (noteFrame (.ref x) Z.env) _ _ _
    refine Sky.land Zc.steady fr fm sk' fun h3 fl up3 => ?_
    have JL : Inv Z ps τ' G' { s' with heap := h3 } := J.landed nb fl.1 (up.trans up3) os ag
    obtain ⟨o3, v3, g3, z3, d3⟩ := fl.there
    have off : x ∉ frs (Z.env :: Z.outer) := fun m => by
      obtain ⟨-, o', e', far⟩ := fl.2.2.1.mem m
      obtain rfl : o3 = o' := Option.some.inj (g3.symm.trans e')
      exact far _ d3
    have offL : x ≠ Z.env.locals := fun z => off (List.mem_filterMap.mpr ⟨Z.env, .head _, by rw [fm, z]⟩)
    have offF : x ∉ Z.fs := fun m =>
      let ⟨e, m1, m2⟩ := List.mem_filterMap.mp m
      off (List.mem_filterMap.mpr ⟨e, .tail _ m1, m2⟩)
    have JS := JL.suite g3 d3 nx offL offF
    have run : ∀ {es' : List ExceptHandler} {l' : List Clause}, ClOk Z es' l' → wClauses Z.K W0 D l' cls d τ' G' → wpAny (model Z.prog Z.w) Z.A (handleBy (.ref x) Z.env es') (SP Z ps D) Z.xe { s' with heap := h3 } := by
      intro es' l' hk
      induction hk with
      | nil =>
        intro w
        apply wpAny_handleBy_nil
        obtain ⟨-, -, -, o, vs, T, oT, ts', ho, hz, hd, i1, hr⟩ := id fl
        unfold PySem.passOn
        refine wpAny_bind (wpAny_field ho hd i1 ?_)
        rw [if_neg (by simp : ¬ ((Value.ref T == Value.none) = true))]
        have out : wpAny (model Z.prog Z.w) Z.A (setFlight (.ref x) Z.env.frame) (fun _ s4 => wpAny (model Z.prog Z.w) Z.A (throw (.ref x) : Sem Flow) (SP Z ps D) Z.xe s4) Z.xe { s' with heap := h3 } := by
          rw [fm]
          refine HandSPX.setFlight_upZ fl fun h4 hh4 up4 => wpAny_throw (tk _ _ ?_)
          exact ⟨x, B, sI, ps, τ', G', cls, d, rfl, J, nb, (up.trans up3).trans up4, .inr (.inr (st.symm ▸ hh4)), nx, os, ag, w⟩
        first
          | exact wpAny_bind (wpAny_pure (wpAny_bind out))
          | exact wpAny_bind out
      | @cons m n q c₀ sts po1 po2 es2 l2 nm ix lo su r ih =>
        rintro ⟨b, hb, yes, no⟩
        refine wpAny_handleBy_cons (codeAny_handlers_test ?_) (fun z => by cases z)
        have TYP : PySem.W.Looks (model Z.prog Z.w) h3 (typeOf (.ref x)) cls := fun A Q E s k q => wpAny_typeOf_ref (k _ _ g3) (z3.1.symm ▸ q)
        have EXM := PySem.W.exm_one (M := model Z.prog Z.w) JL.kIn TYP hb
        have named : ∀ {Q E : Value → Shared → Prop}, Q q.kl { s' with heap := h3 } → wpAny (model Z.prog Z.w) (Z.A.mark (some (.ref x))) (eval (.Name m po1) Z.env) Q E { s' with heap := h3 } := by
          intro Q E k
          obtain ⟨gl, db, at1 | ⟨at1, bt, nn⟩⟩ := nm
          · exact ld_glob (X := Z.suite x ((x, o3) :: (Z.pn ++ ps))) JS gl at1 k db
          · exact ld_blt (X := Z.suite x ((x, o3) :: (Z.pn ++ ps))) JS gl at1 bt k nn db
        refine named (EXM.here ?_)
        cases b with
        | false => exact ih (no rfl)
        | true =>
          apply codeAny_handlers_suite_as
          refine HandSPX.lands_againZ fl fun h4 fl4 up4 => ?_
          have J4 : Inv Z ps τ' G' { s' with heap := h4 } := J.landed nb fl4.1 ((up.trans up3).trans up4) os ag
          obtain ⟨o4, v4, g4, z4, d4⟩ := fl4.there
          refine store_ok (X := Z.suite x ((x, o4) :: (Z.pn ++ ps))) (v := .ref x) (J4.suite g4 d4 nx offL offF) nd ix (.inl lo) rfl (fun s5 J5 => ?_) (.inr lo)
          refine wpAny_mono ((su x o4 cls d (Z.pn ++ ps) z4 ⟨_, d4⟩).run [] s5 _ G' _ J5 (yes rfl x nx (by have e := J.len; rw [e]; exact (List.getElem?_eq_some_iff.mp ix).1))) (fun f s6 done => ?_) (fun _ _ z => z.elim)
          have shut : ∀ {τ6 : L2.St} {G6 : Hp} {Q : Shared → Prop}, Inv (Z.suite x ((x, o4) :: (Z.pn ++ ps))) [] τ6 G6 s6 → (∀ s7, Inv Z ps (τ6.set q.at_ none) G6 s7 → Q s7) →
              wpAny (model Z.prog Z.w) Z.A (do bindName Z.env n .none; unbindBehindTheSuite Z.env n po2) (fun _ s7 => Q s7) Z.xe s6 := fun J6 k => gone_ok (J6.unsuite O) nd ix lo k
          cases f with
          | ret u =>
            obtain ⟨v6, τ6, G6, J6, r6, k⟩ := done
            exact shut J6 fun s7 J7 => ⟨_, _, _, J7, r6, k⟩
          | next =>
            obtain ⟨τ6, G6, J6, k⟩ := done
            exact shut J6 fun s7 J7 => ⟨_, _, J7, k⟩
          | brk =>
            obtain ⟨τ6, G6, J6, k⟩ := done
            exact shut J6 fun s7 J7 => ⟨_, _, J7, k⟩
          | cont =>
            obtain ⟨τ6, G6, J6, k⟩ := done
            exact shut J6 fun s7 J7 => ⟨_, _, J7, k⟩
    exact run ok w
  · cases f with
    | next =>
      obtain ⟨τ', G', J', k⟩ := done
      exact wpAny_execs_nil ⟨τ', G', J'.ofTry O, k⟩
    | ret u =>
      obtain ⟨v, τ', G', J', r, k⟩ := done
      exact ⟨v, τ', G', J'.ofTry O, r, k⟩
    | brk =>
      obtain ⟨τ', G', J', k⟩ := done
      exact ⟨τ', G', J'.ofTry O, k⟩
    | cont =>
      obtain ⟨τ', G', J', k⟩ := done
      exact ⟨τ', G', J'.ofTry O, k⟩
end
end K80
namespace K80
open PySem PySem.Spec PyProof.Rows L2
/-! ### _law_met -/
structure Cat (K : PySem.W.Frag) (CV CE CH : Addr) : Prop where
  vv : PySem.W.exmOne K (.ref CV) (.ref CV) = some true
  ev : PySem.W.exmOne K (.ref CE) (.ref CV) = some false
  ee : PySem.W.exmOne K (.ref CE) (.ref CE) = some true
  hv : PySem.W.exmOne K (.ref CH) (.ref CV) = some false
  he : PySem.W.exmOne K (.ref CH) (.ref CE) = some false
  hh : PySem.W.exmOne K (.ref CH) (.ref CH) = some true
/-- a pair of a word and a thing is handed back -/
def Hand (w : Str) (v : V) (H : Hp) (Q : VK) : Prop := ∀ t, H t = none → Q (.ref t) (upd H t (.tup [.str w, v]))
/-- what is caught -/
def Caught (CV CE CH : Addr) (Q : VK) : XK := fun cls d H => ∃ dd v, d = some dd ∧ ((cls = .ref CV ∧ H dd = some (.xd [("thing", v)]) ∧ Hand "valley" v H Q) ∨ (cls = .ref CE ∧ H dd = some (.xd [("evening", v)]) ∧ Hand "evening" v H Q) ∨ (cls = .ref CH ∧ H dd = some (.xd [("heaps", v)]) ∧ Hand "heaps" v H Q))
def TTmet (CV CE CH : Addr) : (XK → Hp → VK → Prop) → Hp → VK → Prop := fun tl H Q => tl (Caught CV CE CH Q) H fun v H' => [V.str "told", v].length ≤ sizeLine ∧ Hand "told" v H' Q
def suTS (w n : Str) (C : Addr) (a : Addr) (cls : Value) (d : Option Addr) : TS := fun D σ H => ∃ (dd : Addr) (v : V), σ[1]? = some (some (.ref a)) ∧ cls = .ref C ∧ d = some dd ∧ H dd = some (.xd [(n, v)]) ∧ Hand w v H D.rt
theorem pss_weak {Y : Cx} {b : List Stmt} {t t' : TS} (h : PSs Y b t) (k : ∀ D σ H, t' D σ H → t D σ H) : PSs Y b t' := ⟨fun pins s σ H D I hq => h.run pins s σ H D I (k _ _ _ hq)⟩
theorem suite_met {Y : Cx} {w n : Str} {C a : Addr} {oe : Obj} {cls : Value} {d : Option Addr} {pn : List (Addr × Obj)} {j k : Nat} {p1 p2 p3 p4 p5 : Pos} (hx : XfC Y.K C) (no : PySem.W.findIn Y.K (.ref C) n = some none) (h1 : Y.N[1]? = some ("e" : Str)) (hv : Vis Y.env.scope "e")
    (hz : Zc cls d oe) (hf : ∃ vs, oe.data = .fields vs) : PSs (Y.suite a ((a, oe) :: pn)) [.Return (some (.Tuple [.Constant (.str w) j p1, .Attribute (.Name "e" p2) n p3] k p4)) p5] (suTS w n C a cls d) := by
  refine pss_weak (pss_one (ps_ret (pe_tup (pa_cons pe_str (pa_cons (pe_xf (X := Y) hx no hz hf (pv 1 h1 hv)) pa_nil))))) fun D σ H hq => ?_
  obtain ⟨dd, v, e1, e2, e3, e4, e5⟩ := hq
  refine ⟨.ref a, e1, rfl, e2, dd, [(n, v)], v, e3, e4, ?_, show 2 ≤ sizeLine by decide, e5⟩
  rw [List.lookup_cons, beq_self_eq_true]
section
variable {P : Program} {w : World} {K : PySem.W.Frag} {mg : Str → Option Value} {X : Cx}
theorem met_gives (T : Txt K mg) (Z : Errs P K mg T) (C : Cat K Z.CV Z.CE Z.CH) {g : Addr} {cdg : Value} {q : Str} (hK : X.K = K) (hm : X.mg = mg) :
    LamX.GivesTo X N_law_met "_law_met" (defScope s_law_met) g cdg (defBody s_law_met) "_law_ask" q (TTmet Z.CV Z.CE Z.CH) := by
  subst hK hm
  intro f c' s H Q tl act hc h
  refine ⟨_, pss_one (ps_clauses (W0 := fun _ _ _ _ => False) (tb := fun W D σ H => ∃ Ech : XK, (∀ cls d σ' H', Ech cls d H' → W cls d σ' H') ∧ σ[0]? = some (some (.ref f)) ∧ H c' = some (LamX.CodeO c' q) ∧ tl Ech H fun v H' => [V.str "told", v].length ≤ sizeLine ∧ Hand "told" v H' D.rt)
      (l := [⟨.ref Z.CV, 1, suTS "valley" "thing" Z.CV⟩, ⟨.ref Z.CE, 1, suTS "evening" "evening" Z.CE⟩, ⟨.ref Z.CH, 1, suTS "heaps" "heaps" Z.CH⟩]) rfl rfl (show N_law_met.Nodup by decide +kernel) LamX.takes0 (fun W pn xe tk _ => ?_)
      (.cons ⟨rfl, by decide, .inl Z.eV.mgC⟩ rfl rfl (fun a oe cls d pn hz hf => suite_met Z.eV.fld Z.eV.noN rfl (.inl rfl) hz hf)
      (.cons ⟨rfl, by decide, .inl Z.eE.mgC⟩ rfl rfl (fun a oe cls d pn hz hf => suite_met Z.eE.fld Z.eE.noN rfl (.inl rfl) hz hf)
      (.cons ⟨rfl, by decide, .inl Z.eH.mgC⟩ rfl rfl (fun a oe cls d pn hz hf => suite_met Z.eH.fld Z.eH.noN rfl (.inl rfl) hz hf) .nil)))), ?_⟩
  · refine ⟨fun pins s' σ H' D I h' => ?_⟩
    obtain ⟨Ech, hW, h1, h2, h3⟩ := h'
    have hp := fun p1 p2 => act W pn xe Ech p1 p2 tk hW
    suffices hq : PSs _ _ (fun D σ H => σ[0]? = some (some (.ref f)) ∧ H c' = some (LamX.CodeO c' q) ∧ tl Ech H fun v H' => [V.str "told", v].length ≤ sizeLine ∧ Hand "told" v H' D.rt) from hq.run pins s' σ H' D I ⟨h1, h2, h3⟩
    refine pss_weak (pss_one (ps_ret (pe_tup (pa_cons pe_str (pa_cons (hp _ _) pa_nil))))) (fun D σ H hq => ?_)
    exact hq
  · refine ⟨Caught Z.CV Z.CE Z.CH Q, fun cls d σ' H' hc' => ?_, rfl, hc, h⟩
    obtain ⟨dd, v, e1, ⟨rfl, e3, e4⟩ | ⟨rfl, e3, e4⟩ | ⟨rfl, e3, e4⟩⟩ := hc'
    · exact ⟨true, C.vv, fun _ x hx hl => ⟨dd, v, (List.getElem?_eq_some_iff.mpr ⟨by rw [List.length_set]; exact hl, List.getElem_set_self _⟩), rfl, e1, e3, e4⟩, fun z => by cases z⟩
    · exact ⟨false, C.ev, (fun z => by cases z), fun _ => ⟨true, C.ee, fun _ x hx hl => ⟨dd, v, (List.getElem?_eq_some_iff.mpr ⟨by rw [List.length_set]; exact hl, List.getElem_set_self _⟩), rfl, e1, e3, e4⟩, fun z => by cases z⟩⟩
    · exact ⟨false, C.hv, (fun z => by cases z), fun _ => ⟨false, C.he, (fun z => by cases z), fun _ => ⟨true, C.hh, fun _ x hx hl => ⟨dd, v, (List.getElem?_eq_some_iff.mpr ⟨by rw [List.length_set]; exact hl, List.getElem_set_self _⟩), rfl, e1, e3, e4⟩, fun z => by cases z⟩⟩⟩
end
end K80
namespace K80
open PySem PySem.Spec PyProof.Rows L2
/-! ### all but tables of code stay: what is known stays -/
open LamX (ExtN Tabs)
section
variable {K : PySem.W.Frag} {H H' : Hp}
theorem TyX.ext {x : V} {t : Value} (e : ExtN H H') (h : TyX K H x t) : TyX K H' x t := by
  cases h with
  | base b =>
    cases b with
    | non => exact .base .non
    | bl b => exact .base (.bl b)
    | int i => exact .base (.int i)
    | str z => exact .base (.str z)
    | flt z => exact .base (.flt z)
    | lst a => exact .base (.lst (e _ _ a (fun _ z => by cases z)))
    | frz a => exact .base (.frz (e _ _ a (fun _ z => by cases z)))
    | tup a => exact .base (.tup (e _ _ a (fun _ z => by cases z)))
    | dK a => exact .base (.dK (e _ _ a (fun _ z => by cases z)))
    | dT a => exact .base (.dT (e _ _ a (fun _ z => by cases z)))
    | ins a b c d f g => exact .base (.ins (e _ _ a (fun _ z => by cases z)) b c d f g)
  | byt b => exact .byt b
  | set a => exact .set (e _ _ a (fun _ z => by cases z))
  | kList a b => exact .kList a b
  | kTuple a b => exact .kTuple a b
  | kDict a b => exact .kDict a b
  | fTuple a => exact .fTuple (e _ _ a (fun _ z => by cases z))
  | fDict a => exact .fDict (e _ _ a (fun _ z => by cases z))
theorem TyN.ext {x : V} {n : String} (e : ExtN H H') (h : TyN K H x n) : TyN K H' x n := ⟨TyX.ext e h.ty, h.m⟩
theorem Seq.ext {a : Addr} {xs : List V} (e : ExtN H H') (h : Seq H a xs) : Seq H' a xs := h.elim (fun z => .inl (e _ _ z (fun _ z => by cases z))) fun z => .inr (e _ _ z (fun _ z => by cases z))
theorem RoadArg.ext {x : V} {o : Option Rd2} (e : ExtN H H') (h : RoadArg K H x o) : RoadArg K H' x o := by
  cases h with
  | no t h => exact .no (t.ext e) h
  | len s h => exact .len (s.ext e) h
  | two s => exact .two (s.ext e)
theorem EvArg.ext {x : V} {o : Option (List (Option Rd2))} (e : ExtN H H') (h : EvArg K H x o) : EvArg K H' x o := by
  cases h with
  | no t h => exact .no (t.ext e) h
  | seq s z h => exact .seq (s.ext e) z (paired_same (fun _ _ q => RoadArg.ext e q) h)
theorem NumV.ext {v : V} {o : Option Int} (e : ExtN H H') (h : NumV K H v o) : NumV K H' v o := by
  cases h with
  | int i => exact .int i
  | no t h => exact .no (t.ext e) h
theorem HpArg.ext {x : V} {o : Option (List (Key × V))} (e : ExtN H H') (h : HpArg K H x o) : HpArg K H' x o := by
  cases h with
  | no t h => exact .no (t.ext e) h
  | dict e2 h => exact .dict (e _ _ e2 (fun _ z => by cases z)) fun n v q => let ⟨o, z⟩ := h n v q; ⟨o, z.ext e⟩
theorem ValAt.ext {C v : Addr} {N : List Str} {R : List Rd2} (e : ExtN H H') (h : ValAt C H v N R) : ValAt C H' v N R := by
  obtain ⟨dx, an, ar, ao, ap, fs, f, rs, pl, h1, h2, h3, h4, h5, h6, h7, h8, h9, h10, h11⟩ := h.ex
  exact ⟨dx, an, ar, ao, ap, fs, f, rs, pl, e _ _ h1 (fun _ z => by cases z), h2, e _ _ h3 (fun _ z => by cases z), h4, e _ _ h5 (fun _ z => by cases z), h6, e _ _ h7 (fun _ z => by cases z),
    paired_same (fun _ _ z => e _ _ z (fun _ z => by cases z)) h8, h9, e _ _ h10 (fun _ z => by cases z), h11⟩
theorem PairsAt.ext {us : List Addr} {R : List Rd2} (e : ExtN H H') (h : PairsAt H us R) : PairsAt H' us R := paired_same (fun _ _ z => e _ _ z (fun _ z => by cases z)) h
theorem SomeAt.ext {p : Addr} {N : List Str} {R : List Rd2} (e : ExtN H H') (h : SomeAt H p N R) : SomeAt H' p N R := by
  obtain ⟨a, b, d, us, hs, h1, h2, h3, h4, h5, h6⟩ := h.ex
  exact ⟨a, b, d, us, hs, e _ _ h1 (fun _ z => by cases z), e _ _ h2 (fun _ z => by cases z), e _ _ h3 (fun _ z => by cases z), PairsAt.ext e h4, e _ _ h5 (fun _ z => by cases z), h6⟩
theorem Val3.ext {C : Addr} {v : V} {b : Bool} (e : ExtN H H') (h : Val3 K C H v b) : Val3 K C H' v b := by
  cases h with
  | yes h => exact .yes (e _ _ h (fun _ z => by cases z))
  | no t => exact .no (t.ext e)
def StaysX (R : RelH) : Prop := ∀ H H' x y, ExtN H H' → R H x y → R H' x y
theorem staysx_up {S D : RelH} {wd : Bool} (hS : StaysX S) (hD : StaysX D) : StaysX (Up S D wd) := fun H H' x y e h => by
  rcases h with h | h | ⟨w, h⟩
  · exact .inl h
  · cases h with
    | lst ha hb z p => exact .inr (.inl (.lst (e _ _ ha (fun _ z => by cases z)) (e _ _ hb (fun _ z => by cases z)) z (paired_same (fun _ _ r => hS _ _ _ _ e r) p)))
    | tup ha hb z p => exact .inr (.inl (.tup (e _ _ ha (fun _ z => by cases z)) (e _ _ hb (fun _ z => by cases z)) z (paired_same (fun _ _ r => hS _ _ _ _ e r) p)))
  · cases h with
    | mk ha hb z p => exact .inr (.inr ⟨w, .mk (e _ _ ha (fun _ z => by cases z)) (e _ _ hb (fun _ z => by cases z)) z (paired_same (fun _ _ r => ⟨r.1, hD _ _ _ _ e r.2⟩) p)⟩)
theorem staysx_lv : ∀ n, StaysX (Lv n)
  | 0 => staysx_up (fun _ _ _ _ _ h => h) fun _ _ _ _ _ h => h
  | n + 1 => staysx_up (staysx_lv n) (staysx_lv n)
theorem OddV.ext {y : V} (e : ExtN H H') (h : OddV K H y) : OddV K H' y := ⟨let ⟨n, t⟩ := h.ty; ⟨n, t.ext e⟩, staysx_lv 4 _ _ _ _ e h.lv⟩
theorem OddE.ext {N : List Str} {R : List Rd2} {y : V} (e : ExtN H H') (h : OddE K N R H y) : OddE K N R H' y := ⟨let ⟨o, a, b⟩ := h.ev; ⟨o, a.ext e, b⟩, staysx_lv 4 _ _ _ _ e h.lv⟩
theorem OddH.ext {N : List Str} {y : V} (e : ExtN H H') (h : OddH K N H y) : OddH K N H' y := ⟨let ⟨o, a, b⟩ := h.hp; ⟨o, a.ext e, b⟩, staysx_lv 4 _ _ _ _ e h.lv⟩
end
end K80
namespace K80
open PySem PySem.Spec PyProof.Rows L2
open LamX (ExtN Tabs TabB)
/-! ### _law_refused_right -/
def tEither (t1 t2 : TE) : TE := fun σ H Q => t1 σ H Q ∨ t2 σ H Q
theorem pe_either {X : Cx} {e : Expr} {t1 t2 : TE} (h1 : PE X e t1) (h2 : PE X e t2) : PE X e (tEither t1 t2) := ⟨fun pins s σ H Q I h => h.elim (h1.run pins s σ H Q I) (h2.run pins s σ H Q I)⟩
/-- a def whose code object is known -/
structure CodeAt (K : PySem.W.Frag) (x : Str) (st : Stmt) (f : Addr) (fd : FuncData) (c : Addr) : Prop where
  ex : ∃ (oc : Value) (od : Option Addr) (kV doc pm : Value) (an : Option Addr) (ct : Value) (osl : Array (Option Value)),
    fd = PySem.W.fnOf x x (defArgs st) (defBody st) (defScope st) .none kV doc pm an (.ref c) ct ∧ K.lookup f = some ⟨oc, od, .func fd, osl⟩ ∧ PySem.W.codeIn K (.ref c) x = true
section
variable {P : Program} {w : World} {K : PySem.W.Frag} {mg : Str → Option Value} {base : Heap}
theorem CodeAt.ok {x : Str} {st : Stmt} {f c : Addr} {fd : FuncData} {N ps : List Str} {k : Nat} {sp : Sp} (F : CodeAt K x st f fd c) (S : FnScope N ps (defScope st)) (len : ∀ vs H Q E, sp vs H Q E → vs.length = ps.length)
    (hbody : ∀ (A : Around) (outer : List Env) (s : Shared) (H : Hp) (vs : List V) (Q : VK) (E : XK), Room k (A.deeper (envOfC x (defScope st) s.heap.objs.size f (.ref c))) → sp vs H Q E →
      ∃ t, PSs (cxOf CX0 P w K mg base N x (defScope st) f (.ref c) A outer s H E).nox (defBody st) t ∧ t { nx := fun _ H' => Q .non H', rt := Q } (L2.start N vs) H) : FnOk P w K mg base CX0 (k + 1) f fd ps sp := by
  obtain ⟨oc, od, kV, doc, pm, an, ct, osl, rfl, lk, hcd⟩ := F.ex
  refine fn_of lk hcd S len fun A outer s H vs Q E hr hsp => ?_
  obtain ⟨t, h, q⟩ := hbody A outer s H vs Q E hr hsp
  exact ⟨t, h.nox, q⟩
end
/-- _law_met(lambda: body) -/
theorem pe_met {X : Cx} (T : Txt X.K X.mg) {Pr : Program} (Z : Errs Pr X.K X.mg T) (Ct : Cat X.K Z.CV Z.CE Z.CH) {TT : List (Addr × Str)} {c P : Addr} {k : Nat} {params : Arguments} {body : Expr} {scope : Scope} {t : XK → TE} {p lpos pos : Pos}
    (TB : TabB X.base X.mg c P) (hcode : X.env.code = .ref c) (hmT : (P, X.env.qual ++ "<lambda>") ∈ TT) (hu : ∀ p ∈ TT, p.1 = P → p.2 = X.env.qual ++ "<lambda>") (hr : Room (k + 2) X.A) (L : LamX.LamS X.env.scope scope) (hdef : defaultsOf params X.env = ([], []))
    (hbind : ∀ (q : Str) (cl : List (Str × Addr)) (pm cv ctv : Value), bindArgs (PySem.W.kla_fn "<lambda>" q params body scope cl pm cv ctv) ⟨[], []⟩ = pure [])
    (hbody : ∀ (A : Around) (outer : List Env) (s : Shared) (H : Hp) (E : XK) (f c' : Addr), Room k (A.deeper (LamX.lamEnv X scope s.heap.objs.size f c')) → PE (LamX.lamCx X A outer s H E scope f c') body (t E))
    (hg : Gl X "_law_met" := by rfl) : PE X (.Call (.Name "_law_met" p) [.Lambda params body scope lpos] [] pos) (LamX.tLam TT (TTmet Z.CV Z.CE Z.CH) t) := by
  obtain ⟨oc, od, kV, doc, pm, an, cdv, ct, osl, e, lk, hcd⟩ := T.law_met.F.ex
  have b := T.law_met.b
  rw [e] at lk b
  exact LamX.pe_lamcall hg T.law_met.mgx T.law_met.F.kp lk hcd b sc_law_met rfl (.inl rfl) (met_gives T Z Ct rfl rfl) TB hcode hmT hu hr L hdef hbind hbody
end K80
namespace K80
open PySem PySem.Spec PyProof.Rows L2
open LamX (ExtN Tabs TabB)
abbrev qRef : Str := (envOfC "_law_refused_right" (defScope s_law_refused_right) 0 0 .none).qual ++ "<lambda>"
def spRefused (K : PySem.W.Frag) (C : Addr) (TT : List (Addr × Str)) : Sp := fun vs H Q _ => ∃ (st : V) (p v : Addr) (e : V) (N : List Str) (R L : List Rd2) (o : Option (List (Option Rd2))), vs = [st, .ref p, .ref v, e] ∧ SomeAt H p N R ∧ SomeOk N R ∧ ValAt C H v N R ∧ EvArg K H e o ∧ knownEv N R o = some L ∧ Tabs TT H ∧
  ∀ H', ExtN H H' → Tabs TT H' → Q (.bl true) H'
/-- which refusal, with which thing -/
inductive Rf (v x y : V) : Outc → Str → V → Prop
  | v : Rf v x y .badV "valley" v
  | e : Rf v x y .badE "evening" x
  | h : Rf v x y .badH "heaps" y
theorem ans_caught {CV CE CH : Addr} {v x y th : V} {oc : Outc} {w : Str} {Fin : List Str → List Rd2 → List Rd2 → (Str → Int) → Prop} {H : Hp} {Q : VK} (r : Rf v x y oc w th) (k : ∀ H', Same H H' → Hand w th H' Q) : Answers CV CE CH v x y oc Fin H (Caught CV CE CH Q) := by
  cases r with
  | v => exact ⟨fun _ H' d s hd => ⟨d, _, rfl, .inl ⟨rfl, hd, k H' s⟩⟩, fun z => (nomatch z), fun z => (nomatch z), fun _ _ _ _ z => (nomatch z)⟩
  | e => exact ⟨fun z => (nomatch z), fun _ H' d s hd => ⟨d, _, rfl, .inr (.inl ⟨rfl, hd, k H' s⟩)⟩, fun z => (nomatch z), fun _ _ _ _ z => (nomatch z)⟩
  | h => exact ⟨fun z => (nomatch z), fun z => (nomatch z), fun _ H' d s hd => ⟨d, _, rfl, .inr (.inr ⟨rfl, hd, k H' s⟩)⟩, fun _ _ _ _ z => (nomatch z)⟩
theorem met_leads {K : PySem.W.Frag} {C CV CE CH fL fT : Addr} {i : Nat} {σ : L2.St} {H : Hp} {v x y th : V} {oc : Outc} {w : Str} {Q Q2 : VK} {ta : TA} (ask : σ[i]? = some (some (.ref fL)) ∨ σ[i]? = some (some (.ref fT))) (r : Rf v x y oc w th) (hA : AskIn K C H v x y oc)
    (hta : ∀ Q', Q' [v, x, y] H → ta σ H Q') (k : ∀ H', Same H H' → Hand w th H' Q) :
    tEither (ItX.tCallV i fL (fun vs H Q E => spLeavings K C CV CE CH (vs ++ []) H Q E) (Caught CV CE CH Q) ta) (ItX.tCallV i fT (fun vs H Q E => spTogether K C CV CE CH (vs ++ []) H Q E) (Caught CV CE CH Q) ta) σ H Q2 := by
  rcases ask with a | a
  · exact .inl ⟨a, hta _ ⟨v, x, y, oc, rfl, hA, ans_caught r k⟩⟩
  · exact .inr ⟨a, hta _ ⟨v, x, y, oc, rfl, hA, ans_caught r k⟩⟩
theorem tabs_mut {TT : List (Addr × Str)} {H : Hp} {a : Addr} {u o : HO} (h : Tabs TT H) (e : H a = some u) (n1 : ∀ ps, u ≠ .tbl ps) (n2 : ∀ φ, u ≠ .ext φ) : Tabs TT (upd H a o) := fun p hp => by
  obtain ⟨ps, h1, h2, h3⟩ := h p hp
  refine ⟨ps, ?_, h2, fun pos cv hc => ?_⟩
  · rw [upd_ne (ne_of h1 e fun z => n1 ps z.symm)]
    exact h1
  · obtain ⟨c, e1, e2⟩ := h3 pos cv hc
    refine ⟨c, e1, ?_⟩
    rw [upd_ne (ne_of e2 e fun z => n2 _ z.symm)]
    exact e2
theorem ext_mut {H H0 H' : Hp} {a : Addr} {o : HO} (z : ExtN H H') (z0 : ExtN H H0) (n : H0 a = none) : ExtN H (upd H' a o) := fun b u h nt => by
  rw [upd_ne (ne_of_none (z0 b u h nt) n)]
  exact z b u h nt
theorem pair_lv {n : Nat} {H : Hp} {t u : Addr} {w : Str} {x y : V} (ht : H t = some (.tup [.str w, x])) (hu : H u = some (.tup [.str w, y])) (hx : Lv n H x y) : Lv (n + 1) H (.ref t) (.ref u) :=
  .inr (.inl (.tup ht hu (show 2 ≤ 1000 by decide) (.cons (Lv.sc (.str w)) (.cons hx .nil))))
section
variable {P : Program} {w : World} {K : PySem.W.Frag} {mg : Str → Option Value} {base : Heap}
theorem ok_refused (T : Txt K mg) (Z : Errs P K mg T) (Ct : Cat K Z.CV Z.CE Z.CH) {TT : List (Addr × Str)} {c Pt : Addr} (TB : TabB base mg c Pt) (F : CodeAt K "_law_refused_right" s_law_refused_right T.law_refused_right.f T.law_refused_right.fd c)
    (hmT : (Pt, qRef) ∈ TT) (huT : ∀ p ∈ TT, p.1 = Pt → p.2 = qRef) : FnOk P w K mg base CX0 20 T.law_refused_right.f T.law_refused_right.fd ["_law_stream", "_law_some", "_law_valley", "_law_evening"] (spRefused K T.C TT) := by
  have G_leavings := ok_leavings (base := base) (w := w) T Z
  have G_left_together := ok_left_together (base := base) (w := w) T Z
  have G_law_same : FnOk P w K mg base CX0 17 T.law_same.f T.law_same.fd ["_law_found", "_law_due"] (RelSp (Lv 5)) := ok_same T 5
  have G_law_f_odd_valleys : FnOk P w K mg base CX0 1 T.law_f_odd_valleys.f T.law_f_odd_valleys.fd ["_law_some"] (spOddV K) := ok_odd_valleys T
  have G_law_f_odd_evenings : FnOk P w K mg base CX0 1 T.law_f_odd_evenings.f T.law_f_odd_evenings.fd ["_law_some"] (spOddE K) := ok_odd_evenings T
  have G_law_f_odd_feasts : FnOk P w K mg base CX0 1 T.law_f_odd_feasts.f T.law_f_odd_feasts.fd ["_law_feasts"] (spOddH K) := ok_odd_feasts T
  refine F.ok sc_law_refused_right (fun vs H Q E h => ?_) (fun A outer s H vs Q E hr h => ?_)
  · obtain ⟨st, p, v, e, N, R, L, o, rfl, _⟩ := h
    rfl
  · obtain ⟨st, p, v, e, N, R, L, o, rfl, hS, hO, hV, hE, hk, hT, k⟩ := h
    -- slots: 0 _law_stream, 1 _law_some, 2 _law_valley*, 3 _law_evening*, 4 _law_heaps_here, 5 _law_ask*, 6 _law_odd*, 7 _law_held*, 8 _law_found, 9 _law_name
    refine ⟨_, (pss_cons (ps_set (i := 4) sc_law_refused_right.nd rfl (Or.inl rfl) (pe_callTy (call_dictP rfl) (by rfl) T.n_dict (by decide +kernel) (pa_cons (pe_lc (own := [("_law_name", 9)]) (g := gName 9) (tt := tYes) rfl sc_law_refused_right.nd (pi_list (pe_ix ix_tup (pv 1) pe_int (fun _ _ => rfl))) (blkOk_by (N := N_law_refused_right) (own := [("_law_name", 9)]) (sc := defScope s_law_refused_right) (by decide +kernel)) (fun _ _ _ _ _ => (pg_name (i := 9) sc_law_refused_right.nd rfl (Or.inl rfl))) (fun _ _ _ _ _ => pts_nil) (fun _ _ _ _ _ => (pe_tup (pa_cons (pv 9) (pa_cons pe_int pa_nil))))) pa_nil)))
    (pss_cons (ps_for PassesOwn.never rfl (pi_tup (pe_tup (pa_cons (pe_glob (v := .ref T.leavings.f) rfl T.leavings.mgx rfl) (pa_cons (pe_glob (v := .ref T.left_together.f) rfl T.left_together.mgx rfl) pa_nil)))) (pg_name (i := 5) sc_law_refused_right.nd rfl (Or.inr rfl))
      (pss_cons (ps_for PassesOwn.never rfl (pi_list (pe_call G_law_f_odd_valleys (hr.mono (by decide)) rfl T.law_f_odd_valleys.mgx T.law_f_odd_valleys.F.kp T.law_f_odd_valleys.b .nil pass0 (pa_cons (pv 1) pa_nil))) (pg_name (i := 6) sc_law_refused_right.nd rfl (Or.inr rfl))
      (pss_one (ps_if (pt_not (pt_val (pe_call G_law_same (hr.mono (by decide)) rfl T.law_same.mgx T.law_same.F.kp T.law_same.b .nil pass0 (pa_cons (pe_met (k := 8) T Z Ct TB rfl hmT huT (hr.mono (by decide)) (LamX.lamS_by (sc := defScope s_law_refused_right) (by decide +kernel)) rfl (fun _ _ _ _ _ => rfl) (fun A outer s H E f c' hq => pe_either (ItX.pe_callV (i := 5) (G_leavings.raw T.leavings.b .nil) (hq.mono (by decide)) T.leavings.F.kp (passes_call (W := fun c d _ H => E c d H) (takes_of rfl rfl rfl rfl) (fun _ _ _ _ h => h)) rfl (.inr (.inr rfl)) (pa_cons (pv 6) (pa_cons pe_non (pa_cons pe_non pa_nil)))) (ItX.pe_callV (i := 5) (G_left_together.raw T.left_together.b .nil) (hq.mono (by decide)) T.left_together.F.kp (passes_call (W := fun c d _ H => E c d H) (takes_of rfl rfl rfl rfl) (fun _ _ _ _ h => h)) rfl (.inr (.inr rfl)) (pa_cons (pv 6) (pa_cons pe_non (pa_cons pe_non pa_nil)))))) (pa_cons (pe_tup (pa_cons pe_str (pa_cons (pv 6) pa_nil))) pa_nil))))) (pss_one (ps_ret pe_bl)) pss_nil)))
    (pss_cons (ps_for PassesOwn.never rfl (pi_list (pe_call G_law_f_odd_evenings (hr.mono (by decide)) rfl T.law_f_odd_evenings.mgx T.law_f_odd_evenings.F.kp T.law_f_odd_evenings.b .nil pass0 (pa_cons (pv 1) pa_nil))) (pg_name (i := 6) sc_law_refused_right.nd rfl (Or.inr rfl))
      (pss_one (ps_if (pt_not (pt_val (pe_call G_law_same (hr.mono (by decide)) rfl T.law_same.mgx T.law_same.F.kp T.law_same.b .nil pass0 (pa_cons (pe_met (k := 8) T Z Ct TB rfl hmT huT (hr.mono (by decide)) (LamX.lamS_by (sc := defScope s_law_refused_right) (by decide +kernel)) rfl (fun _ _ _ _ _ => rfl) (fun A outer s H E f c' hq => pe_either (ItX.pe_callV (i := 5) (G_leavings.raw T.leavings.b .nil) (hq.mono (by decide)) T.leavings.F.kp (passes_call (W := fun c d _ H => E c d H) (takes_of rfl rfl rfl rfl) (fun _ _ _ _ h => h)) rfl (.inr (.inr rfl)) (pa_cons (pv 2) (pa_cons (pv 6) (pa_cons pe_non pa_nil)))) (ItX.pe_callV (i := 5) (G_left_together.raw T.left_together.b .nil) (hq.mono (by decide)) T.left_together.F.kp (passes_call (W := fun c d _ H => E c d H) (takes_of rfl rfl rfl rfl) (fun _ _ _ _ h => h)) rfl (.inr (.inr rfl)) (pa_cons (pv 2) (pa_cons (pv 6) (pa_cons pe_non pa_nil)))))) (pa_cons (pe_tup (pa_cons pe_str (pa_cons (pv 6) pa_nil))) pa_nil))))) (pss_one (ps_ret pe_bl)) pss_nil)))
    (pss_cons (ps_for PassesOwn.never rfl (pi_list (pe_call G_law_f_odd_feasts (hr.mono (by decide)) rfl T.law_f_odd_feasts.mgx T.law_f_odd_feasts.F.kp T.law_f_odd_feasts.b .nil pass0 (pa_cons (pv 4) pa_nil))) (pg_name (i := 6) sc_law_refused_right.nd rfl (Or.inr rfl))
      (pss_one (ps_if (pt_not (pt_val (pe_call G_law_same (hr.mono (by decide)) rfl T.law_same.mgx T.law_same.F.kp T.law_same.b .nil pass0 (pa_cons (pe_met (k := 8) T Z Ct TB rfl hmT huT (hr.mono (by decide)) (LamX.lamS_by (sc := defScope s_law_refused_right) (by decide +kernel)) rfl (fun _ _ _ _ _ => rfl) (fun A outer s H E f c' hq => pe_either (ItX.pe_callV (i := 5) (G_leavings.raw T.leavings.b .nil) (hq.mono (by decide)) T.leavings.F.kp (passes_call (W := fun c d _ H => E c d H) (takes_of rfl rfl rfl rfl) (fun _ _ _ _ h => h)) rfl (.inr (.inr rfl)) (pa_cons (pv 2) (pa_cons (pv 3) (pa_cons (pv 6) pa_nil)))) (ItX.pe_callV (i := 5) (G_left_together.raw T.left_together.b .nil) (hq.mono (by decide)) T.left_together.F.kp (passes_call (W := fun c d _ H => E c d H) (takes_of rfl rfl rfl rfl) (fun _ _ _ _ h => h)) rfl (.inr (.inr rfl)) (pa_cons (pv 2) (pa_cons (pv 3) (pa_cons (pv 6) pa_nil)))))) (pa_cons (pe_tup (pa_cons pe_str (pa_cons (pv 6) pa_nil))) pa_nil))))) (pss_one (ps_ret pe_bl)) pss_nil)))
    (pss_cons (ps_set (i := 7) sc_law_refused_right.nd rfl (Or.inr rfl) (pe_lst (pa_cons (pe_lst (pa_cons pe_str pa_nil)) (pa_cons (pe_disp (pps_cons pe_str pe_int pps_nil) (by rfl) (by rfl) (fun z => by cases z) (by decide)) pa_nil))))
    (pss_cons (ps_set (i := 8) sc_law_refused_right.nd rfl (Or.inl rfl) (pe_lst (pa_cons (pe_met (k := 8) T Z Ct TB rfl hmT huT (hr.mono (by decide)) (LamX.lamS_by (sc := defScope s_law_refused_right) (by decide +kernel)) rfl (fun _ _ _ _ _ => rfl) (fun A outer s H E f c' hq => pe_either (ItX.pe_callV (i := 5) (G_leavings.raw T.leavings.b .nil) (hq.mono (by decide)) T.leavings.F.kp (passes_call (W := fun c d _ H => E c d H) (takes_of rfl rfl rfl rfl) (fun _ _ _ _ h => h)) rfl (.inr (.inr rfl)) (pa_cons (pv 2) (pa_cons (pe_ix (ix_listK (K := K) rfl) (pv 7) pe_int (fun _ _ => rfl)) (pa_cons pe_non pa_nil)))) (ItX.pe_callV (i := 5) (G_left_together.raw T.left_together.b .nil) (hq.mono (by decide)) T.left_together.F.kp (passes_call (W := fun c d _ H => E c d H) (takes_of rfl rfl rfl rfl) (fun _ _ _ _ h => h)) rfl (.inr (.inr rfl)) (pa_cons (pv 2) (pa_cons (pe_ix (ix_listK (K := K) rfl) (pv 7) pe_int (fun _ _ => rfl)) (pa_cons pe_non pa_nil)))))) pa_nil)))
    (pss_cons (ps_expr (pe_bm PySem.F.plainAttrs_list PySem.F.slot_list_append PySem.F.type_list_append mt_append (pv 8) (pa_cons (pe_met (k := 8) T Z Ct TB rfl hmT huT (hr.mono (by decide)) (LamX.lamS_by (sc := defScope s_law_refused_right) (by decide +kernel)) rfl (fun _ _ _ _ _ => rfl) (fun A outer s H E f c' hq => pe_either (ItX.pe_callV (i := 5) (G_leavings.raw T.leavings.b .nil) (hq.mono (by decide)) T.leavings.F.kp (passes_call (W := fun c d _ H => E c d H) (takes_of rfl rfl rfl rfl) (fun _ _ _ _ h => h)) rfl (.inr (.inr rfl)) (pa_cons (pv 2) (pa_cons (pv 3) (pa_cons (pe_ix (ix_listK (K := K) rfl) (pv 7) pe_int (fun _ _ => rfl)) pa_nil)))) (ItX.pe_callV (i := 5) (G_left_together.raw T.left_together.b .nil) (hq.mono (by decide)) T.left_together.F.kp (passes_call (W := fun c d _ H => E c d H) (takes_of rfl rfl rfl rfl) (fun _ _ _ _ h => h)) rfl (.inr (.inr rfl)) (pa_cons (pv 2) (pa_cons (pv 3) (pa_cons (pe_ix (ix_listK (K := K) rfl) (pv 7) pe_int (fun _ _ => rfl)) pa_nil)))))) pa_nil)))
    (pss_cons (ps_expr (pe_bm PySem.F.plainAttrs_list PySem.F.slot_list_append PySem.F.type_list_append mt_append (pe_ix ix_list (pv 7) pe_int (fun _ _ => rfl)) (pa_cons pe_str pa_nil)))
    (pss_cons (ps_dput (hu_of hr) (pe_ix ix_list (pv 7) pe_int (fun _ _ => rfl)) pe_str pe_int rfl)
    (pss_one (ps_if (pt_not (pt_val (pe_call G_law_same (hr.mono (by decide)) rfl T.law_same.mgx T.law_same.F.kp T.law_same.b .nil pass0 (pa_cons (pv 8) (pa_cons (pe_lst (pa_cons (pe_tup (pa_cons pe_str (pa_cons (pe_lst (pa_cons pe_str (pa_cons pe_str pa_nil))) pa_nil))) (pa_cons (pe_tup (pa_cons pe_str (pa_cons (pe_disp (pps_cons pe_str pe_int (pps_cons pe_str pe_int pps_nil)) (by rfl) (by rfl) (fun z => by cases z) (by decide)) pa_nil))) pa_nil))) pa_nil))))) (pss_one (ps_ret pe_bl)) pss_nil)))))))))))
    (pss_one (ps_ret pe_bl)))), ?_⟩
    obtain ⟨an, ao, ad, us0, hs0, v1, v3, v7, v8, _⟩ := hS.ex
    have at0 : ∀ {x y z : V}, atI [x, y, z] 0 = some x := fun {x y z} => atI_nat (j := 0) rfl
    refine ⟨_, rfl, p, _, _, _, rfl, rfl, SqT.of v1, at0, an, rfl, ⟨_, SqL.of v3⟩, fun D0 hD0 => ?_⟩
    refine lcPairC (B := N) (x := .int 3) walk_listN hD0 (by have := hO.nz; omega) (fun H' e => SqL.of (e _ _ v3)) (fun _ => rfl) (by exact (by decide : 9 < 10)) (fun _ _ _ q => q) fun H0 ps s0 e0 p0 => ?_
    refine ⟨D0, ps, _, rfl, SqL.of e0, paired_same (fun _ _ z => SqT.of z) p0, fun hp hhp => ?_⟩
    rw [const_merge hO.nd]
    have s1 : Same H (upd H0 hp (.dK (dOf N fun _ => .int 3))) := s0.trans (same_new hhp)
    have q1 : upd H0 hp (.dK (dOf N fun _ => .int 3)) hp = some (.dK (dOf N fun _ => .int 3)) := upd_same
    generalize upd H0 hp (.dK (dOf N fun _ => .int 3)) = H1 at s1 q1
    -- the two asks
    refine ⟨show 2 ≤ sizeLine by decide, fun tq htq => ?_⟩
    have s2 : Same H (upd H1 tq (.tup [.ref T.leavings.f, .ref T.left_together.f])) := s1.trans (same_new htq)
    have q2 : upd H1 tq (.tup [.ref T.leavings.f, .ref T.left_together.f]) hp = some (.dK (dOf N fun _ => .int 3)) := same_new htq _ _ q1
    have t2 : upd H1 tq (.tup [.ref T.leavings.f, .ref T.left_together.f]) tq = some (.tup [.ref T.leavings.f, .ref T.left_together.f]) := upd_same
    generalize upd H1 tq (.tup [.ref T.leavings.f, .ref T.left_together.f]) = H2 at s2 q2 t2
    obtain ⟨x0, hx0⟩ : ∃ σ0 : L2.St, σ0 = (L2.start N_law_refused_right [st, .ref p, .ref v, e]).set 4 (some (.ref hp)) := ⟨_, rfl⟩
    refine ⟨tq, rfl, ⟨_, SqT.of t2⟩, ?_⟩
    have hV2 := hV.same s2
    have hE2 := hE.same s2
    have hS2 := hS.same s2
    have hT2 := hT.ext s2
    have z2 : ExtN H H2 := ExtN.of s2
    refine for_tup (K := K) (xs := [.ref T.leavings.f, .ref T.left_together.f]) (fun i σ H' => ExtN H2 H' ∧ Tabs TT H' ∧ ∃ o5 o6 o7 o8 : Option V, σ = [some st, some (.ref p), some (.ref v), some e, some (.ref hp), o5, o6, o7, o8, none]) ⟨ExtN.refl _, hT2, _, _, _, _, rfl⟩ (fun i σ H' _ pv => SqT.of (pv.1 _ _ t2 fun _ z => by cases z)) ?_ (fun σ H' pv => k H' (z2.trans pv.1) pv.2.1)
    rintro i x σ H3 hx ⟨z3, t3, o5, o6, o7, o8, rfl⟩
    have hask : x = .ref T.leavings.f ∨ x = .ref T.left_together.f := by
      have m := List.mem_of_getElem? hx
      simp only [List.mem_cons, List.mem_nil_iff, or_false] at m
      exact m
    -- the odd valleys
    refine ⟨_, rfl, p, N, R, rfl, hS2.ext z3, hO.nz, Nat.le_trans hO.rl (by decide), fun H4 l ys s4 hl hy => ?_⟩
    refine ⟨l, rfl, ⟨_, SqL.of hl⟩, ?_⟩
    have z4 := z3.trans (ExtN.of s4)
    have t4 := t3.ext s4
    refine for_list (K := K) (xs := ys) (fun i σ H' => ExtN H4 H' ∧ Tabs TT H' ∧ ∃ o6 : Option V, σ = [some st, some (.ref p), some (.ref v), some e, some (.ref hp), some x, o6, o7, o8, none]) ⟨ExtN.refl _, t4, _, rfl⟩ (fun i σ H' _ pv => SqL.of (pv.1 _ _ hl fun _ z => by cases z)) ?_ (fun σ H' pv => ?_)
    · rintro i y σ H5 hy5 ⟨z5, t5, o6, rfl⟩
      have od := (hy y (List.mem_of_getElem? hy5)).ext z5
      obtain ⟨n, ty⟩ := od.ty
      refine ⟨t5, fun H6 z6 t6 => ?_⟩
      refine met_leads (i := 5) (v := y) (x := .non) (y := .non) (oc := .badV) (hask.imp (fun z => by rw [z]; rfl) (fun z => by rw [z]; rfl)) .v (.badV (ty.ext z6)) (fun Q' q => ⟨_, rfl, q⟩) (fun H7 s7 t ht => ?_)
      have tt : upd H7 t (.tup [.str "valley", y]) t = some (.tup [.str "valley", y]) := upd_same
      have st7 : Same H6 (upd H7 t (.tup [.str "valley", y])) := s7.trans (same_new ht)
      generalize upd H7 t (.tup [.str "valley", y]) = H8 at tt st7
      refine ⟨y, rfl, show 2 ≤ sizeLine by decide, fun t2 ht2 => ?_⟩
      have s9 : Same H8 (upd H8 t2 (.tup [.str "valley", y])) := same_new ht2
      have tt2 : upd H8 t2 (.tup [.str "valley", y]) t2 = some (.tup [.str "valley", y]) := upd_same
      generalize upd H8 t2 (.tup [.str "valley", y]) = H9 at s9 tt2
      have z9 : ExtN H5 H9 := z6.trans (ExtN.of (st7.trans s9))
      refine ⟨.ref t, .ref t2, rfl, pair_lv (s9 _ _ tt) tt2 (od.ext z9).lv, fun H10 s10 => ?_⟩
      refine ⟨_, rfl, iteF ?_⟩
      exact ⟨z5.trans (z9.trans (ExtN.of s10)), t6.ext (st7.trans (s9.trans s10)), _, rfl⟩
    obtain ⟨ya, ta3, o6a, rfl⟩ := pv
    have za3 := z4.trans ya
    -- the odd evenings
    refine ⟨_, rfl, p, N, R, rfl, hS2.ext za3, hO, fun Ha4 la ysa sa4 hla hya => ?_⟩
    refine ⟨la, rfl, ⟨_, SqL.of hla⟩, ?_⟩
    have za4 := za3.trans (ExtN.of sa4)
    have ta4 := ta3.ext sa4
    refine for_list (K := K) (xs := ysa) (fun i σ H' => ExtN Ha4 H' ∧ Tabs TT H' ∧ ∃ o6 : Option V, σ = [some st, some (.ref p), some (.ref v), some e, some (.ref hp), some x, o6, o7, o8, none]) ⟨ExtN.refl _, ta4, _, rfl⟩ (fun i σ H' _ pv => SqL.of (pv.1 _ _ hla fun _ z => by cases z)) ?_ (fun σ H' pv => ?_)
    · rintro i y σ H5 hy5 ⟨z5, t5, o6, rfl⟩
      have od := (hya y (List.mem_of_getElem? hy5)).ext z5
      obtain ⟨o2, he, hk2⟩ := od.ev
      have za5 := za4.trans z5
      refine ⟨t5, fun H6 z6 t6 => ?_⟩
      refine met_leads (i := 5) (v := .ref v) (x := y) (y := .non) (oc := .badE) (hask.imp (fun z => by rw [z]; rfl) (fun z => by rw [z]; rfl)) .e (.badE ((hV2.ext za5).ext z6) hO.vok (he.ext z6) hk2) (fun Q' q => ⟨_, rfl, _, rfl, q⟩) (fun H7 s7 t ht => ?_)
      have tt : upd H7 t (.tup [.str "evening", y]) t = some (.tup [.str "evening", y]) := upd_same
      have st7 : Same H6 (upd H7 t (.tup [.str "evening", y])) := s7.trans (same_new ht)
      generalize upd H7 t (.tup [.str "evening", y]) = H8 at tt st7
      refine ⟨y, rfl, show 2 ≤ sizeLine by decide, fun t2 ht2 => ?_⟩
      have s9 : Same H8 (upd H8 t2 (.tup [.str "evening", y])) := same_new ht2
      have tt2 : upd H8 t2 (.tup [.str "evening", y]) t2 = some (.tup [.str "evening", y]) := upd_same
      generalize upd H8 t2 (.tup [.str "evening", y]) = H9 at s9 tt2
      have z9 : ExtN H5 H9 := z6.trans (ExtN.of (st7.trans s9))
      refine ⟨.ref t, .ref t2, rfl, pair_lv (s9 _ _ tt) tt2 (od.ext z9).lv, fun H10 s10 => ?_⟩
      refine ⟨_, rfl, iteF ?_⟩
      exact ⟨z5.trans (z9.trans (ExtN.of s10)), t6.ext (st7.trans (s9.trans s10)), _, rfl⟩
    obtain ⟨yb, tb3, o6b, rfl⟩ := pv
    have zb3 := za4.trans yb
    -- the odd heaps
    refine ⟨_, rfl, hp, N, rfl, zb3 _ _ q2 (fun _ z => by cases z), hO.nd, hO.n1, hO.nz, (fun n hn => (hO.ok n hn).nb), fun Hb4 lb ysb sb4 hlb hyb => ?_⟩
    refine ⟨lb, rfl, ⟨_, SqL.of hlb⟩, ?_⟩
    have zb4 := zb3.trans (ExtN.of sb4)
    have tb4 := tb3.ext sb4
    refine for_list (K := K) (xs := ysb) (fun i σ H' => ExtN Hb4 H' ∧ Tabs TT H' ∧ ∃ o6 : Option V, σ = [some st, some (.ref p), some (.ref v), some e, some (.ref hp), some x, o6, o7, o8, none]) ⟨ExtN.refl _, tb4, _, rfl⟩ (fun i σ H' _ pv => SqL.of (pv.1 _ _ hlb fun _ z => by cases z)) ?_ (fun σ H' pv => ?_)
    · rintro i y σ H5 hy5 ⟨z5, t5, o6, rfl⟩
      have od := (hyb y (List.mem_of_getElem? hy5)).ext z5
      obtain ⟨oh, hh, no⟩ := od.hp
      have zb5 := zb4.trans z5
      refine ⟨t5, fun H6 z6 t6 => ?_⟩
      refine met_leads (i := 5) (v := .ref v) (x := e) (y := y) (oc := .badH) (hask.imp (fun z => by rw [z]; rfl) (fun z => by rw [z]; rfl)) .h (.badH ((hV2.ext zb5).ext z6) hO.vok ((hE2.ext zb5).ext z6) hk (hh.ext z6) no) (fun Q' q => ⟨_, rfl, _, rfl, _, rfl, q⟩) (fun H7 s7 t ht => ?_)
      have tt : upd H7 t (.tup [.str "heaps", y]) t = some (.tup [.str "heaps", y]) := upd_same
      have st7 : Same H6 (upd H7 t (.tup [.str "heaps", y])) := s7.trans (same_new ht)
      generalize upd H7 t (.tup [.str "heaps", y]) = H8 at tt st7
      refine ⟨y, rfl, show 2 ≤ sizeLine by decide, fun t2 ht2 => ?_⟩
      have s9 : Same H8 (upd H8 t2 (.tup [.str "heaps", y])) := same_new ht2
      have tt2 : upd H8 t2 (.tup [.str "heaps", y]) t2 = some (.tup [.str "heaps", y]) := upd_same
      generalize upd H8 t2 (.tup [.str "heaps", y]) = H9 at s9 tt2
      have z9 : ExtN H5 H9 := z6.trans (ExtN.of (st7.trans s9))
      refine ⟨.ref t, .ref t2, rfl, pair_lv (s9 _ _ tt) tt2 (od.ext z9).lv, fun H10 s10 => ?_⟩
      refine ⟨_, rfl, iteF ?_⟩
      exact ⟨z5.trans (z9.trans (ExtN.of s10)), t6.ext (st7.trans (s9.trans s10)), _, rfl⟩
    obtain ⟨yc, tc3, o6c, rfl⟩ := pv
    have zc3 := zb4.trans yc
    -- held
    refine ⟨show 1 ≤ sizeLine by decide, fun h1 eh1 => ?_⟩
    generalize eH : upd H' h1 (_ : HO) = Hd
    have sd : Same H' Hd := by rw [← eH]; exact same_new eh1
    have qd : Hd h1 = some (.lst [.str "nobody"]) := by rw [← eH]; exact upd_same
    clear eH
    refine fun h2 eh2 => ?_
    refine ⟨upd_same, [(Sum.inr "nobody", .int 1)], rfl, by decide, ?_⟩
    rw [upd_upd]
    have sd2 : Same Hd (upd Hd h2 (.dK (mergeK [] [(Sum.inr "nobody", .int 1)]))) := same_new eh2
    have qd2 : upd Hd h2 (.dK (mergeK [] [(Sum.inr "nobody", .int 1)])) h2 = some (.dK [(Sum.inr "nobody", .int 1)]) := upd_same
    generalize upd Hd h2 (.dK (mergeK [] [(Sum.inr "nobody", .int 1)])) = He at sd2 qd2
    refine ⟨show 2 ≤ sizeLine by decide, fun h3 eh3 => ?_⟩
    generalize eH : upd He h3 (_ : HO) = Hf
    have sf : Same He Hf := by rw [← eH]; exact same_new eh3
    have qf : Hf h3 = some (.lst [.ref h1, .ref h2]) := by rw [← eH]; exact upd_same
    clear eH
    have q1f : Hf h1 = some (.lst [.str "nobody"]) := sf _ _ (sd2 _ _ qd)
    have q2f : Hf h2 = some (.dK [(Sum.inr "nobody", .int 1)]) := sf _ _ qd2
    have zf : ExtN H2 Hf := zc3.trans (ExtN.of (sd.trans (sd2.trans sf)))
    have tf : Tabs TT Hf := tc3.ext (sd.trans (sd2.trans sf))
    have i0 : ∀ {x y : V}, atI [x, y] 0 = some x := fun {x y} => atI_nat (j := 0) rfl
    have i1 : ∀ {x y : V}, atI [x, y] 1 = some y := fun {x y} => atI_nat (j := 1) rfl
    -- two asks
    refine ⟨tf, fun Hg zg tg => ?_⟩
    refine met_leads (i := 5) (v := .ref v) (x := .ref h1) (y := .non) (oc := .badE) (hask.imp (fun z => by rw [z]; rfl) (fun z => by rw [z]; rfl)) .e (.badE ((hV2.ext zf).ext zg) hO.vok (.seq (.inl (zg _ _ q1f (fun _ z => by cases z))) (show 1 ≤ 1000 by decide) (.cons (.no TyN.str rfl) .nil)) (known_bad (o := none) (List.mem_cons_self) rfl)) (fun Q' q => ⟨_, rfl, _, rfl, h3, _, _, _, rfl, rfl, SqL.of (zg _ _ qf (fun _ z => by cases z)), i0, q⟩) (fun Hh sh t1 et1 => ?_)
    generalize eH : upd Hh t1 (_ : HO) = Hi
    have si : Same Hh Hi := by rw [← eH]; exact same_new et1
    have qi : Hi t1 = some (.tup [.str "evening", .ref h1]) := by rw [← eH]; exact upd_same
    clear eH
    refine ⟨show 1 ≤ sizeLine by decide, fun h4 eh4 => ?_⟩
    generalize eH : upd Hi h4 (_ : HO) = Hj
    have sj : Same Hi Hj := by rw [← eH]; exact same_new eh4
    have qj : Hj h4 = some (.lst [.ref t1]) := by rw [← eH]; exact upd_same
    clear eH
    have zj : ExtN Hf Hj := zg.trans (ExtN.of (sh.trans (si.trans sj)))
    have tj : Tabs TT Hj := tg.ext (sh.trans (si.trans sj))
    have qij : Hj t1 = some (.tup [.str "evening", .ref h1]) := sj _ _ qi
    refine ⟨_, rfl, .inl ⟨rfl, _, SqL.of qj⟩, tj, fun Hk zk tk => ?_⟩
    have zfk := zf.trans (zj.trans zk)
    refine met_leads (i := 5) (v := .ref v) (x := e) (y := .ref h2) (oc := .badH) (hask.imp (fun z => by rw [z]; rfl) (fun z => by rw [z]; rfl)) .h (.badH (hV2.ext zfk) hO.vok (hE2.ext zfk) hk (.dict (zk _ _ (zj _ _ q2f (fun _ z => by cases z)) (fun _ z => by cases z)) (fun n v q => ?_)) ?_) (fun Q' q => ⟨_, rfl, _, rfl, _, rfl, h3, _, _, _, rfl, rfl, SqL.of (zk _ _ (zj _ _ qf (fun _ z => by cases z)) (fun _ z => by cases z)), i1, q⟩) (fun Hl sl t2 et2 => ?_)
    · have q' : valV [((Sum.inr "nobody" : Key), V.int 1)] (Sum.inr n) = some v := q
      unfold valV at q'
      obtain ⟨r, hr, er⟩ := Option.map_eq_some_iff.mp q'
      have m := List.mem_of_find?_eq_some hr
      rw [List.mem_singleton] at m
      rw [m] at er
      rw [← er]
      exact ⟨_, .int 1⟩
    · rintro ⟨kvs, ek, _, all⟩
      cases ek
      obtain ⟨n, hn⟩ : ∃ n, n ∈ N := by
        have n1 := hO.n1
        cases N with
        | nil => exact absurd n1 (by decide)
        | cons n N => exact ⟨n, List.mem_cons_self⟩
      have q := (hpOk_val (all n hn)).1
      unfold valV at q
      obtain ⟨r, hr, er⟩ := Option.map_eq_some_iff.mp q
      have m := List.mem_of_find?_eq_some hr
      rw [List.mem_singleton] at m
      have e2 := of_decide_eq_true (List.find?_some (p := fun kv : Key × V => decide (kv.1 = Sum.inr n)) hr)
      rw [m] at e2
      exact (hO.ok n hn).nb (Sum.inr.inj e2).symm
    generalize eH : upd Hl t2 (_ : HO) = Hm
    have sm : Same Hl Hm := by rw [← eH]; exact same_new et2
    have qm : Hm t2 = some (.tup [.str "heaps", .ref h2]) := by rw [← eH]; exact upd_same
    clear eH
    have zm : ExtN Hj Hm := zk.trans (ExtN.of (sl.trans sm))
    have tm : Tabs TT Hm := tk.ext (sl.trans sm)
    refine ⟨h4, _, _, rfl, rfl, zm _ _ qj (fun _ z => by cases z), show 1 < sizeLine by decide, ?_⟩
    have nt : ∀ {xs : List V} (ps : Array Value), HO.lst xs ≠ .tbl ps := fun _ z => by cases z
    have m1 : Hm h1 = some (.lst [.str "nobody"]) := zm _ _ (zj _ _ q1f nt) nt
    have m2 : Hm h2 = some (.dK [(Sum.inr "nobody", .int 1)]) := zm _ _ (zj _ _ q2f (fun _ z => by cases z)) (fun _ z => by cases z)
    have m3 : Hm h3 = some (.lst [.ref h1, .ref h2]) := zm _ _ (zj _ _ qf nt) nt
    have m4 : Hm h4 = some (.lst [.ref t1]) := zm _ _ qj nt
    have mt1 : Hm t1 = some (.tup [.str "evening", .ref h1]) := zm _ _ qij (fun _ z => by cases z)
    have n41 : h4 ≠ h1 := ne_of m4 m1 (fun z => by cases z)
    have n42 : h4 ≠ h2 := ne_of m4 m2 (fun z => by cases z)
    have n43 : h4 ≠ h3 := ne_of m4 m3 (fun z => by cases z)
    have n31 : h3 ≠ h1 := ne_of m3 m1 (fun z => by cases z)
    have n12 : h1 ≠ h2 := ne_of m1 m2 (fun z => by cases z)
    have n32 : h3 ≠ h2 := ne_of m3 m2 (fun z => by cases z)
    have n12' : h1 ≠ h4 := n41.symm
    -- held[0].append
    refine ⟨_, rfl, h3, [.ref h1, .ref h2], _, .ref h1, rfl, rfl, SqL.of (by rw [upd_ne n43.symm]; exact m3), i0, .inl ⟨rfl, _, SqL.of (by rw [upd_ne n12']; exact m1)⟩, h1, [.str "nobody"], _, rfl, rfl, by rw [upd_ne n12']; exact m1, show 1 < sizeLine by decide, ?_⟩
    refine ⟨_, rfl, h3, [.ref h1, .ref h2], _, .ref h2, rfl, rfl, SqL.of (by rw [upd_ne n31, upd_ne n43.symm]; exact m3), i1, h2, _, rfl, .inl ⟨[(Sum.inr "nobody", .int 1)], Sum.inr "late", by rw [upd_ne n12.symm, upd_ne n42.symm]; exact m2, rfl, show 1 < sizeLine by decide, rfl⟩, ?_⟩
    have zo : ExtN H2 (upd (upd (upd Hm h4 (.lst ([.ref t1] ++ [.ref t2]))) h1 (.lst ([.str "nobody"] ++ [.str "late"]))) h2 (.dK (putK [(Sum.inr "nobody", .int 1)] (Sum.inr "late") (.int 1)))) := by
      refine ext_mut (ext_mut (ext_mut (zf.trans (zj.trans zm)) (zf.trans (zg.trans (ExtN.of (sh.trans si)))) eh4) zc3 eh1) (zc3.trans (ExtN.of sd)) eh2
    have to : Tabs TT (upd (upd (upd Hm h4 (.lst ([.ref t1] ++ [.ref t2]))) h1 (.lst ([.str "nobody"] ++ [.str "late"]))) h2 (.dK (putK [(Sum.inr "nobody", .int 1)] (Sum.inr "late") (.int 1)))) :=
      tabs_mut (tabs_mut (tabs_mut tm m4 (fun _ z => by cases z) (fun _ z => by cases z)) (show upd Hm h4 _ h1 = some _ by rw [upd_ne n12']; exact m1) (fun _ z => by cases z) (fun _ z => by cases z)) (show upd (upd Hm h4 _) h1 _ h2 = some _ by rw [upd_ne n12.symm, upd_ne n42.symm]; exact m2) (fun _ z => by cases z) (fun _ z => by cases z)
    have k4 : (upd (upd (upd Hm h4 (.lst ([.ref t1] ++ [.ref t2]))) h1 (.lst ([.str "nobody"] ++ [.str "late"]))) h2 (.dK (putK [(Sum.inr "nobody", .int 1)] (Sum.inr "late") (.int 1)))) h4 = some (.lst [.ref t1, .ref t2]) := by rw [upd_ne n42, upd_ne n41, upd_same] <;> rfl
    have k1 : (upd (upd (upd Hm h4 (.lst ([.ref t1] ++ [.ref t2]))) h1 (.lst ([.str "nobody"] ++ [.str "late"]))) h2 (.dK (putK [(Sum.inr "nobody", .int 1)] (Sum.inr "late") (.int 1)))) h1 = some (.lst [.str "nobody", .str "late"]) := by rw [upd_ne n12, upd_same] <;> rfl
    have k2 : (upd (upd (upd Hm h4 (.lst ([.ref t1] ++ [.ref t2]))) h1 (.lst ([.str "nobody"] ++ [.str "late"]))) h2 (.dK (putK [(Sum.inr "nobody", .int 1)] (Sum.inr "late") (.int 1)))) h2 = some (.dK [(Sum.inr "nobody", .int 1), (Sum.inr "late", .int 1)]) := upd_same.trans (congrArg (fun x => some (HO.dK x)) (by rfl))
    have kt1 : (upd (upd (upd Hm h4 (.lst ([.ref t1] ++ [.ref t2]))) h1 (.lst ([.str "nobody"] ++ [.str "late"]))) h2 (.dK (putK [(Sum.inr "nobody", .int 1)] (Sum.inr "late") (.int 1)))) t1 = some (.tup [.str "evening", .ref h1]) := by rw [upd_ne (ne_of mt1 m2 (fun z => by cases z)), upd_ne (ne_of mt1 m1 (fun z => by cases z)), upd_ne (ne_of mt1 m4 (fun z => by cases z))]; exact mt1
    have kt2 : (upd (upd (upd Hm h4 (.lst ([.ref t1] ++ [.ref t2]))) h1 (.lst ([.str "nobody"] ++ [.str "late"]))) h2 (.dK (putK [(Sum.inr "nobody", .int 1)] (Sum.inr "late") (.int 1)))) t2 = some (.tup [.str "heaps", .ref h2]) := by rw [upd_ne (ne_of qm m2 (fun z => by cases z)), upd_ne (ne_of qm m1 (fun z => by cases z)), upd_ne (ne_of qm m4 (fun z => by cases z))]; exact qm
    generalize upd (upd (upd Hm h4 (.lst ([.ref t1] ++ [.ref t2]))) h1 (.lst ([.str "nobody"] ++ [.str "late"]))) h2 (.dK (putK [(Sum.inr "nobody", .int 1)] (Sum.inr "late") (.int 1))) = Ho at zo to k1 k2 k4 kt1 kt2 ⊢
    refine ⟨.ref h4, rfl, ?_⟩
    refine ⟨show 2 ≤ sizeLine by decide, fun a1 ea1 => ?_⟩
    generalize eH : upd Ho a1 (_ : HO) = H20
    have s20 : Same Ho H20 := by rw [← eH]; exact same_new ea1
    have q20 : H20 a1 = some (.lst [.str "nobody", .str "late"]) := by rw [← eH]; exact upd_same
    clear eH
    refine ⟨show 2 ≤ sizeLine by decide, fun a2 ea2 => ?_⟩
    generalize eH : upd H20 a2 (_ : HO) = H21
    have s21 : Same H20 H21 := by rw [← eH]; exact same_new ea2
    have q21 : H21 a2 = some (.tup [.str "evening", .ref a1]) := by rw [← eH]; exact upd_same
    clear eH
    refine fun a3 ea3 => ?_
    refine ⟨upd_same, [(Sum.inr "nobody", .int 1), (Sum.inr "late", .int 1)], rfl, by decide, ?_⟩
    rw [upd_upd]
    have s22 : Same H21 (upd H21 a3 (.dK (mergeK [] [(Sum.inr "nobody", .int 1), (Sum.inr "late", .int 1)]))) := same_new ea3
    have q22 : upd H21 a3 (.dK (mergeK [] [(Sum.inr "nobody", .int 1), (Sum.inr "late", .int 1)])) a3 = some (.dK [(Sum.inr "nobody", .int 1), (Sum.inr "late", .int 1)]) := upd_same.trans (congrArg (fun x => some (HO.dK x)) (by rfl))
    generalize upd H21 a3 (.dK (mergeK [] [(Sum.inr "nobody", .int 1), (Sum.inr "late", .int 1)])) = H22 at s22 q22 ⊢
    refine ⟨show 2 ≤ sizeLine by decide, fun a4 ea4 => ?_⟩
    generalize eH : upd H22 a4 (_ : HO) = H23
    have s23 : Same H22 H23 := by rw [← eH]; exact same_new ea4
    have q23 : H23 a4 = some (.tup [.str "heaps", .ref a3]) := by rw [← eH]; exact upd_same
    clear eH
    refine ⟨show 2 ≤ sizeLine by decide, fun a5 ea5 => ?_⟩
    generalize eH : upd H23 a5 (_ : HO) = H24
    have s24 : Same H23 H24 := by rw [← eH]; exact same_new ea5
    have q24 : H24 a5 = some (.lst [.ref a2, .ref a4]) := by rw [← eH]; exact upd_same
    clear eH
    have w24 : Same Ho H24 := s20.trans (s21.trans (s22.trans (s23.trans s24)))
    have p1 : Lv 3 H24 (.ref h1) (.ref a1) := .inr (.inl (.lst (w24 _ _ k1) (s24 _ _ (s23 _ _ (s22 _ _ (s21 _ _ q20)))) (show 2 ≤ 1000 by decide) (.cons (Lv.sc (.str _)) (.cons (Lv.sc (.str _)) .nil))))
    have p2 : Lv 3 H24 (.ref h2) (.ref a3) := .inr (.inr ⟨rfl, .mk (w24 _ _ k2) (s24 _ _ (s23 _ _ q22)) (show 2 ≤ 1000 by decide) (.cons ⟨⟨rfl, _, rfl⟩, Lv.sc (.int 1)⟩ (.cons ⟨⟨rfl, _, rfl⟩, Lv.sc (.int 1)⟩ .nil))⟩)
    have r1 : Lv 4 H24 (.ref t1) (.ref a2) := pair_lv (w24 _ _ kt1) (s24 _ _ (s23 _ _ (s22 _ _ q21))) p1
    have r2 : Lv 4 H24 (.ref t2) (.ref a4) := pair_lv (w24 _ _ kt2) (s24 _ _ q23) p2
    refine ⟨.ref h4, .ref a5, rfl, .inr (.inl (.lst (w24 _ _ k4) q24 (show 2 ≤ 1000 by decide) (.cons r1 (.cons r2 .nil)))), fun H25 s25 => ?_⟩
    refine ⟨_, rfl, iteF ?_⟩
    have w25 := w24.trans s25
    exact ⟨zo.trans (ExtN.of w25), to.ext w25, _, _, _, _, rfl⟩
end
end K80
namespace K80
open PySem PySem.Spec PyProof.Rows L2
/-! ### repr of what is told: a tuple of ints, a dict of ints or of tuples of ints; a list of roads and such a dict -/
inductive Sm (H : Hp) : V → PyData → Prop
  | int {i : Int} (h : i.natAbs.log2 < 200) : Sm H (.int i) (.int i)
  | tup {t : Addr} {ns : List Int} (e : H t = some (.tup (ns.map V.int))) (z : ns.length ≤ 2) (h : ∀ n ∈ ns, n.natAbs.log2 < 200) : Sm H (.ref t) (.tuple (ns.map .int))
theorem Sm.same {H H' : Hp} {v : V} {d : PyData} (e : Same H H') (h : Sm H v d) : Sm H' v d := by
  cases h with
  | int h => exact .int h
  | tup t z h => exact .tup (e _ _ t) z h
def rowsD (rows : List (Str × PyData)) : PyData := .dict (rows.map fun q => (.str q.1, q.2))
structure RowsAt (H : Hp) (a : Addr) (rows : List (Str × PyData)) : Prop where
  ex : ∃ kvs, H a = some (.dK kvs) ∧ Paired (fun (p : Key × V) (q : Str × PyData) => p.1 = Sum.inr q.1 ∧ Sm H p.2 q.2) kvs rows
  z : rows.length ≤ 60
  nm : ∀ q ∈ rows, OkName q.1
/-- what repr shows -/
inductive ShowAt (H : Hp) (a : Addr) : PyData → Prop
  | tup {d : PyData} (h : Sm H (.ref a) d) : ShowAt H a d
  | rows {rows : List (Str × PyData)} (h : RowsAt H a rows) : ShowAt H a (rowsD rows)
theorem RowsAt.same {H H' : Hp} {a : Addr} {rows : List (Str × PyData)} (e : Same H H') (h : RowsAt H a rows) : RowsAt H' a rows :=
  ⟨let ⟨kvs, h1, h2⟩ := h.ex; ⟨kvs, e _ _ h1, paired_same (fun _ _ q => ⟨q.1, q.2.same e⟩) h2⟩, h.z, h.nm⟩
theorem ShowAt.same {H H' : Hp} {a : Addr} {d : PyData} (e : Same H H') (h : ShowAt H a d) : ShowAt H' a d := by
  cases h with
  | tup h => exact .tup (h.same e)
  | rows h => exact .rows (h.same e)
theorem okName_big {z : Str} (h : OkName z) : ∀ c ∈ z.cps.toList, c < 16 ^ 8 := fun c hc => by
  have k : (nameS ++ nameF).cps.toList.all (fun c => decide (c < 16 ^ 8)) = true := by decide +kernel
  exact of_decide_eq_true (List.all_eq_true.mp k c (h.all c hc))
theorem okName_sz {z : Str} (h : OkName z) : z.cps.size ≤ 8 := h.l8
section
variable {H : Hp} {v : V} {d : PyData}
theorem int_short {i : Int} (h : i.natAbs.log2 < 200) : (PyData.shown (.int i)).length ≤ 201 := by
  have e := int_text_length_le (k := 200) (by decide) h
  show (Str.ofString (toString i)).length ≤ 201
  rw [PySem.ofString_length]
  exact e
theorem int_weight {i : Int} (h : i.natAbs.log2 < 200) : (PyData.int i).weight ≤ 200 := by
  unfold PyData.weight
  split
  · exact Nat.zero_le _
  · exact h
theorem ints_showable : ∀ {ns : List Int}, (∀ n ∈ ns, n.natAbs.log2 < 200) → PyData.showableAll (ns.map .int) = true
  | [], _ => rfl
  | n :: ns, h => by
    have h1 := h n List.mem_cons_self
    simp only [List.map_cons, PyData.showableAll, PyData.showable, Bool.and_eq_true, decide_eq_true_eq]
    exact ⟨by omega, ints_showable fun m hm => h m (List.mem_cons_of_mem _ hm)⟩
theorem ints_leaves : ∀ {ns : List Int}, (∀ n ∈ ns, n.natAbs.log2 < 200) → PyData.leavesShortAll 201 (ns.map .int) = true
  | [], _ => rfl
  | n :: ns, h => by
    simp only [List.map_cons, PyData.leavesShortAll, PyData.leavesShort, Bool.and_eq_true, decide_eq_true_eq]
    exact ⟨int_short (h n List.mem_cons_self), ints_leaves fun m hm => h m (List.mem_cons_of_mem _ hm)⟩
theorem ints_weight : ∀ {ns : List Int}, (∀ n ∈ ns, n.natAbs.log2 < 200) → PyData.weightAll (ns.map .int) ≤ 201 * ns.length
  | [], _ => Nat.le_refl _
  | n :: ns, h => by
    have h1 := int_weight (h n List.mem_cons_self)
    have h2 := ints_weight (ns := ns) fun m hm => h m (List.mem_cons_of_mem _ hm)
    simp only [List.map_cons, PyData.weightAll, List.length_cons]
    omega
theorem Sm.showable (h : Sm H v d) : d.showable = true := by
  cases h with
  | int h => simp only [PyData.showable, decide_eq_true_eq]; omega
  | tup e z h => simp only [PyData.showable]; exact ints_showable h
theorem Sm.leaves (h : Sm H v d) : d.leavesShort 201 = true := by
  cases h with
  | int h => simp only [PyData.leavesShort, decide_eq_true_eq]; exact int_short h
  | tup e z h => simp only [PyData.leavesShort]; exact ints_leaves h
theorem Sm.weight (h : Sm H v d) : d.weight ≤ 402 := by
  cases h with
  | int h => exact Nat.le_trans (int_weight h) (by decide)
  | tup e z h =>
    have q := ints_weight h
    simp only [PyData.weight]
    omega
theorem Sm.depth (h : Sm H v d) : d.depth ≤ 1 := by
  cases h with
  | int h => simp [PyData.depth]
  | tup e z h =>
    rename_i ns
    have q := ints_depth ns
    simp only [PyData.depth]
    omega
section
variable {rows : List (Str × PyData)}
theorem rows_showable (h : ∀ q ∈ rows, ∃ v, Sm H v q.2) : PyData.showableKv (rows.map fun q => (.str q.1, q.2)) = true := by
  induction rows with
  | nil => rfl
  | cons q r ih =>
    obtain ⟨v, hv⟩ := h q List.mem_cons_self
    simp only [List.map_cons, PyData.showableKv, PyData.showable, Bool.true_and, Bool.and_eq_true]
    exact ⟨hv.showable, ih fun p hp => h p (List.mem_cons_of_mem _ hp)⟩
theorem rows_leaves (h : ∀ q ∈ rows, ∃ v, Sm H v q.2) (n : ∀ q ∈ rows, OkName q.1) : PyData.leavesShortKv 201 (rows.map fun q => (.str q.1, q.2)) = true := by
  induction rows with
  | nil => rfl
  | cons q r ih =>
    obtain ⟨v, hv⟩ := h q List.mem_cons_self
    simp only [List.map_cons, PyData.leavesShortKv, PyData.leavesShort, Bool.and_eq_true]
    refine ⟨⟨?_, hv.leaves⟩, ih (fun p hp => h p (List.mem_cons_of_mem _ hp)) fun p hp => n p (List.mem_cons_of_mem _ hp)⟩
    exact List.all_eq_true.mpr fun c hc => decide_eq_true (okName_big (n q List.mem_cons_self) c hc)
theorem rows_weight (h : ∀ q ∈ rows, ∃ v, Sm H v q.2) (n : ∀ q ∈ rows, OkName q.1) : PyData.weightKv (rows.map fun q => (.str q.1, q.2)) ≤ 412 * rows.length := by
  induction rows with
  | nil => exact Nat.le_refl _
  | cons q r ih =>
    obtain ⟨v, hv⟩ := h q List.mem_cons_self
    have h1 := hv.weight
    have h2 := okName_sz (n q List.mem_cons_self)
    have h3 := ih (fun p hp => h p (List.mem_cons_of_mem _ hp)) fun p hp => n p (List.mem_cons_of_mem _ hp)
    simp only [List.map_cons, PyData.weightKv, PyData.weight, List.length_cons]
    omega
theorem rows_depth (h : ∀ q ∈ rows, ∃ v, Sm H v q.2) : PyData.depthKv (rows.map fun q => (.str q.1, q.2)) ≤ 1 := by
  induction rows with
  | nil => exact Nat.zero_le _
  | cons q r ih =>
    obtain ⟨v, hv⟩ := h q List.mem_cons_self
    have h1 := hv.depth
    have h3 := ih fun p hp => h p (List.mem_cons_of_mem _ hp)
    simp only [List.map_cons, PyData.depthKv, PyData.depth]
    omega
end
theorem paired_right {α β : Type} {F : α → β → Prop} : ∀ {xs : List α} {ys : List β}, Paired F xs ys → ∀ y ∈ ys, ∃ x, F x y
  | _, _, .nil, _, h => nomatch h
  | _, _, .cons r t, y, h => by
    rcases List.mem_cons.mp h with rfl | h
    · exact ⟨_, r⟩
    · exact paired_right t y h
theorem RowsAt.vals {a : Addr} {rows : List (Str × PyData)} (h : RowsAt H a rows) : ∀ q ∈ rows, ∃ v, Sm H v q.2 := fun q hq => by
  obtain ⟨kvs, _, p⟩ := h.ex
  obtain ⟨x, hx⟩ := paired_right p q hq
  exact ⟨_, hx.2⟩
/-- sizes -/
theorem ShowAt.showable {a : Addr} (h : ShowAt H a d) : d.showable = true := by
  cases h with
  | tup h => exact h.showable
  | rows h => simp only [rowsD, PyData.showable]; exact rows_showable h.vals
theorem ShowAt.weight {a : Addr} (h : ShowAt H a d) : d.weight ≤ 24720 := by
  cases h with
  | tup h => exact Nat.le_trans h.weight (by decide)
  | rows h =>
    have q := rows_weight h.vals h.nm
    have z := h.z
    simp only [rowsD, PyData.weight]
    omega
theorem ShowAt.leaves {a : Addr} (h : ShowAt H a d) : d.leavesShort 201 = true := by
  cases h with
  | tup h => exact h.leaves
  | rows h => simp only [rowsD, PyData.leavesShort]; exact rows_leaves h.vals h.nm
theorem ShowAt.short {a : Addr} (h : ShowAt H a d) : d.shown.length ≤ 5100000 := by
  have h1 := PyData.shown_le 201 (by decide) d h.leaves
  have h2 := h.weight
  have h3 : (201 + 2) * d.weight ≤ 203 * 24720 := Nat.mul_le_mul_left _ h2
  omega
theorem ShowAt.depth {a : Addr} (h : ShowAt H a d) : d.depth ≤ 2 := by
  cases h with
  | tup h => exact Nat.le_trans h.depth (by decide)
  | rows h =>
    have q := rows_depth h.vals
    simp only [rowsD, PyData.depth]
    omega
theorem shown_fit {n : Nat} (h : n ≤ 5100000) : n ≤ sizeLine := by
  rw [sizeLine_eq]
  omega
end
/-! reading -/
theorem reads_ints {h : Heap} : ∀ {ns : List Int} {us : List Value}, Vals (ns.map V.int) us → ReadsAll h us (ns.map PyData.int) []
  | [], _, .nil => .nil
  | n :: ns, _, .cons ⟨t, e⟩ r => by
    subst e
    exact ReadsAll.cons (as := []) (bs := []) (.int n t) (reads_ints r)
section
variable {X : Cx} {pins : List (Addr × Obj)} {σ : L2.St} {H : Hp} {s : Shared}
theorem Sm.reads {v : V} {d : PyData} {u : Value} (I : Inv X pins σ H s) (m : Sm H v d) (r : RelV v u) : Reads s.heap u d [] := by
  cases m with
  | int h =>
    obtain ⟨t, rfl⟩ := r
    exact .int _ t
  | tup e z h =>
    cases r
    obtain ⟨_, its, rv, o, ho, hc, n, hd⟩ := I.hok _ _ e
    exact Reads.tuple ho hc hd (reads_ints rv)
theorem rows_reads (I : Inv X pins σ H s) {es : List DictEntry} {vs : List (Key × Value)} {kvs : List (Key × V)} {rows : List (Str × PyData)} (P : Pairs (mixKind X.prog X.w) es vs) (R : KV kvs vs) (Q : Paired (fun (p : Key × V) (q : Str × PyData) => p.1 = Sum.inr q.1 ∧ Sm H p.2 q.2) kvs rows) :
    ReadsAll s.heap (es.map (·.key)) (rows.map fun q => PyData.str q.1) [] ∧ ReadsAll s.heap (es.map (·.val)) (rows.map (·.2)) [] := by
  induction P generalizing kvs rows with
  | nil =>
    cases R
    cases Q
    exact ⟨.nil, .nil⟩
  | @cons e0 kv es vs k e P ih =>
    cases R with
    | @cons p _ kvs _ r R =>
      cases Q with
      | @cons _ q0 _ rows q Q =>
        obtain ⟨h1, h2⟩ := ih R Q
        have k' : keyIs (Sum.inr q0.1) e0.key = true := by
          have k2 : keyIs kv.1 e0.key = true := k
          rw [← r.1, q.1] at k2
          exact k2
        rcases keyIs_shape k' with ⟨i, t, z, _⟩ | ⟨x, t, z, ek⟩
        · cases z
        · have z' : q0.1 = x := Sum.inr.inj z
          rw [List.map_cons, List.map_cons, List.map_cons, List.map_cons, ek, e, ← z']
          exact ⟨ReadsAll.cons (as := []) (bs := []) (.str _ t) h1, ReadsAll.cons (as := []) (bs := []) (q.2.reads I r.2) h2⟩
theorem ShowAt.reads {a : Addr} {d : PyData} (I : Inv X pins σ H s) (m : ShowAt H a d) : ∃ as, Reads s.heap (.ref a) d as ∧ sysModules ∉ as := by
  cases m with
  | tup h => exact ⟨[], h.reads I rfl, fun z => nomatch z⟩
  | rows h =>
    obtain ⟨kvs, e, p⟩ := h.ex
    obtain ⟨z, hs, vs, rel, o, es, ep, ho, hx, hd, _, hp, _⟩ := dk_of I.hok e
    obtain ⟨h1, h2⟩ := rows_reads I hp rel p
    refine ⟨[a], Reads.dict (as := []) (bs := []) ho hx.1 hd ?_ ?_, fun z => ?_⟩
    · rw [List.map_map]
      exact h1
    · rw [List.map_map]
      exact h2
    · rw [List.mem_singleton.mp z] at hs
      rw [beq_self_eq_true] at hs
      cases hs
end
/-! the rules -/
def rRepr : List V → Hp → VK → Prop := fun xs H Q => ∃ a d, xs = [.ref a] ∧ ShowAt H a d ∧ Q (.str d.shown) H
theorem call_repr_told {X : Cx} (hg : X.A.guards = some []) (hu : X.A.units + 64 < cLine) : CallR X (.builtin "repr") rRepr := by
  intro pins s σ H xs us Q I r h
  obtain ⟨a, d, rfl, hR, q⟩ := h
  obtain ⟨u, rfl, ru⟩ := vals1 r
  cases ru
  obtain ⟨as, hr, hsm⟩ := hR.reads I
  have hd := hR.depth
  exact repr_of_reads' hr hR.showable (fun _ => hsm) hg (by omega) (fun _ _ e => e) (fun h' u tk hk => ⟨.str _, H, I.kept hk, ⟨u, rfl⟩, q⟩) (shown_fit hR.short)
/-- repr([xs, d]) -/
def rRepr2 (K : PySem.W.Frag) : List V → Hp → VK → Prop := fun xs H Q => ∃ (a b c : Addr) (db dc : PyData), xs = [.ref a] ∧ H a = some (.lst [.ref b, .ref c]) ∧ Dp K H (.ref b) db ∧ db.canLay0 = true ∧ db.depth ≤ 4 ∧ db.showable = true ∧ db.shown.length ≤ 5100000 ∧ ShowAt H c dc ∧ Q (.str (PyData.list [db, dc]).shown) H
theorem call_repr_two {X : Cx} (hg : X.A.guards = some []) (hu : X.A.units + 64 < cLine) : CallR X (.builtin "repr") (rRepr2 X.K) := by
  intro pins s σ H xs us Q I r h
  obtain ⟨a, b, c, db, dc, rfl, ha, hb, hl, hdp, hsh, hz, hR, q⟩ := h
  obtain ⟨u, rfl, ru⟩ := vals1 r
  cases ru
  obtain ⟨as, r2, hsm⟩ := hR.reads I
  obtain ⟨bs, r1⟩ := Dp.reads I db (.ref b) (.ref b) hb rfl
  obtain ⟨_, its, n, rv, ho⟩ := I.hok _ _ ha
  obtain ⟨u1, r', rv1, e1⟩ : ∃ u1 r', RelV (.ref b) u1 ∧ its = u1 :: r' ∧ Vals [.ref c] r' := by
    cases rv with
    | cons p t => exact ⟨_, _, p, rfl, t⟩
  obtain ⟨e1, rv2⟩ := e1
  obtain ⟨u2, e2, rv3⟩ := vals1 rv2
  subst e2
  subst e1
  obtain rfl : u1 = Value.ref b := rv1
  obtain rfl : u2 = Value.ref c := rv3
  obtain ⟨b1, hb1, k1⟩ := ReprK.of_reads (prog := X.prog) (w := X.w) r1 hsh (PyData.noDict_hsm (PyData.hasDict_of_canLay db hl)) (shown_fit hz)
  obtain ⟨b2, hb2, k2⟩ := ReprK.of_reads (prog := X.prog) (w := X.w) r2 hR.showable (fun _ => hsm) (shown_fit hR.short)
  have hd2 := hR.depth
  have rA : Reads s.heap (.ref a) (.list [db, dc]) _ := Reads.list ho rfl rfl (.cons r1 (.cons r2 .nil))
  have hR1 : ReadAtMost s.heap (max db.depth dc.depth) (b1 ++ b2) := (hb1.mono (Nat.le_max_left _ _)).append (hb2.mono (Nat.le_max_right _ _))
  have hna : a ∉ b1 ++ b2 := not_mem_of_deeper rA (by simp only [PyData.depth, PyData.depthAll]; omega) hR1
  have hall : ReprAllK X.prog X.w (b1 ++ b2) s.heap 4 [.ref b, .ref c] [db.shown, dc.shown] :=
    .cons ((k1.more fun x hx => List.mem_append_left _ hx).level_le hdp) (.cons ((k2.more fun x hx => List.mem_append_right _ hx).level_le (by omega)) .nil)
  have hlen : (PyData.list [db, dc]).shown = listText [db.shown, dc.shown] := by simp only [PyData.shown, PyData.shownAll]
  have hsz : (listText [db.shown, dc.shown]).length ≤ sizeLine := by
    have q1 := listText_len_le [db.shown, dc.shown]
    have q2 := hR.short
    rw [sizeLine_eq]
    simp only [List.map_cons, List.map_nil, List.sum_cons, List.sum_nil, List.length_cons, List.length_nil] at q1
    omega
  refine call_repr_slot (by omega) ⟨_, ho, rfl⟩ F.slot_list_repr.toG (call_list_reprK (as := b1 ++ b2) (d := 4) (ts := [db.shown, dc.shown]) ho rfl rfl hna rfl (fun i y e => hall.item i y (by simpa using e)) hg (fun b _ => Clear.nil b) (by show X.A.units + 1 + (4 + 1) < cLine; omega) (fun _ _ e => e) (fun h' u tk hk => ?_) hsz)
  refine ⟨_, _, rfl, .str _, H, I.kept hk, ⟨u, rfl⟩, ?_⟩
  rw [← hlen]
  exact q
end K80
namespace K80
open PySem PySem.Spec PyProof.Rows L2
open LamX (ExtN Tabs TabS TabB CodeO codeO_ne among_app inv_table)
open NdefX (NF NScope CellsAt startF envF ncx codeO_at inv_startN slotAt slotAt_some Caps clo_cm clo_has)
/-! ### lambdas with parameters, kept as objects -/
/-- the object at f is o -/
def ObjO (f : Addr) (o : Obj) : HO := .ext fun h => h.get? f = some o
theorem objO_ok {P : Program} {w : World} {H : Hp} {h : Heap} {f : Addr} {o : Obj} (e : h.get? f = some o) : ObjOk P w H h f (ObjO f o) := ⟨e, ⟨_, e⟩, fun _ _ a st => st _ a⟩
theorem objO_at {P : Program} {w : World} {H : Hp} {h : Heap} {f : Addr} {o : Obj} (hok : HOk P w H h) (e : H f = some (ObjO f o)) : h.get? f = some o := by
  obtain ⟨z, _, _⟩ := hok f _ e
  exact z
abbrev lamName (X : Cx) : Str := X.env.qual ++ "<lambda>"
abbrev lamObj (X : Cx) (params : Arguments) (body : Expr) (scope : Scope) (pm : Value) (c' : Addr) (ctv : Value) : Obj :=
  PySem.W.kla_obj "<lambda>" (lamName X) params body scope (cloFrom X.env.cells scope.names []) pm c' ctv
def tLamT (TT : List (Addr × Str)) (q : Str) (ob : Value → Addr → Value → Obj) : TE := fun _ H Q => Tabs TT H ∧
  ∀ (f c' : Addr) (pm ctv : Value) (H1 : Hp), ExtN H H1 → Tabs TT H1 → H f = none → H1 f = some (ObjO f (ob pm c' ctv)) → H1 c' = some (CodeO c' q) → Q (.ref f) H1
section
variable {X : Cx} {TT : List (Addr × Str)} {c P : Addr} {params : Arguments} {body : Expr} {scope : Scope} {lpos : Pos}
/-- lambda ..: body, as a value -/
theorem pe_lamT (B : TabB X.base X.mg c P) (cd : X.env.code = .ref c) (mem : (P, lamName X) ∈ TT) (uniq : ∀ p ∈ TT, p.1 = P → p.2 = lamName X) (free : ∀ y ∈ scope.names, y.2 = .free → X.env.scope.names.lookup y.1 = some .cell ∨ X.env.scope.names.lookup y.1 = some .free)
    (df : defaultsOf params X.env = ([], [])) : PE X (.Lambda params body scope lpos) (tLamT TT (lamName X) (lamObj X params body scope)) := by
  constructor
  intro pins s σ H Q I hq
  obtain ⟨hT, k⟩ := hq
  have fr : ∀ y ∈ scope.names, y.2 = .free → ∃ a, X.env.cells.lookup y.1 = some a := fun y hy e => by
    rcases free y hy e with z | z
    · exact I.ok.has _ (.inl z)
    · exact I.ok.has _ (.inr z)
  obtain ⟨ps, atP, tri, told⟩ := hT _ mem
  have bP := B.bm.keeps I.bk
  have objP : s.heap.get? P = some { cls := .none, data := .fields ps } := I.hok P _ atP
  refine PySem.W.kla_eval df ?_
  cases look : codeAmong lpos ps.toList with
  | some cv =>
    obtain ⟨c', rfl, hco⟩ := told lpos cv look
    refine PySem.W.kla_makeFunctionHit (mg := X.mg) (c := c) (P := P) (ps := ps) (closure_ok fr) I.ok.glob (I.mod.glob.keeps I.bk) cd (B.code.keeps I.bk) objP tri look bP fun ctv g tk up _ => ?_
    have J : Inv X pins σ H { s with heap := g, toks := tk } := I.kept up
    have new : H g.objs.size = none := J.hok.fresh (Nat.le_refl _)
    have J2 := J.laid (a := g.objs.size) (o := ObjO g.objs.size (lamObj X params body scope ((X.mg "__name__").getD .none) c' ctv)) (h' := g.push (lamObj X params body scope ((X.mg "__name__").getD .none) c' ctv)) (t' := tk)
      (fun b u e => Heap.get?_push_of_some _ e) (Nat.le_refl _) (objO_ok (Heap.get?_push_size _ rfl))
    refine ⟨.ref g.objs.size, _, J2, rfl, k g.objs.size c' _ ctv _ (fun b o e n => ?_) (hT.ext fun b o e => ?_) new upd_same ?_⟩
    · rw [upd_ne (ne_of_none e new)]
      exact e
    · rw [upd_ne (ne_of_none e new)]
      exact e
    · rw [upd_ne (ne_of_none hco new)]
      exact hco
  | none =>
    refine PySem.W.kla_makeFunction (mg := X.mg) (c := c) (P := P) (ps := ps) (closure_ok fr) I.ok.glob (I.mod.glob.keeps I.bk) cd (B.code.keeps I.bk) objP tri look B.gP bP fun c' ctv g tk up lo hi rec tab => ?_
    obtain ⟨c2, oc, vs, t, e2, e3, e4, e5⟩ := rec
    cases e2
    have newC : H c' = none := I.hok.fresh lo
    have J := inv_table (t' := tk) (more := #[rawInt lpos.line, rawInt lpos.col, .ref c']) (h' := g) I atP (fun b o hb e => up b o hb e) tab lo ⟨oc, vs, t, e3, e4, e5⟩
    have eL : (ps ++ #[rawInt lpos.line, rawInt lpos.col, .ref c']).toList = ps.toList ++ [rawInt lpos.line, rawInt lpos.col, .ref c'] := by simp
    have far : ExtN H (upd (upd H P (.tbl (ps ++ #[rawInt lpos.line, rawInt lpos.col, .ref c']))) c' (CodeO c' (lamName X))) := fun b o e n => by
      have nb : b ≠ P := fun z => by
        subst z
        rw [atP] at e
        exact n ps (Option.some.inj e).symm
      rw [upd_ne (ne_of_none e newC), upd_ne nb]
      exact e
    have T1 : Tabs TT (upd (upd H P (.tbl (ps ++ #[rawInt lpos.line, rawInt lpos.col, .ref c']))) c' (CodeO c' (lamName X))) := fun p hp => by
      by_cases hb : p.1 = P
      · rw [uniq p hp hb, hb]
        refine ⟨_, (upd_ne (ne_of_none atP newC)).trans upd_same, ?_, fun p' cv hcv => ?_⟩
        · rw [eL]
          exact PySem.TriplesOk_snoc _ _ _ _ tri
        · rw [eL] at hcv
          rcases among_app _ tri hcv with z | z
          · obtain ⟨c0, q1, q2⟩ := told p' cv z
            exact ⟨c0, q1, far _ _ q2 codeO_ne⟩
          · exact ⟨c', z, upd_same⟩
      · obtain ⟨qs, a1, a2, a3⟩ := hT p hp
        refine ⟨qs, (upd_ne (ne_of_none a1 newC)).trans ((upd_ne hb).trans a1), a2, fun p' cv hcv => ?_⟩
        obtain ⟨c0, q1, q2⟩ := a3 p' cv hcv
        exact ⟨c0, q1, far _ _ q2 codeO_ne⟩
    have newF := J.hok.fresh (Nat.le_refl g.objs.size)
    have J2 := J.laid (a := g.objs.size) (o := ObjO g.objs.size (lamObj X params body scope ((X.mg "__name__").getD .none) c' ctv)) (h' := g.push (lamObj X params body scope ((X.mg "__name__").getD .none) c' ctv)) (t' := tk)
      (fun b u e => Heap.get?_push_of_some _ e) (Nat.le_refl _) (objO_ok (Heap.get?_push_size _ rfl))
    refine ⟨.ref g.objs.size, _, J2, rfl, k g.objs.size c' _ ctv _ (fun b o e n => ?_) (T1.ext fun b o e => ?_) ?_ upd_same ?_⟩
    · have q := far b o e n
      exact (upd_ne (ne_of_none q newF)).trans q
    · exact (upd_ne (ne_of_none e newF)).trans e
    · exact I.hok.fresh (Nat.le_trans lo (Nat.le_of_lt hi))
    · exact (upd_ne (Nat.ne_of_lt hi)).trans upd_same
end
/-! ### a def's promise, called where no repr runs -/
structure FnG (P : Program) (w : World) (K : PySem.W.Frag) (mg : Str → Option Value) (base : Heap) (CX : CXT) (k : Nat) (f : Addr) (fd : FuncData) (ps : List Str) (sp : Sp) : Prop where
  len : ∀ vs H Q E, sp vs H Q E → vs.length = ps.length
  run : ∀ (A : Around) (outer : List Env) (s : Shared) (H : Hp) (args : Args) (us : List Value) (vs : List V) (Q : VK) (E : XK), A.guards = some [] → Room k A → Env0 P w K mg base A outer s H → BindsTo s fd args (ps.zip us) → Vals vs us → sp vs H Q E →
    codeAny (model P w) A (.call (.ref f) args) (CR CX outer P w H s Q E) s
section
variable {P : Program} {w : World} {K : PySem.W.Frag} {mg : Str → Option Value} {base : Heap}
theorem okG {x : Str} {st : Stmt} {f : Addr} {fd : FuncData} {N ps : List Str} {k : Nat} {sp : Sp} {cdv : Value} (F : ∃ (oc : Value) (od : Option Addr) (kV doc pm : Value) (an : Option Addr) (ct : Value) (osl : Array (Option Value)),
      fd = PySem.W.fnOf x x (defArgs st) (defBody st) (defScope st) .none kV doc pm an cdv ct ∧ K.lookup f = some ⟨oc, od, .func fd, osl⟩ ∧ PySem.W.codeIn K cdv x = true)
    (S : FnScope N ps (defScope st)) (len : ∀ vs H Q E, sp vs H Q E → vs.length = ps.length)
    (hbody : ∀ (A : Around) (outer : List Env) (s : Shared) (H : Hp) (vs : List V) (Q : VK) (E : XK), (A.deeper (envOfC x (defScope st) s.heap.objs.size f cdv)).guards = some [] → Room k (A.deeper (envOfC x (defScope st) s.heap.objs.size f cdv)) → sp vs H Q E →
      ∃ t, PSs (cxOf CX0 P w K mg base N x (defScope st) f cdv A outer s H E).nox (defBody st) t ∧ t { nx := fun _ H' => Q .non H', rt := Q } (L2.start N vs) H) : FnG P w K mg base CX0 (k + 1) f fd ps sp := by
  obtain ⟨oc, od, kV, doc, pm, an, ct, osl, rfl, lk, hcd⟩ := F
  refine ⟨len, fun A outer s H args us vs Q E hg hr e0 hb r hsp => ?_⟩
  refine LamX.run_ofS lk hcd S hr e0 hb r (len _ _ _ _ hsp) fun hr' => ?_
  obtain ⟨t, h, q⟩ := hbody A outer s H vs Q E hg hr' hsp
  exact ⟨t, h.nox, q⟩
theorem FnG.of {f : Addr} {fd : FuncData} {ps : List Str} {k : Nat} {sp : Sp} {CX : CXT} (F : FnOk P w K mg base CX k f fd ps sp) : FnG P w K mg base CX k f fd ps sp := ⟨F.len, fun A outer s H args us vs Q E _ hr => F.run A outer s H args us vs Q E hr⟩
end
section
variable {X : Cx} {CX : CXT} {k : Nat} {f : Addr} {fd : FuncData} {ps : List Str} {sp : Sp} {E : XK} {x : Str} {p pos : Pos} {e : Expr} {es : List Expr} {t : TA}
theorem run_fnG {pins : List (Addr × Obj)} {σ : L2.St} {H : Hp} {s : Shared} {Q : VK} {us : List Value} {vs : List V} (F : FnG X.prog X.w X.K X.mg X.base CX k f fd ps sp) (hg : X.A.guards = some []) (hr : Room k X.A) (hb : Binds X.K fd ps []) (hx : Passes CX X E)
    (I : Inv X pins σ H s) (r : Vals vs us) (h : sp vs H Q E) : wpAny (model X.prog X.w) X.A (call (.ref f) us) (EP X pins σ Q) X.xe s := by
  have hl : (us ++ []).length = ps.length := by rw [List.append_nil, ← r.length]; exact F.len _ _ _ _ h
  have hb' := hb s us I.kIn hl
  rw [List.append_nil] at hb'
  refine wpAny_call (codeAny_mono (F.run X.A X.stack s H ⟨us, []⟩ us vs Q E hg hr I.env0 hb' r h) fun r s' q => ?_)
  rcases r with e | fl
  · exact hx pins σ H s e s' I q
  · cases fl with
    | ret u => exact I.after q
    | next => exact q.elim
    | brk => exact q.elim
    | cont => exact q.elim
theorem pe_callG (F : FnG X.prog X.w X.K X.mg X.base CX k f fd ps sp) (hgd : X.A.guards = some []) (hr : Room k X.A) (hg : Gl X x) (hm : X.mg x = some (.ref f)) (hk : PySem.W.keepIn X.K (.ref f) = true) (hb : Binds X.K fd ps []) (hx : Passes CX X E) (ha : PA X (e :: es) t)
    (hdb : (x == ("__debug__" : Str)) = false := by decide) (he : starEach (e :: es) X.env = (false, eval e X.env) :: starEach es X.env := by rfl) (hpl : (backTo pos (starEach es X.env)).any (·.1) = false := by rfl) :
    PE X (.Call (.Name x p) (e :: es) [] pos) (fun σ H Q => t σ H fun vs H1 => sp vs H1 Q E) := by
  constructor
  intro pins s σ H Q I h
  refine wpAny_Call_Name_kw (ld_glob I hg hm ?_ hdb)
  refine PySem.W.callWith_K (h₀ := X.base) I.ok.mod.kin hk (thn (ha.run pos pins s σ H _ I h) fun us s1 q => ?_) he hpl
  obtain ⟨vs, H1, I1, r, q⟩ := q
  exact ⟨I1.kIn, run_fnG F hgd hr hb hx I1 r q⟩
end
/-! ### a call over a larger base: some objects of ours stand still while it runs -/
/-- what is known of the cells in a base -/
structure BCells (base : Heap) (cells : List (Str × Addr)) (cv : Str → Option V) : Prop where
  all : ∀ y c, cells.lookup y = some c → ∃ v, base.IsCell c v
  inj : ∀ x y c, cells.lookup x = some c → cells.lookup y = some c → x = y
  has : ∀ y v, cv y = some v → ∃ c u, cells.lookup y = some c ∧ RelV v u ∧ base.IsCell c (some u)
def dropL (H : Hp) (fs : List (Addr × Obj)) : Hp := fun b => if b ∈ fs.map (·.1) then none else H b
theorem dropL_of {H : Hp} {fs : List (Addr × Obj)} {b : Addr} {o : HO} (h : H b = some o) (ne : ∀ p ∈ fs, H p.1 = some (ObjO p.1 p.2)) (n : ∀ φ, o ≠ .ext φ) : dropL H fs b = some o := by
  unfold dropL
  rw [if_neg]
  · exact h
  · intro z
    obtain ⟨p, hp, e⟩ := List.mem_map.mp z
    have q := ne p hp
    rw [e, h] at q
    exact n _ (Option.some.inj q)
section
variable {X : Cx} {pins : List (Addr × Obj)} {σ : L2.St} {H : Hp} {s : Shared}
theorem inv_dropL (I : Inv X pins σ H s) : ∀ {fs : List (Addr × Obj)}, (∀ p ∈ fs, H p.1 = some (ObjO p.1 p.2)) → Inv X pins σ (dropL H fs) s := by
  intro fs
  induction fs with
  | nil =>
    intro _
    have e : dropL H [] = H := by
      funext b
      exact if_neg (fun z => nomatch z)
    rw [e]
    exact I
  | cons p fs ih =>
    intro h
    have J := ih fun q hq => h q (List.mem_cons_of_mem _ hq)
    have e : dropL H (p :: fs) = ItX.dropH (dropL H fs) p.1 := by
      funext b
      unfold dropL ItX.dropH
      by_cases hb : b = p.1
      · rw [if_pos hb, if_pos]
        rw [hb]
        exact List.mem_cons_self
      · rw [if_neg hb]
        show (if b ∈ (p :: fs).map (·.1) then none else H b) = if b ∈ fs.map (·.1) then none else H b
        by_cases hm : b ∈ fs.map (·.1)
        · rw [if_pos hm, if_pos]
          exact List.mem_cons_of_mem _ hm
        · rw [if_neg hm, if_neg]
          intro z
          rcases List.mem_cons.mp z with z | z
          · exact hb z
          · exact hm z
    rw [e]
    by_cases hm : p.1 ∈ fs.map (·.1)
    · have e2 : ItX.dropH (dropL H fs) p.1 = dropL H fs := by
        funext b
        unfold ItX.dropH
        split
        · rename_i hb
          rw [hb]
          exact (if_pos hm).symm
        · rfl
      rw [e2]
      exact J
    · exact ItX.inv_drop J (φ := fun h => h.get? p.1 = some p.2) ((if_neg hm).trans (h p List.mem_cons_self))
/-- the larger base -/
noncomputable def bigHp (X : Cx) (fs : List (Addr × Obj)) : Hp := open Classical in fun b => if (∃ o, X.base.get? b = some o) ∨ b ∈ fs.map (·.1) ∨ (∃ y, X.env.cells.lookup y = some b) then none else some (.lst [])
noncomputable def bigBase (X : Cx) (fs : List (Addr × Obj)) (h : Heap) : Heap := hidT h (bigHp X fs)
theorem big_of {fs : List (Addr × Obj)} {b : Addr} {o : Obj} (e : (bigBase X fs s.heap).get? b = some o) : s.heap.get? b = some o ∧ ((∃ o, X.base.get? b = some o) ∨ b ∈ fs.map (·.1) ∨ (∃ y, X.env.cells.lookup y = some b)) := by
  obtain ⟨h1, h2⟩ := of_hidT e
  refine ⟨h1, ?_⟩
  unfold bigHp at h2
  split at h2
  · assumption
  · cases h2
theorem big_get {fs : List (Addr × Obj)} {b : Addr} {o : Obj} (e : s.heap.get? b = some o) (h : (∃ o, X.base.get? b = some o) ∨ b ∈ fs.map (·.1) ∨ (∃ y, X.env.cells.lookup y = some b)) : (bigBase X fs s.heap).get? b = some o := by
  refine hidT_get e ?_
  unfold bigHp
  rw [if_pos h]
theorem big_base (I : Inv X pins σ H s) {fs : List (Addr × Obj)} : ∀ b o, X.base.get? b = some o → (bigBase X fs s.heap).get? b = some o := fun b o e => big_get (I.bk b o e) (.inl ⟨o, e⟩)
theorem big_env (I : Inv X pins σ H s) {fs : List (Addr × Obj)} (hf : ∀ p ∈ fs, H p.1 = some (ObjO p.1 p.2)) (fn : ∀ y, X.fn y = true) : Env0 X.prog X.w X.K X.mg (bigBase X fs s.heap) X.A X.stack s (dropL H fs) := by
  have J := inv_dropL I hf
  have E := J.env0
  have up := big_base I (fs := fs)
  have none_cell : ∀ b ∈ frs X.stack, ∀ y, X.env.cells.lookup y ≠ some b := fun b hb y e => by
    rcases List.mem_cons.mp (I.stkSub b hb) with z | z
    · exact I.cne y b e z
    · obtain ⟨_, o, ho, _⟩ := I.ok.funs.mem z
      exact absurd (Nat.lt_of_lt_of_le (Heap.lt_size ho) (I.ok.cab y b (fn y) e)) (Nat.lt_irrefl _)
  have none_big : ∀ b ∈ frs X.stack, X.base.get? b = none → (bigBase X fs s.heap).get? b = none := fun b hb hn => by
    cases q : (bigBase X fs s.heap).get? b with
    | none => rfl
    | some o =>
      obtain ⟨_, ⟨o2, z⟩ | z | ⟨y, z⟩⟩ := big_of q
      · rw [hn] at z
        cases z
      · obtain ⟨p, hp, e⟩ := List.mem_map.mp z
        have q2 := hf p hp
        rw [e, I.stkFree b hb] at q2
        cases q2
      · exact absurd z (none_cell b hb y)
  refine ⟨E.frames, ⟨I.mod.kin.keeps up, I.mod.glob.keeps up, ?_, ?_⟩, fun b o e => ?_, Nat.le_of_eq (hidT_size _ _), ?_, E.frf, E.hok, E.bare⟩
  · obtain ⟨mb, h1, h2⟩ := I.mod.blt
    exact ⟨mb, h1.keeps up, h2⟩
  · exact I.mod.nolimit.keeps up
  · obtain ⟨h1, h2⟩ := big_of e
    refine ⟨h1, ?_⟩
    unfold dropL
    split
    · rfl
    · rename_i nm
      rcases h2 with ⟨o2, z⟩ | z | ⟨y, z⟩
      · exact (I.bs b o2 z).2
      · exact absurd z nm
      · exact I.freeC y b z
  · have go : ∀ l : List Env, (∀ b ∈ frs l, b ∈ frs X.stack) → s.heap.FunFrames X.base l → s.heap.FunFrames (bigBase X fs s.heap) l := by
      intro l
      induction l with
      | nil => intro _ _; trivial
      | cons v r ih =>
        rintro sub ⟨h1, ⟨L, o, h2, h3, h4, h5⟩, h6⟩
        have inn : L ∈ frs X.stack := sub L (by unfold frs; rw [List.filterMap_cons, h2]; exact List.mem_cons_self)
        exact ⟨h1, ⟨L, o, h2, none_big L inn h3, h4, h5⟩, ih (fun b hb => sub b (by unfold frs at hb ⊢; rw [List.filterMap_cons, h2]; exact List.mem_cons_of_mem _ hb)) h6⟩
    exact go _ (fun _ hb => hb) E.funs
/-- a name that is a cell, by its slot -/
def cellV (X : Cx) (σ : L2.St) : Str → Option V := fun y => match X.N.findIdx? (fun z => decide (z = y)) with
  | some j => if X.env.scope.names.lookup y = some .cell then slotAt σ j else none
  | none => none
theorem big_cells (I : Inv X pins σ H s) {fs : List (Addr × Obj)} : BCells (bigBase X fs s.heap) X.env.cells (cellV X σ) := by
  have cellB : ∀ {y c v}, X.env.cells.lookup y = some c → s.heap.IsCell c v → (bigBase X fs s.heap).IsCell c v := fun {y c v} e ⟨o, ho, hd⟩ => ⟨o, big_get ho (.inr (.inr ⟨y, e⟩)), hd⟩
  refine ⟨fun y c e => ?_, I.ok.inj, fun y v e => ?_⟩
  · obtain ⟨v, z⟩ := I.cell y c e
    exact ⟨v, cellB e z⟩
  · unfold cellV at e
    split at e
    · rename_i j hj
      split at e
      · rename_i hk
        obtain ⟨hlt, hy, _⟩ := List.findIdx?_eq_some_iff_getElem.mp hj
        have hN : X.N[j]? = some y := by
          rw [List.getElem?_eq_getElem hlt, of_decide_eq_true hy]
        obtain ⟨m, hn, hl⟩ := I.loc
        obtain ⟨u, r, l⟩ := hl j y v hN (slotAt_some e) (.inr (.inl hk))
        rcases l with ⟨z, _⟩ | ⟨_, c, hc, z⟩
        · have z' : X.env.scope.names.lookup y = some .local := z
          rw [hk] at z'
          cases z'
        · exact ⟨c, u, hc, r, cellB hc z⟩
      · cases e
    · cases e
end
/-- the reading: the functions at fs are let go; what is promised over the larger base -/
def tBig (X : Cx) (k : Nat) (f : Addr) (fd : FuncData) (ps : List Str) (t : TA) : TE := fun σ H Q => t σ H fun vs H1 => ∃ fs : List (Addr × Obj), (∀ p ∈ fs, H1 p.1 = some (ObjO p.1 p.2)) ∧
  ∀ base : Heap, X.K.In base → (∀ p ∈ fs, base.get? p.1 = some p.2) → BCells base X.env.cells (cellV X σ) → ∃ sp : Sp, FnG X.prog X.w X.K X.mg base CX0 k f fd ps sp ∧ sp vs (dropL H1 fs) Q E0
section
variable {X : Cx} {k : Nat} {f : Addr} {fd : FuncData} {ps : List Str} {x : Str} {p pos : Pos} {e : Expr} {es : List Expr} {t : TA}
theorem pe_big (fn : ∀ y, X.fn y = true) (hgd : X.A.guards = some []) (hr : Room k X.A) (hg : Gl X x) (hm : X.mg x = some (.ref f)) (hk : PySem.W.keepIn X.K (.ref f) = true) (hb : Binds X.K fd ps []) (ha : PA X (e :: es) t)
    (hdb : (x == ("__debug__" : Str)) = false := by decide) (he : starEach (e :: es) X.env = (false, eval e X.env) :: starEach es X.env := by rfl) (hpl : (backTo pos (starEach es X.env)).any (·.1) = false := by rfl) :
    PE X (.Call (.Name x p) (e :: es) [] pos) (tBig X k f fd ps t) := by
  constructor
  intro pins s σ H Q I h
  refine wpAny_Call_Name_kw (ld_glob I hg hm ?_ hdb)
  refine PySem.W.callWith_K (h₀ := X.base) I.ok.mod.kin hk (thn (ha.run pos pins s σ H _ I h) fun us s1 q => ?_) he hpl
  obtain ⟨vs, H1, I1, r, fs, hf, q⟩ := q
  refine ⟨I1.kIn, ?_⟩
  have J := inv_dropL I1 hf
  obtain ⟨sp, F, q⟩ := q (bigBase X fs s1.heap) (I1.mod.kin.keeps (big_base I1)) (fun p hp => big_get (objO_at I1.hok (hf p hp)) (.inr (.inl (List.mem_map_of_mem hp)))) (big_cells I1)
  have hl : (us ++ []).length = ps.length := by rw [List.append_nil, ← r.length]; exact F.len _ _ _ _ q
  have hb' := hb s1 us I1.kIn hl
  rw [List.append_nil] at hb'
  refine wpAny_call (codeAny_mono (F.run X.A X.stack s1 (dropL H1 fs) ⟨us, []⟩ us vs Q E0 hgd hr (big_env I1 hf fn) hb' r q) fun r s' z => ?_)
  rcases r with e | fl
  · exact (show False from z).elim
  · cases fl with
    | ret u => exact J.after z
    | next => exact z.elim
    | brk => exact z.elim
    | cont => exact z.elim
end
/-! ### a function of the base, called by a name -/
theorem lam_run {P : Program} {w : World} {K : PySem.W.Frag} {mg : Str → Option Value} {base : Heap} {CX : CXT} {N ps fr : List Str} {F : NF} {f : Addr} {params : Arguments} {body : Expr} {nm : Str} {pm ctv : Value} {k : Nat} {ws : List (Option V)} {sp : Sp} {cells : List (Str × Addr)} {cv : Str → Option V}
    (ob : base.get? f = some (PySem.W.kla_obj nm F.qual params body F.scope F.cl pm F.c ctv)) (S : NScope N ps fr F.scope) (hb : ∀ us : List Value, us.length = ps.length → bindArgs (PySem.W.kla_fn nm F.qual params body F.scope F.cl pm (.ref F.c) ctv) ⟨us, []⟩ = pure (ps.zip us))
    (B : BCells base cells cv) (sub : ∀ y c, F.cl.lookup y = some c → cells.lookup y = some c) (sup : ∀ y ∈ fr, ∀ c, cells.lookup y = some c → F.cl.lookup y = some c) (hw : ws = fr.map cv) (hs : ∀ y ∈ fr, (cv y).isSome = true)
    (len : ∀ vs H Q E, sp vs H Q E → vs.length = ps.length) (hc : ∀ vs H Q E, sp vs H Q E → H F.c = some (CodeO F.c F.qual))
    (hbody : ∀ (A : Around) (outer : List Env) (s : Shared) (H : Hp) (vs : List V) (Q : VK) (E : XK), Room k (A.deeper (envF F f s.heap.objs.size)) → sp vs H Q E → ∃ t, PE (ncx CX P w K mg base N F f A outer s H E) body t ∧ t (startF N vs ws) H Q) :
    FnR P w K mg base CX (k + 1) f sp := by
  intro A outer s H us vs Q E hr e0 r hsp
  have hl := len _ _ _ _ hsp
  have lim : s.heap.NoLimit := e0.mod.nolimit.keeps fun b o e => (e0.bs b o e).1
  have cellK : ∀ {c : Addr} {v : Option Value}, base.IsCell c v → s.heap.IsCell c v ∧ H c = none := fun {c v} ⟨o, ho, hd⟩ => ⟨⟨o, (e0.bs c o ho).1, hd⟩, (e0.bs c o ho).2⟩
  have C : CellsAt F.cl fr ws s.heap H := by
    refine ⟨by rw [hw, List.length_map], fun y c e => ?_, fun x y c e1 e2 => B.inj x y c (sub x c e1) (sub y c e2), fun i y e => ?_⟩
    · obtain ⟨v, z⟩ := B.all y c (sub y c e)
      obtain ⟨z1, z2⟩ := cellK z
      exact ⟨z2, v, z1⟩
    · have m := List.mem_of_getElem? e
      obtain ⟨v, hv⟩ := Option.isSome_iff_exists.mp (hs y m)
      obtain ⟨c, u, h1, h2, h3⟩ := B.has y v hv
      refine ⟨c, sup y m c h1, fun v' ev => ?_⟩
      rw [hw, List.getElem?_map, e] at ev
      have ev2 : cv y = some v' := Option.some.inj (show some (cv y) = some (some v') from ev)
      rw [hv] at ev2
      cases ev2
      exact ⟨u, h2, (cellK h3).1⟩
  refine PySem.W.kla_callFunE hr.depth (e0.bs f _ ob).1 rfl S.co S.gen rfl (codeO_at e0.hok (hc _ _ _ _ hsp)) ?_
  rw [hb us (by rw [← r.length]; exact hl)]
  refine wpAny_pure (wpAny_newFunctionEnv S.nocell (fun y hy => S.par y.1 (List.of_mem_zip (show (y.1, y.2) ∈ _ from hy)).1) (fun h1 hns hsb => ⟨lim.fresh _ hsb, ?_⟩) S.kind)
  show codeAny _ _ (.expr body (envF F f s.heap.objs.size)) _ _
  obtain ⟨t, ht, hq⟩ := hbody A outer s H vs Q E (hr.deeper _) hsp
  have J := inv_startN (CX := CX) (E := E) (f := f) (tk := s.toks + (ps.zip us).length) S hr.hd e0 hl r C hns fun b o e => hsb.extBut b o (Nat.ne_of_lt (Heap.lt_size e)) (Heap.get?_push_of_some _ e)
  refine PySem.W.kla_codeExpr (wpAny_mono (ht.run [] _ _ H Q J hq) (fun v s' z => ?_) fun _ _ z => z)
  obtain ⟨w', H', J', rv, q⟩ := z
  exact ⟨w', H', J'.os, J'.bare, J'.base, J'.hok, rv, q⟩
/-- f(e, ..), the slot i holds a function of the base that keeps a promise -/
def tCallF (P : Program) (w : World) (K : PySem.W.Frag) (mg : Str → Option Value) (base : Heap) (i k : Nat) (t : TA) : TE := fun σ H Q => ∃ (f : Addr) (sp : Sp) (oc : Value) (od : Option Addr) (fd : FuncData) (sl : Array (Option Value)),
  σ[i]? = some (some (.ref f)) ∧ base.get? f = some ⟨oc, od, .func fd, sl⟩ ∧ FnR P w K mg base (L2.CX P w) k f sp ∧ t σ H fun vs H1 => sp vs H1 Q E0
theorem pe_callF {X : Cx} {P : Program} {w : World} {K : PySem.W.Frag} {mg : Str → Option Value} {base : Heap} {i k : Nat} {x : Str} {e : Expr} {es : List Expr} {t : TA} {p pos : Pos} (e1 : X.prog = P) (e2 : X.w = w) (e3 : X.K = K) (e4 : X.mg = mg) (e5 : X.base = base) (hr : Room k X.A) (ha : PA X (e :: es) t) (hN : X.N[i]? = some x := by rfl)
    (hv : Vis X.env.scope x := by first | exact Or.inl rfl | exact Or.inr (Or.inl rfl) | exact Or.inr (Or.inr rfl)) (hd : (x == ("__debug__" : Str)) = false := by decide) (hcd : (x == ("__classdict__" : Str)) = false := by decide) (he : starEach (e :: es) X.env = (false, eval e X.env) :: starEach es X.env := by rfl)
    (hpl : (backTo pos (starEach es X.env)).any (·.1) = false := by rfl) : PE X (.Call (.Name x p) (e :: es) [] pos) (tCallF P w K mg base i k t) := by
  subst e1 e2 e3 e4 e5
  constructor
  intro pins s σ H Q I h
  obtain ⟨f, sp, oc, od, fd, sl, hs, ho, F, ht⟩ := h
  refine wpAny_Call_Name_kw (thn ((pe_var (pos := p) (i := i) hN hv hd hcd).run pins s σ H (fun v H1 => v = .ref f ∧ H1 = H) I ⟨.ref f, hs, rfl, rfl⟩) fun u s1 q => ?_)
  obtain ⟨v, H1, I1, r1, rfl, rfl⟩ := q
  cases r1
  refine PySem.W.callWith_F (first := []) ⟨oc, od, fd, sl, I1.bk f _ ho⟩ (thn (ha.run pos pins s1 σ _ _ I1 ht) fun us s2 q => ?_) he hpl
  obtain ⟨vs, H2, I2, r, q⟩ := q
  exact ⟨⟨oc, od, fd, sl, I2.bk f _ ho⟩, wpAny_call (run_fnR F hr passL I2 r q)⟩
end K80
namespace K80
open PySem PySem.Spec PyProof.Rows L2
/-! ### an evening in a valley's own terms; what repr shows of it -/
theorem road_flip {R : List Rd2} (u : UniqR R) {p ab : Rd2} (h : ab ∈ R) (f : Flip p ab) : roadOf R p = some ab := by
  have same : ∀ cd : Rd2, sameRd p cd = true → cd = ab ∨ cd = (ab.2, ab.1) := fun cd hc => by
    have q : cd = p ∨ cd = (p.2, p.1) := of_decide_eq_true hc
    rcases f with rfl | rfl
    · exact q
    · rcases q with q | q
      · exact .inr q
      · exact .inl q
  cases e : roadOf R p with
  | none =>
    refine absurd ?_ (List.find?_eq_none.mp e ab h)
    refine decide_eq_true ?_
    rcases f with rfl | rfl
    · exact .inl rfl
    · exact .inr rfl
  | some cd =>
    have q := same cd (List.find?_some (p := sameRd p) e)
    obtain ⟨j, hj, ej⟩ := List.mem_iff_getElem.mp (List.mem_of_find?_eq_some e)
    obtain ⟨i, hi, ei⟩ := List.mem_iff_getElem.mp h
    rcases q with rfl | q
    · rfl
    · have z := u i j ab.1 ab.2 (List.getElem?_eq_some_iff.mpr ⟨hi, ei⟩) (.inr (List.getElem?_eq_some_iff.mpr ⟨hj, ej.trans q⟩))
      subst z
      rw [← ej, ei]
theorem road_in_flip {N : List Str} {R : List Rd2} (ok : SomeOk N R) {p ab : Rd2} (h : ab ∈ R) (f : Flip p ab) : roadIn N R (some p) = some ab := by
  have e := ok.tree.ends ab h
  refine (if_pos ?_).trans (road_flip (rep_uniq ok.rep) h f)
  rcases f with rfl | rfl
  · exact e
  · exact ⟨e.2, e.1⟩
theorem flip_map {N : List Str} {R : List Rd2} (ok : SomeOk N R) : ∀ {L2 L : List Rd2}, Paired Flip L2 L → (∀ ab ∈ L, ab ∈ R) → (L2.map some).filterMap (roadIn N R) = L ∧ ∀ p ∈ L2.map some, roadIn N R p ≠ none
  | _, _, .nil, _ => ⟨rfl, fun p h => nomatch h⟩
  | p :: L2, ab :: L, .cons r t, h => by
    obtain ⟨h1, h2⟩ := flip_map ok t fun x hx => h x (List.mem_cons_of_mem _ hx)
    have e := road_in_flip ok (h ab List.mem_cons_self) r
    refine ⟨?_, fun q hq => ?_⟩
    · rw [List.map_cons, List.filterMap_cons, e, h1]
    · rw [List.map_cons] at hq
      rcases List.mem_cons.mp hq with rfl | hq
      · rw [e]
        exact fun z => nomatch z
      · exact h2 q hq
theorem known_flip {N : List Str} {R L L2 : List Rd2} (ok : SomeOk N R) (pL : L.Perm R) (f : Paired Flip L2 L) : knownEv N R (some (L2.map some)) = some L := by
  obtain ⟨h1, h2⟩ := flip_map ok f fun ab hab => pL.mem_iff.mp hab
  have q : knownEv N R (some (L2.map some)) = some ((L2.map some).filterMap (roadIn N R)) := if_pos ⟨by rw [List.length_map, Paired.length f, pL.length_eq], h2, by rw [h1]; exact pL.nodup_iff.mpr ok.vok.ndR⟩
  rw [q, h1]
theorem flip_refl {L : List Rd2} : Paired Flip L L := paired_self fun _ _ => .inl rfl
theorem paired_mapR {α β γ : Type} {F : α → γ → Prop} {g : β → γ} : ∀ {xs : List α} {ys : List β}, Paired (fun x y => F x (g y)) xs ys → Paired F xs (ys.map g)
  | _, _, .nil => .nil
  | _, _, .cons r t => .cons r (paired_mapR t)
theorem roads_ev {K : PySem.W.Frag} {H : Hp} {a : Addr} {L : List Rd2} (h : RoadsIn H a L) (z : L.length ≤ 1000) : EvArg K H (.ref a) (some (L.map some)) := by
  obtain ⟨us, h1, h2⟩ := h
  refine .seq h1 (by rw [List.length_map, Paired.length h2]; exact z) (paired_mapR ?_)
  clear h1 z
  induction h2 with
  | nil => exact .nil
  | cons r t ih => exact .cons (.two r) ih
theorem pairs_in {H : Hp} {a : Addr} {us : List Addr} {L : List Rd2} (h1 : H a = some (.lst (us.map V.ref))) (h2 : PairsAt H us L) : RoadsIn H a L := ⟨us, .inl h1, paired_same (fun _ _ z => .inr z) h2⟩
/-! what repr shows of roads -/
structure Plain (n : Nat) (k : Nat) (d : PyData) : Prop where
  c : d.canLay0 = true
  s : d.showable = true
  l : d.leavesShort 201 = true
  w : d.weight ≤ n
  p : d.depth ≤ k
theorem str_plain {z : Str} (ok : OkName z) (so : PyData.strOk z = true) : Plain 8 0 (.str z) := by
  refine ⟨?_, rfl, ?_, okName_sz ok, Nat.le_refl _⟩
  · simp only [PyData.canLay0]
    exact so
  · simp only [PyData.leavesShort]
    exact List.all_eq_true.mpr fun c hc => decide_eq_true (okName_big ok c hc)
theorem pair_plain {x y : PyData} (hx : Plain 8 0 x) (hy : Plain 8 0 y) : Plain 18 1 (.list [x, y]) ∧ Plain 18 1 (.tuple [x, y]) := by
  have h1 := hx.w
  have h2 := hy.w
  have h3 := hx.p
  have h4 := hy.p
  refine ⟨⟨?_, ?_, ?_, ?_, ?_⟩, ?_, ?_, ?_, ?_, ?_⟩
  · simp only [PyData.canLay0, PyData.canLayAll0, hx.c, hy.c, Bool.and_self]
  · simp only [PyData.showable, PyData.showableAll, hx.s, hy.s, Bool.and_self]
  · simp only [PyData.leavesShort, PyData.leavesShortAll, hx.l, hy.l, Bool.and_self]
  · simp only [PyData.weight, PyData.weightAll]
    omega
  · simp only [PyData.depth, PyData.depthAll]
    omega
  · simp only [PyData.canLay0, PyData.canLayAll0, hx.c, hy.c, Bool.and_self]
  · simp only [PyData.showable, PyData.showableAll, hx.s, hy.s, Bool.and_self]
  · simp only [PyData.leavesShort, PyData.leavesShortAll, hx.l, hy.l, Bool.and_self]
  · simp only [PyData.weight, PyData.weightAll]
    omega
  · simp only [PyData.depth, PyData.depthAll]
    omega
structure PlainAll (n : Nat) (k : Nat) (ds : List PyData) : Prop where
  c : PyData.canLayAll0 ds = true
  s : PyData.showableAll ds = true
  l : PyData.leavesShortAll 201 ds = true
  w : PyData.weightAll ds ≤ n
  p : PyData.depthAll ds ≤ k
theorem PlainAll.cons {n m k : Nat} {d : PyData} {ds : List PyData} (h : Plain n k d) (t : PlainAll m k ds) : PlainAll (n + 1 + m) k (d :: ds) := by
  have h1 := h.w
  have h2 := t.w
  have h3 := h.p
  have h4 := t.p
  refine ⟨?_, ?_, ?_, ?_, ?_⟩
  · simp only [PyData.canLayAll0, h.c, t.c, Bool.and_self]
  · simp only [PyData.showableAll, h.s, t.s, Bool.and_self]
  · simp only [PyData.leavesShortAll, h.l, t.l, Bool.and_self]
  · simp only [PyData.weightAll]
    omega
  · simp only [PyData.depthAll]
    omega
theorem PlainAll.lst {n k : Nat} {ds : List PyData} (h : PlainAll n k ds) : Plain n (k + 1) (.list ds) ∧ Plain n (k + 1) (.tuple ds) := by
  have h2 := h.w
  have h4 := h.p
  refine ⟨⟨?_, ?_, ?_, ?_, ?_⟩, ?_, ?_, ?_, ?_, ?_⟩
  · simp only [PyData.canLay0]; exact h.c
  · simp only [PyData.showable]; exact h.s
  · simp only [PyData.leavesShort]; exact h.l
  · simp only [PyData.weight]; exact h2
  · simp only [PyData.depth]; omega
  · simp only [PyData.canLay0]; exact h.c
  · simp only [PyData.showable]; exact h.s
  · simp only [PyData.leavesShort]; exact h.l
  · simp only [PyData.weight]; exact h2
  · simp only [PyData.depth]; omega
/-- a road as data -/
theorem road_dp {K : PySem.W.Frag} {H : Hp} {u : Addr} {ab : Rd2} (h : Seq H u [.str ab.1, .str ab.2]) (ok : NmOk ab.1 ∧ NmOk ab.2) : ∃ d, Dp K H (.ref u) d ∧ Plain 18 1 d := by
  have q := pair_plain (str_plain ok.1.ok ok.1.st) (str_plain ok.2.ok ok.2.st)
  rcases h with h | h
  · exact ⟨_, .lst (SqL.of h) (.cons (.str _) (.cons (.str _) .nil)), q.1⟩
  · exact ⟨_, .tup (SqT.of h) (.cons (.str _) (.cons (.str _) .nil)), q.2⟩
theorem roads_dps {K : PySem.W.Frag} {H : Hp} : ∀ {us : List Addr} {L : List Rd2}, Paired (fun u ab => Seq H u [.str ab.1, .str ab.2]) us L → (∀ ab ∈ L, NmOk ab.1 ∧ NmOk ab.2) → ∃ ds, DpAll K H (us.map V.ref) ds ∧ PlainAll (19 * L.length) 1 ds
  | _, _, .nil, _ => ⟨[], .nil, rfl, rfl, rfl, Nat.le_refl _, Nat.zero_le _⟩
  | u :: us, ab :: L, .cons r t, h => by
    obtain ⟨d, h1, h2⟩ := road_dp (K := K) r (h ab List.mem_cons_self)
    obtain ⟨ds, h3, h4⟩ := roads_dps t fun x hx => h x (List.mem_cons_of_mem _ hx)
    have q := PlainAll.cons h2 h4
    rw [show 18 + 1 + 19 * L.length = 19 * (ab :: L).length by rw [List.length_cons]; omega] at q
    exact ⟨d :: ds, .cons h1 h3, q⟩
structure Fit (d : PyData) : Prop where
  c : d.canLay0 = true
  p : d.depth ≤ 4
  s : d.showable = true
  z : d.shown.length ≤ 5100000
theorem Plain.fit {n k : Nat} {d : PyData} (h : Plain n k d) (hn : n ≤ 20000) (hk : k ≤ 4) : Fit d := by
  refine ⟨h.c, Nat.le_trans h.p hk, h.s, ?_⟩
  have h1 := PyData.shown_le 201 (by decide) d h.l
  have h3 : (201 + 2) * d.weight ≤ 203 * 20000 := Nat.mul_le_mul_left _ (Nat.le_trans h.w hn)
  omega
theorem roads_dp {K : PySem.W.Frag} {H : Hp} {a : Addr} {L : List Rd2} (h : RoadsIn H a L) (z : L.length ≤ 60) (ok : ∀ ab ∈ L, NmOk ab.1 ∧ NmOk ab.2) : ∃ d, Dp K H (.ref a) d ∧ Fit d := by
  obtain ⟨us, h1, h2⟩ := h
  obtain ⟨ds, h3, h4⟩ := roads_dps (K := K) h2 ok
  obtain ⟨q1, q2⟩ := h4.lst
  rcases h1 with h1 | h1
  · exact ⟨_, .lst (SqL.of h1) h3, q1.fit (by omega) (by decide)⟩
  · exact ⟨_, .tup (SqT.of h1) h3, q2.fit (by omega) (by decide)⟩
mutual
theorem dp_same {K : PySem.W.Frag} {H H' : Hp} (e : Same H H') : ∀ (d : PyData) (v : V), Dp K H v d → Dp K H' v d
  | .none, _, h => by cases h; exact .non
  | .bool b, _, h => by cases h; exact .bl b
  | .int i, _, h => by cases h; exact .int i
  | .str x, _, h => by cases h; exact .str x
  | .list ds, _, h => by
    cases h with
    | lst hs ha => exact .lst (SqL.same e hs) (dps_same e ds _ ha)
  | .tuple ds, _, h => by
    cases h with
    | tup hs ha =>
      refine .tup ?_ (dps_same e ds _ ha)
      rcases hs with (h | ⟨o, h⟩) | h
      · exact .inl (.inl (e _ _ h))
      · exact .inl (.inr ⟨o, e _ _ h⟩)
      · exact .inr h
  | .dict _, _, h => by cases h
theorem dps_same {K : PySem.W.Frag} {H H' : Hp} (e : Same H H') : ∀ (ds : List PyData) (vs : List V), DpAll K H vs ds → DpAll K H' vs ds
  | [], _, h => by cases h; exact .nil
  | d :: ds, _, h => by
    cases h with
    | cons h1 h2 => exact .cons (dp_same e d _ h1) (dps_same e ds _ h2)
end
/-- a dict of whole numbers, as repr shows it -/
def hpRows (N : List Str) (h : Str → Int) : List (Str × PyData) := N.map fun n => (n, .int (h n))
theorem rows_ints {H : Hp} {d : Addr} {N : List Str} {h : Str → Int} (e : H d = some (.dK (dOf N fun n => .int (h n)))) (z : N.length ≤ 60) (nm : ∀ n ∈ N, OkName n) (hb : ∀ n ∈ N, (h n).natAbs.log2 < 200) : RowsAt H d (hpRows N h) := by
  refine ⟨⟨_, e, ?_⟩, by unfold hpRows; rw [List.length_map]; exact z, fun q hq => ?_⟩
  · clear e z nm
    induction N with
    | nil => exact .nil
    | cons n N ih => exact .cons ⟨rfl, .int (hb n List.mem_cons_self)⟩ (ih fun m hm => hb m (List.mem_cons_of_mem _ hm))
  · obtain ⟨n, hn, rfl⟩ := List.mem_map.mp hq
    exact nm n hn
/-- what is left in each house, as repr shows it -/
def leftRows (N : List Str) (R L : List Rd2) (h : Str → Int) : List (Str × PyData) := N.map fun n => (n, .tuple ([(low (h n) (2 ^ oftN N R L n)).1, (low (h n) (2 ^ oftN N R L n)).2].map .int))
theorem log_lt {i : Int} {k : Nat} (h : i.natAbs < 2 ^ k) (k0 : 0 < k) : i.natAbs.log2 < k := by
  by_cases h0 : i.natAbs = 0
  · rw [h0]
    exact k0
  · exact (Nat.log2_lt h0).mpr h
theorem low_small {a b : Int} {k : Nat} (ha : 0 ≤ a) (hb : 1 ≤ b) (h1 : a.natAbs < 2 ^ k) (h2 : b.natAbs < 2 ^ k) : (low a b).1.natAbs < 2 ^ k ∧ (low a b).2.natAbs < 2 ^ k := by
  unfold low
  refine ⟨?_, ?_⟩
  · refine Nat.lt_of_le_of_lt ?_ h1
    rw [Int.natAbs_ediv_of_nonneg ha]
    exact Nat.div_le_self _ _
  · refine Nat.lt_of_le_of_lt ?_ h2
    rw [Int.natAbs_ediv_of_nonneg (by omega)]
    exact Nat.div_le_self _ _
end K80
namespace K80
open PySem PySem.Spec PyProof.Rows L2
/-! ### f(z=.., y=.., x=..): three keywords, turned round -/
def tKW (sp : Sp) (E : XK) (tk : TA) : TE := fun σ H Q => tk σ H fun zs H1 => ∃ a b c, zs = [a, b, c] ∧ sp [c, b, a] H1 Q E
theorem pe_callKW {X : Cx} {CX : CXT} {k : Nat} {f : Addr} {fd : FuncData} {n1 n2 n3 : Str} {sp : Sp} {E : XK} {x : Str} {p pos : Pos} {kws : List Keyword} {tk : TA} (F : FnOk X.prog X.w X.K X.mg X.base CX k f fd [n1, n2, n3] sp) (hr : Room k X.A) (hg : Gl X x) (hm : X.mg x = some (.ref f)) (hk : PySem.W.keepIn X.K (.ref f) = true)
    (hb : ∀ a b c : Value, bindArgs fd ⟨[], [(n3, a), (n2, b), (n1, c)]⟩ = pure [(n1, c), (n2, b), (n3, a)]) (hx : Passes CX X E) (hkw : PK X kws tk) (hall : (backToKw pos (keywordEach kws X.env)).all (·.1.isSome) = true := by rfl) (hks : (backToKw pos (keywordEach kws X.env)).filterMap (·.1) = [n3, n2, n1] := by rfl)
    (hdb : (x == ("__debug__" : Str)) = false := by decide) (hpl : ((backTo pos (starEach [] X.env)).any (·.1) || (backToKw pos (keywordEach kws X.env)).any (·.1.isNone)) = false := by rfl) :
    PE X (.Call (.Name x p) [] kws pos) (tKW sp E tk) := by
  constructor
  intro pins s σ H Q I h
  refine wpAny_Call_Name_kw (ld_glob I hg hm ?_ hdb)
  refine PySem.W.callWith_KW0 (first := []) I.kIn hk hall (thn (hkw.run pos pins s σ H _ I h) fun ws s2 q => ?_) hpl
  obtain ⟨zs, H2, I2, rz, a, b, c, rfl, q⟩ := q
  refine ⟨I2.kIn, ?_⟩
  rw [hks]
  cases rz with
  | cons r1 t1 => cases t1 with
    | cons r2 t2 => cases t2 with
      | cons r3 t3 => cases t3 with
        | nil =>
          rename_i u1 u2 u3
          refine wpAny_call (codeAny_mono (F.run X.A X.stack s2 H2 _ [u3, u2, u1] [c, b, a] Q E hr I2.env0 (.of_eq (hb u1 u2 u3)) (.cons r3 (.cons r2 (.cons r1 .nil))) q) fun r s' z => ?_)
          rcases r with e | fl
          · exact hx pins σ H2 s2 e s' I2 z
          · cases fl with
            | ret u => exact I2.after z
            | next => exact z.elim
            | brk => exact z.elim
            | cont => exact z.elim
end K80
namespace K80
open PySem PySem.Spec PyProof.Rows L2
/-! ### asked rightly -/
theorem heapOf_dOf {N : List Str} {h : Str → Int} {n : Str} (hn : n ∈ N) : heapOf (dOf N fun n => .int (h n)) n = h n := by
  unfold heapOf
  rw [val_dOf hn]
theorem hpOk_dOf {N : List Str} {h : Str → Int} {n : Str} (hn : n ∈ N) (hb : 0 ≤ h n) : hpOk (dOf N fun n => .int (h n)) n = true := by
  unfold hpOk
  rw [val_dOf hn]
  exact decide_eq_true hb
theorem LeftAt.congr {H : Hp} {N : List Str} {R L : List Rd2} {h h2 : Str → Int} {d : Addr} {g : Str → Addr} (e : ∀ n ∈ N, h n = h2 n) (a : LeftAt H N R L h d g) : LeftAt H N R L h2 d g :=
  ⟨a.d, fun n hn => by rw [← e n hn]; exact a.t n hn⟩
theorem topN_congr {N : List Str} {R L : List Rd2} {h h2 : Str → Int} (e : ∀ n ∈ N, h n = h2 n) : topN N R L h = topN N R L h2 := by
  unfold topN
  exact congrArg List.sum (List.map_congr_left fun n hn => by rw [e n hn])
theorem LeftAt.same {H H' : Hp} {N : List Str} {R L : List Rd2} {h : Str → Int} {d : Addr} {g : Str → Addr} (e : Same H H') (a : LeftAt H N R L h d g) : LeftAt H' N R L h d g :=
  ⟨e _ _ a.d, fun n hn => e _ _ (a.t n hn)⟩
section
variable {K : PySem.W.Frag} {C CV CE CH : Addr} {H : Hp} {v d : Addr} {x : V} {N N2 : List Str} {R L : List Rd2} {o : Option (List (Option Rd2))} {h : Str → Int} {Q : VK} {E : XK}
theorem ask_good (hV : ValAt C H v N R) (ok : SomeOk N R) (he : EvArg K H x o) (hk : knownEv N R o = some L) (hd : H d = some (.dK (dOf N2 fun n => .int (h n)))) (pN : N2.Perm N) (hb : ∀ n ∈ N, 0 ≤ h n ∧ h n ≤ 10 ^ 15) :
    AskIn K C H (.ref v) x (.ref d) (.good N R L (heapOf (dOf N2 fun n => .int (h n)))) := by
  refine .good hV ok.vok he hk hd (by rw [dOf_len, pN.length_eq]) (fun n hn => hpOk_dOf (pN.mem_iff.mpr hn) (hb n hn).1) fun n hn => ?_
  rw [heapOf_dOf (pN.mem_iff.mpr hn)]
  exact Int.lt_of_le_of_lt (hb n hn).2 (by decide)
theorem leav_ok (hV : ValAt C H v N R) (ok : SomeOk N R) (he : EvArg K H x o) (hk : knownEv N R o = some L) (hd : H d = some (.dK (dOf N2 fun n => .int (h n)))) (pN : N2.Perm N) (hb : ∀ n ∈ N, 0 ≤ h n ∧ h n ≤ 10 ^ 15)
    (k : ∀ H' d2 g, Same H H' → H d2 = none → LeftAt H' N R L h d2 g → Q (.ref d2) H') : spLeavings K C CV CE CH [.ref v, x, .ref d] H Q E := by
  refine ⟨_, _, _, _, rfl, ask_good hV ok he hk hd pN hb, (fun z => nomatch z), (fun z => nomatch z), (fun z => nomatch z), fun N' R' L' h' e => ?_⟩
  cases e
  intro H' d2 g s n la
  exact k H' d2 g s n (la.congr fun n hn => heapOf_dOf (pN.mem_iff.mpr hn))
theorem tog_ok (hV : ValAt C H v N R) (ok : SomeOk N R) (he : EvArg K H x o) (hk : knownEv N R o = some L) (hd : H d = some (.dK (dOf N2 fun n => .int (h n)))) (pN : N2.Perm N) (hb : ∀ n ∈ N, 0 ≤ h n ∧ h n ≤ 10 ^ 15)
    (k : ∀ H' t, Same H H' → H' t = some (.tup (lowV (topN N R L h) (2 ^ mostN N R L))) → Q (.ref t) H') : spTogether K C CV CE CH [.ref v, x, .ref d] H Q E := by
  refine ⟨_, _, _, _, rfl, ask_good hV ok he hk hd pN hb, (fun z => nomatch z), (fun z => nomatch z), (fun z => nomatch z), fun N' R' L' h' e => ?_⟩
  cases e
  intro H' t s ht
  rw [topN_congr fun n hn => heapOf_dOf (pN.mem_iff.mpr hn)] at ht
  exact k H' t s ht
end
/-- alike: two dicts of what is left -/
theorem left_lv {H : Hp} {N : List Str} {R L : List Rd2} {h : Str → Int} {d1 d2 : Addr} {g1 g2 : Str → Addr} (a : LeftAt H N R L h d1 g1) (b : LeftAt H N R L h d2 g2) (z : N.length ≤ 60) : Lv 5 H (.ref d1) (.ref d2) := by
  refine .inr (.inr ⟨rfl, .mk a.d b.d (by rw [dOf_len]; omega) ?_⟩)
  have go : ∀ M : List Str, (∀ n ∈ M, n ∈ N) → Paired (fun (p q : Key × V) => (p.1 = q.1 ∧ ∃ n, p.1 = Sum.inr n) ∧ Lv 4 H p.2 q.2) (dOf M fun n => .ref (g1 n)) (dOf M fun n => .ref (g2 n)) := by
    intro M
    induction M with
    | nil => intro _; exact .nil
    | cons n M ih =>
      intro sub
      have hn := sub n List.mem_cons_self
      exact .cons ⟨⟨rfl, n, rfl⟩, .inr (.inl (.tup (a.t n hn) (b.t n hn) (show 2 ≤ 1000 by decide) (.cons (Lv.sc (.int _)) (.cons (Lv.sc (.int _)) .nil))))⟩ (ih fun m hm => sub m (List.mem_cons_of_mem _ hm))
  exact go N fun _ hn => hn
theorem ints_lv {n : Nat} {H : Hp} {t u : Addr} {a b : Int} (h1 : H t = some (.tup [.int a, .int b])) (h2 : H u = some (.tup [.int a, .int b])) : Lv (n + 1) H (.ref t) (.ref u) :=
  .inr (.inl (.tup h1 h2 (show 2 ≤ 1000 by decide) (.cons (Lv.sc (.int _)) (.cons (Lv.sc (.int _)) .nil))))
end K80
namespace K80
open PySem PySem.Spec PyProof.Rows L2
/-! ### _law_one_right -/
def spOneRight (K : PySem.W.Frag) (C : Addr) : Sp := fun vs H Q _ => ∃ (st g p v e d : Addr) (c : Nat) (N : List Str) (R L : List Rd2) (us : List Addr) (h : Str → Int), vs = [.ref st, .ref p, .ref v, .ref e, .ref d] ∧ Strm H st g c ∧ c + 500 ≤ 1000000 ∧ SomeAt (hid (zst st g) H) p N R ∧ SomeOk N R ∧ ValAt C (hid (zst st g) H) v N R ∧
  hid (zst st g) H e = some (.lst (us.map V.ref)) ∧ PairsAt (hid (zst st g) H) us L ∧ L.Perm R ∧ H d = some (.dK (dOf N fun n => .int (h n))) ∧ (∀ n ∈ N, 0 ≤ h n ∧ h n ≤ 10 ^ 15) ∧
  ∀ H', KpZ (zst st g) H H' → Strm H' st g (c + 500) → Q (.bl true) H'
section
variable {P : Program} {w : World} {K : PySem.W.Frag} {mg : Str → Option Value} {base : Heap}
theorem ok_one_right (T : Txt K mg) (Z : Errs P K mg T) : FnG P w K mg base CX0 20 T.law_one_right.f T.law_one_right.fd ["_law_stream", "_law_some", "_law_valley", "_law_evening", "_law_heaps_here"] (spOneRight K T.C) := by
  have G_leavings := ok_leavings (base := base) (w := w) T Z
  have G_left_together := ok_left_together (base := base) (w := w) T Z
  have G_law_same : FnOk P w K mg base CX0 17 T.law_same.f T.law_same.fd ["_law_found", "_law_due"] (RelSp (Lv 5)) := ok_same T 5
  have G_law_left : FnOk P w K mg base CX0 2 T.law_left.f T.law_left.fd ["_law_some", "_law_evening", "_law_heaps_here"] spLeft := ok_left T
  have G_law_f_passed : FnOk P w K mg base CX0 5 T.law_f_passed.f T.law_f_passed.fd ["_law_stream", "_law_evening"] spPassed := ok_f_passed T
  have G_law_f_handed : FnOk P w K mg base CX0 3 T.law_f_handed.f T.law_f_handed.fd ["_law_stream", "_law_known"] spHanded := ok_f_handed T
  have KB_leavings : ∀ a b c : Value, bindArgs T.leavings.fd ⟨[], [("heaps", a), ("evening", b), ("valley", c)]⟩ = pure ([("valley", c), ("evening", b), ("heaps", a)] : List (Str × Value)) := fun a b c => by
    obtain ⟨_, _, _, _, _, _, _, _, _, e, _⟩ := T.leavings.F.ex
    rw [e]
    rfl
  have KB_left_together : ∀ a b c : Value, bindArgs T.left_together.fd ⟨[], [("heaps", a), ("evening", b), ("valley", c)]⟩ = pure ([("valley", c), ("evening", b), ("heaps", a)] : List (Str × Value)) := fun a b c => by
    obtain ⟨_, _, _, _, _, _, _, _, _, e, _⟩ := T.left_together.F.ex
    rw [e]
    rfl
  obtain ⟨oc, od, kV, doc, pm, an, cdv, ct, osl, e0, lk0, hcd0⟩ := T.law_one_right.F.ex
  refine okG (cdv := cdv) ⟨oc, od, kV, doc, pm, an, ct, osl, e0, lk0, hcd0⟩ sc_law_one_right (fun vs H Q E h => ?_) (fun A outer s H vs Q E hgd hr h => ?_)
  · obtain ⟨st, g, p, v, e, d, c, N, R, L, us, h, rfl, _⟩ := h
    rfl
  · obtain ⟨st, g, p, v, e, d, c, N, R, L, us, h, rfl, hS, hc, hA, hO, hV, he, hL, pL, hd, hh, k⟩ := h
    -- slots: 0 _law_stream, 1 _law_some, 2 _law_valley, 3 _law_evening, 4 _law_heaps_here, 5 _law_due, 6 _law_whole, 7 _law_handed, 8 _law_passed, 9 _law_was, 10 _law_told, 11 _law_found, 12 _law_least, 13 _law_most, 14 _law_ones, 15 _law_name
    refine ⟨_, (pss_cons (ps_asg (pe_call G_law_left (hr.mono (by decide)) rfl T.law_left.mgx T.law_left.F.kp T.law_left.b .nil pass0 (pa_cons (pv 1) (pa_cons (pv 3) (pa_cons (pv 4) pa_nil)))) (pg_tup rfl (pgs_cons (pg_name (i := 5) sc_law_one_right.nd rfl (Or.inl rfl)) (pgs_cons (pg_name (i := 6) sc_law_one_right.nd rfl (Or.inl rfl)) pgs_nil))))
    (pss_cons (ps_par (i := 7) (j := 8) (by rfl) sc_law_one_right.nd rfl rfl (by decide) rfl rfl (pa_cons (pe_call G_law_f_passed (hr.mono (by decide)) rfl T.law_f_passed.mgx T.law_f_passed.F.kp T.law_f_passed.b .nil pass0 (pa_cons (pv 0) (pa_cons (pv 3) pa_nil))) (pa_cons (pe_call G_law_f_handed (hr.mono (by decide)) rfl T.law_f_handed.mgx T.law_f_handed.F.kp T.law_f_handed.b .nil pass0 (pa_cons (pv 0) (pa_cons (pv 4) pa_nil))) pa_nil)) (by rfl))
    (pss_cons (ps_par (i := 9) (j := 10) (by rfl) sc_law_one_right.nd rfl rfl (by decide) rfl rfl (pa_cons (pe_callB (call_repr_two hgd (dp_of64 hr)) (by rfl) T.n_repr (by decide +kernel) (pa_cons (pe_lst (pa_cons (pv 7) (pa_cons (pv 8) pa_nil))) pa_nil)) (pa_cons (pe_call G_leavings (hr.mono (by decide)) rfl T.leavings.mgx T.leavings.F.kp T.leavings.b .nil passL (pa_cons (pv 2) (pa_cons (pv 7) (pa_cons (pv 8) pa_nil)))) pa_nil)) (by rfl))
    (pss_cons (ps_set (i := 11) sc_law_one_right.nd rfl (Or.inl rfl) (pe_lst (pa_cons (pe_call G_left_together (hr.mono (by decide)) rfl T.left_together.mgx T.left_together.F.kp T.left_together.b .nil passL (pa_cons (pv 2) (pa_cons (pv 7) (pa_cons (pv 8) pa_nil)))) (pa_cons (pe_callKW G_left_together (hr.mono (by decide)) rfl T.left_together.mgx T.left_together.F.kp KB_left_together passL (pk_cons (pv 4) (pk_cons (pv 3) (pk_cons (pv 2) pk_nil)))) pa_nil))))
    (pss_cons (ps_if (PW.pt (pw_or (pt_not (pt_val (pe_call G_law_same (hr.mono (by decide)) rfl T.law_same.mgx T.law_same.F.kp T.law_same.b .nil pass0 (pa_cons (pv 10) (pa_cons (pv 5) pa_nil))))) (pw_or (pt_not (pt_val (pe_call G_law_same (hr.mono (by decide)) rfl T.law_same.mgx T.law_same.F.kp T.law_same.b .nil pass0 (pa_cons (pv 11) (pa_cons (pe_lst (pa_cons (pv 6) (pa_cons (pv 6) pa_nil))) pa_nil))))) (pw_or1 (pt_cmpR op_ne (pe_callB (call_repr_two hgd (dp_of64 hr)) (by rfl) T.n_repr (by decide +kernel) (pa_cons (pe_lst (pa_cons (pv 7) (pa_cons (pv 8) pa_nil))) pa_nil)) (pv 9) (nomark _)))))) (pss_one (ps_ret pe_bl)) pss_nil)
    (pss_cons (ps_expr (pe_bm0 PySem.F.plainAttrs_dict PySem.F.slot_dict_clear PySem.F.type_dict_clear mtd_clear (pv 10)))
    (pss_cons (ps_if (pt_not (pt_val (pe_call G_law_same (hr.mono (by decide)) rfl T.law_same.mgx T.law_same.F.kp T.law_same.b .nil pass0 (pa_cons (pe_callKW G_leavings (hr.mono (by decide)) rfl T.leavings.mgx T.leavings.F.kp KB_leavings passL (pk_cons (pv 4) (pk_cons (pv 3) (pk_cons (pv 2) pk_nil)))) (pa_cons (pv 5) pa_nil))))) (pss_one (ps_ret pe_bl)) pss_nil)
    (pss_cons (ps_par (i := 12) (j := 13) (by rfl) sc_law_one_right.nd rfl rfl (by decide) rfl rfl (pa_cons (pe_callB (cr_minV rfl) (by rfl) T.n_min (by decide +kernel) (pa_cons (pe_bm0 PySem.F.plainAttrs_dict PySem.F.slot_dict_values PySem.F.type_dict_values mt_values (pv 4)) pa_nil)) (pa_cons (pe_callB (cr_maxV rfl) (by rfl) T.n_max (by decide +kernel) (pa_cons (pe_bm0 PySem.F.plainAttrs_dict PySem.F.slot_dict_values PySem.F.type_dict_values mt_values (pv 4)) pa_nil)) pa_nil)) (by rfl))
    (pss_cons (ps_if (PW.pt (pw_or (pt_cmpR op_gt (pe_op op_mul (pv 12) (pe_ix ix_tup (pv 6) pe_int (fun _ _ => rfl))) (pe_ix ix_tup (pv 6) pe_int (fun _ _ => rfl)) (nomark _)) (pw_or1 (pt_cmpR op_lt (pe_op op_mul (pv 13) (pe_ix ix_tup (pv 6) pe_int (fun _ _ => rfl))) (pe_ix ix_tup (pv 6) pe_int (fun _ _ => rfl)) (nomark _))))) (pss_one (ps_ret pe_bl)) pss_nil)
    (pss_cons (ps_set (i := 14) sc_law_one_right.nd rfl (Or.inl rfl) (pe_callTy (call_dictP rfl) (by rfl) T.n_dict (by decide +kernel) (pa_cons (pe_lc (own := [("_law_name", 15)]) (g := gName 15) (tt := tYes) rfl sc_law_one_right.nd (pi_list (pe_ix ix_tup (pv 1) pe_int (fun _ _ => rfl))) (blkOk_by (N := N_law_one_right) (own := [("_law_name", 15)]) (sc := defScope s_law_one_right) (by decide +kernel)) (fun _ _ _ _ _ => (pg_name (i := 15) sc_law_one_right.nd rfl (Or.inl rfl))) (fun _ _ _ _ _ => pts_nil) (fun _ _ _ _ _ => (pe_tup (pa_cons (pv 15) (pa_cons pe_int pa_nil))))) pa_nil)))
    (pss_one (ps_ret (pe_call G_law_same (hr.mono (by decide)) rfl T.law_same.mgx T.law_same.F.kp T.law_same.b .nil pass0 (pa_cons (pe_call G_left_together (hr.mono (by decide)) rfl T.left_together.mgx T.left_together.F.kp T.left_together.b .nil passL (pa_cons (pv 2) (pa_cons (pv 3) (pa_cons (pv 14) pa_nil)))) (pa_cons (pe_tup (pa_cons pe_int (pa_cons pe_int pa_nil))) pa_nil))))))))))))))), ?_⟩
    have vok := hO.vok
    have nz := hO.nz
    have rl := hO.rl
    have lL := pL.length_eq
    have ndL : L.Nodup := pL.nodup_iff.mpr vok.ndR
    have mem : ∀ ab, ab ∈ L ↔ ab ∈ R := fun ab => pL.mem_iff
    have LI : LeftIn H p e d N R L h := ⟨hA.same hid_in, vok, ⟨us, hid_some he, hL.same hid_in⟩, ndL, lL, fun ab hab => (mem ab).mpr hab, fun ab hab => vok.ends ab ((mem ab).mp hab), ⟨_, hd, fun n hn => val_dOf hn⟩, fun n hn => ⟨(hh n hn).1, Int.lt_of_le_of_lt (hh n hn).2 (by decide)⟩⟩
    refine ⟨_, rfl, _, rfl, _, rfl, p, e, d, N, R, L, h, rfl, LI, fun H1 q d2 t2 g2 s1 hq hla ht2 => ?_⟩
    refine ⟨q, _, rfl, SqT.of hq, rfl, _, _, rfl, _, _, rfl, rfl, ?_⟩
    have k1 : KpZ (zst st g) H H1 := .of s1
    have hS1 := hS.same s1
    refine ⟨_, rfl, _, rfl, st, g, e, c, us, L, rfl, hS1, by omega, k1 _ _ he, hL.same k1, by omega, fun H2 l L2 k2 fl zl hS2 rin fl2 => ?_⟩
    have hd2 : H2 d = some (.dK (dOf N fun n => .int (h n))) := hid_some (k2 _ _ (k1 _ _ (hid_kind hS hd (fun _ z => nomatch z))))
    refine ⟨_, rfl, _, rfl, st, g, d, c + 200, N, _, rfl, hS2, by omega, hd2, hO.nd, nz, fun H3 l2 N2 k3 fl3 zl3 hS3 hl2 pN => ?_⟩
    refine ⟨_, _, rfl, ?_⟩
    -- all that is known behind the draws
    have k13 : KpZ (zst st g) H H3 := k1.trans (k2.trans k3)
    have k23 : KpZ (zst st g) H1 H3 := k2.trans k3
    have A3 : SomeAt H3 p N R := (hA.same k13).same hid_in
    have V3 : ValAt T.C H3 v N R := (hV.same k13).same hid_in
    have e3 : H3 e = some (.lst (us.map V.ref)) := hid_some (k13 _ _ he)
    have L3 : PairsAt H3 us L := (hL.same k13).same hid_in
    have d3 : H3 d = some (.dK (dOf N fun n => .int (h n))) := hid_some (k13 _ _ (hid_kind hS hd (fun _ z => nomatch z)))
    have la3 : LeftAt H3 N R L h d2 g2 := ⟨hid_some (k23 _ _ (hid_kind hS1 hla.d (fun _ z => nomatch z))), fun n hn => hid_some (k23 _ _ (hid_kind hS1 (hla.t n hn) (fun _ z => nomatch z)))⟩
    have t23 : H3 t2 = some (.tup (lowV (topN N R L h) (2 ^ mostN N R L))) := hid_some (k23 _ _ (hid_kind hS1 ht2 (fun _ z => nomatch z)))
    have rin3 : RoadsIn H3 l L2 := (rin.same k3).same hid_in
    have l2len : L2.length = L.length := Paired.length fl2
    have nm2 : ∀ ab ∈ L2, NmOk ab.1 ∧ NmOk ab.2 := fun ab hab => by
      obtain ⟨i, hi, ei⟩ := List.mem_iff_getElem.mp hab
      have f := paired_at fl2 (List.getElem?_eq_some_iff.mpr ⟨hi, ei⟩) (List.getElem?_eq_getElem (l := L) (i := i) (by omega))
      have m := (mem _).mp (List.getElem_mem (l := L) (n := i) (by omega))
      have z := vok.ends _ m
      rcases f with rfl | rfl
      · exact ⟨hO.ok _ z.1, hO.ok _ z.2⟩
      · exact ⟨hO.ok _ z.2, hO.ok _ z.1⟩
    obtain ⟨db, hdb, fit⟩ := roads_dp (K := K) rin3 (by omega) nm2
    have rw3 : RowsAt H3 l2 (hpRows N2 h) := rows_ints hl2 (by rw [pN.length_eq]; exact nz) (fun n hn => (hO.ok n (pN.mem_iff.mp hn)).ok) fun n hn => by
      have b := hh n (pN.mem_iff.mp hn)
      have b2 : (h n).natAbs ≤ 10 ^ 15 := by omega
      exact log_lt (Nat.lt_of_le_of_lt b2 (by decide)) (by decide)
    have kf : knownEv N R (some (L2.map some)) = some L := known_flip hO pL fl2
    have ke : knownEv N R (some (L.map some)) = some L := known_flip hO pL flip_refl
    have ev2 : EvArg K H3 (.ref l) (some (L2.map some)) := roads_ev rin3 (by omega)
    have ev1 : EvArg K H3 (.ref e) (some (L.map some)) := roads_ev (pairs_in e3 L3) (by omega)
    refine ⟨_, rfl, _, rfl, show 2 ≤ sizeLine by decide, fun a4 ea4 => ?_⟩
    generalize eH : upd H3 a4 (_ : HO) = H4
    have s4 : Same H3 H4 := by rw [← eH]; exact same_new ea4
    have q4 : H4 a4 = some (.lst [.ref l, .ref l2]) := by rw [← eH]; exact upd_same
    clear eH
    refine ⟨a4, l, l2, db, _, rfl, q4, dp_same s4 _ _ hdb, fit.c, fit.p, fit.s, fit.z, .rows (rw3.same s4), ?_⟩
    refine ⟨_, rfl, _, rfl, _, rfl, ?_⟩
    dsimp only [tNil, List.cons_append, List.nil_append, List.append_nil]
    refine leav_ok (V3.same s4) hO (ev2.same s4) kf (s4 _ _ hl2) pN hh fun H5 d5 g5 s5 n5 la5 => ?_
    refine ⟨_, _, rfl, ?_⟩
    have s35 := s4.trans s5
    -- found
    refine ⟨_, rfl, _, rfl, _, rfl, ?_⟩
    dsimp only [tNil, List.cons_append, List.nil_append, List.append_nil]
    refine tog_ok (V3.same s35) hO (ev2.same s35) kf (s35 _ _ hl2) pN hh fun H6 t6 s6 q6 => ?_
    have s36 := s35.trans s6
    refine ⟨_, rfl, _, rfl, _, rfl, _, _, _, rfl, ?_⟩
    refine tog_ok (V3.same s36) hO (ev1.same s36) ke (s36 _ _ d3) (.refl _) hh fun H7 t7 s7 q7 => ?_
    refine ⟨show 2 ≤ sizeLine by decide, fun a8 ea8 => ?_⟩
    generalize eH : upd H7 a8 (_ : HO) = H8
    have s8 : Same H7 H8 := by rw [← eH]; exact same_new ea8
    have q8 : H8 a8 = some (.lst [.ref t6, .ref t7]) := by rw [← eH]; exact upd_same
    clear eH
    have s38 := s36.trans (s7.trans s8)
    have s58 := s6.trans (s7.trans s8)
    -- the three tests
    refine ⟨_, rfl, _, rfl, .ref d5, .ref d2, rfl, left_lv (la5.same s58) (la3.same s38) nz, fun H9 s9 => ?_⟩
    have s39 := s38.trans s9
    refine ⟨_, rfl, iteF ?_⟩
    refine ⟨_, rfl, _, rfl, _, rfl, show 2 ≤ sizeLine by decide, fun a10 ea10 => ?_⟩
    generalize eH : upd H9 a10 (_ : HO) = H10
    have s10 : Same H9 H10 := by rw [← eH]; exact same_new ea10
    have q10 : H10 a10 = some (.lst [.ref t2, .ref t2]) := by rw [← eH]; exact upd_same
    clear eH
    have s3A := s39.trans s10
    have sAt : Same H8 H10 := s9.trans s10
    refine ⟨.ref a8, .ref a10, rfl, .inr (.inl (.lst (sAt _ _ q8) q10 (show 2 ≤ 1000 by decide) (.cons (ints_lv (sAt _ _ (s8 _ _ (s7 _ _ q6))) (s3A _ _ t23)) (.cons (ints_lv (sAt _ _ (s8 _ _ q7)) (s3A _ _ t23)) .nil)))), fun H11 s11 => ?_⟩
    have s3B := s3A.trans s11
    refine ⟨_, rfl, iteF ?_⟩
    refine ⟨_, rfl, _, rfl, show 2 ≤ sizeLine by decide, fun a12 ea12 => ?_⟩
    generalize eH : upd H11 a12 (_ : HO) = H12
    have s12 : Same H11 H12 := by rw [← eH]; exact same_new ea12
    have q12 : H12 a12 = some (.lst [.ref l, .ref l2]) := by rw [← eH]; exact upd_same
    clear eH
    have s3C := s3B.trans s12
    refine ⟨a12, l, l2, db, _, rfl, q12, dp_same s3C _ _ hdb, fit.c, fit.p, fit.s, fit.z, .rows (rw3.same s3C), ?_⟩
    refine ⟨_, rfl, rfl, false, congrArg V.bl (by simp), iteF ?_⟩
    -- told.clear()
    show tSeq _ _ _ [some (.ref st), some (.ref p), some (.ref v), some (.ref e), some (.ref d), some (.ref d2), some (.ref t2), some (.ref l), some (.ref l2), some (.str (PyData.list [db, rowsD (hpRows N2 h)]).shown), some (.ref d5), some (.ref a8), none, none, none, none] _
    have s5C : Same H5 H12 := s58.trans (sAt.trans (s11.trans s12))
    have dC : H12 d5 = some (.dK (dOf N fun n => .ref (g5 n))) := s5C _ _ la5.d
    refine ⟨_, rfl, .inr (.inr (.inl ⟨rfl, .inl ⟨_, dC⟩⟩)), d5, _, rfl, rfl, dC, ?_⟩
    have s3D : Same H3 (upd H12 d5 (.dK [])) := same_mut s3C (s4.free n5)
    generalize upd H12 d5 (.dK []) = H13 at s3D ⊢
    -- leavings anew
    refine ⟨_, rfl, _, rfl, _, rfl, _, _, _, rfl, ?_⟩
    refine leav_ok (V3.same s3D) hO (ev1.same s3D) ke (s3D _ _ d3) (.refl _) hh fun H14 d14 g14 s14 n14 la14 => ?_
    have s3E := s3D.trans s14
    refine ⟨_, rfl, .ref d14, .ref d2, rfl, left_lv la14 (la3.same s3E) nz, fun H15 s15 => ?_⟩
    have s3F := s3E.trans s15
    refine ⟨_, rfl, iteF ?_⟩
    -- the least, the greatest
    show tSeq _ _ _ [some (.ref st), some (.ref p), some (.ref v), some (.ref e), some (.ref d), some (.ref d2), some (.ref t2), some (.ref l), some (.ref l2), some (.str (PyData.list [db, rowsD (hpRows N2 h)]).shown), some (.ref d5), some (.ref a8), none, none, none, none] _
    have dv : DVals (.dK (dOf N fun n => .int (h n))) ((N.map h).map V.int) := .inl ⟨_, rfl, by unfold dOf; rw [List.map_map, List.map_map]; rfl⟩
    have dF := s3F _ _ d3
    have l0 : 0 < (N.map h).length := by rw [List.length_map]; exact hO.n1
    refine ⟨_, rfl, .inr (.inr (.inl ⟨rfl, .inl ⟨_, dF⟩⟩)), d, _, _, rfl, rfl, .inl dF, dv, fun p16 e16 => ?_⟩
    have s16 : Same H15 (upd H15 p16 (valuesO p16 d)) := same_new e16
    have q16 : upd H15 p16 (valuesO p16 d) p16 = some (valuesO p16 d) := upd_same
    generalize upd H15 p16 (valuesO p16 d) = H16 at s16 q16 ⊢
    refine ⟨p16, d, _, _, rfl, q16, .inl (s16 _ _ dF), dv, l0, fun m1 hm1 le1 => ?_⟩
    refine ⟨_, rfl, .inr (.inr (.inl ⟨rfl, .inl ⟨_, s16 _ _ dF⟩⟩)), d, _, _, rfl, rfl, .inl (s16 _ _ dF), dv, fun p17 e17 => ?_⟩
    have s17 : Same H16 (upd H16 p17 (valuesO p17 d)) := same_new e17
    have q17 : upd H16 p17 (valuesO p17 d) p17 = some (valuesO p17 d) := upd_same
    generalize upd H16 p17 (valuesO p17 d) = H17 at s17 q17 ⊢
    refine ⟨p17, d, _, _, rfl, q17, .inl (s17 _ _ (s16 _ _ dF)), dv, l0, fun m2 hm2 le2 => ?_⟩
    refine ⟨_, _, rfl, ?_⟩
    have s3H := s3F.trans (s16.trans s17)
    have b1 : ∀ n ∈ N, m1 ≤ h n := fun n hn => le1 _ (List.mem_map_of_mem hn)
    have b2 : ∀ n ∈ N, h n ≤ m2 := fun n hn => le2 _ (List.mem_map_of_mem hn)
    have c1 : 0 ≤ m1 ∧ m1 ≤ 10 ^ 15 := by
      obtain ⟨n, hn, rfl⟩ := List.mem_map.mp hm1
      exact hh n hn
    have c2 : 0 ≤ m2 ∧ m2 ≤ 10 ^ 15 := by
      obtain ⟨n, hn, rfl⟩ := List.mem_map.mp hm2
      exact hh n hn
    have tp : 0 ≤ topN N R L h := top_pos fun n hn => (hh n hn).1
    have f1 := low_ge tp (pow_one_le (mostN N R L)) (top_ge hO pL b1)
    have f2 := low_le tp (pow_one_le (mostN N R L)) (top_le hO pL b2)
    have i0 : ∀ {x y : V}, atI [x, y] 0 = some x := fun {x y} => atI_nat (j := 0) rfl
    have i1 : ∀ {x y : V}, atI [x, y] 1 = some y := fun {x y} => atI_nat (j := 1) rfl
    have tH := s3H _ _ t23
    refine ⟨_, rfl, _, rfl, t2, _, _, _, rfl, rfl, SqT.of tH, i1, _, _, rfl, rfl, .inl ⟨by omega, by omega⟩, ?_⟩
    refine ⟨_, rfl, t2, _, _, _, rfl, rfl, SqT.of tH, i0, _, _, rfl, rfl, false, congrArg V.bl (decide_eq_false (by omega)), iteF ?_⟩
    refine ⟨_, rfl, _, rfl, t2, _, _, _, rfl, rfl, SqT.of tH, i1, _, _, rfl, rfl, .inl ⟨by omega, by omega⟩, ?_⟩
    refine ⟨_, rfl, t2, _, _, _, rfl, rfl, SqT.of tH, i0, _, _, rfl, rfl, false, congrArg V.bl (decide_eq_false (by omega)), iteF ?_⟩
    -- one loaf each
    show tSeq _ _ _ [some (.ref st), some (.ref p), some (.ref v), some (.ref e), some (.ref d), some (.ref d2), some (.ref t2), some (.ref l), some (.ref l2), some (.str (PyData.list [db, rowsD (hpRows N2 h)]).shown), some (.ref d5), some (.ref a8), some (.int m1), some (.int m2), none, none] _
    obtain ⟨an, ao, ad, us0, hs0, v1, v3, v7, v8, _⟩ := (A3.same s3H).ex
    have at0 : ∀ {x y z : V}, atI [x, y, z] 0 = some x := fun {x y z} => atI_nat (j := 0) rfl
    refine ⟨_, rfl, p, _, _, _, rfl, rfl, SqT.of v1, at0, an, rfl, ⟨_, SqL.of v3⟩, fun D0 hD0 => ?_⟩
    refine lcPairC (B := N) (x := .int 1) walk_listN hD0 (by omega) (fun H' e => SqL.of (e _ _ v3)) (fun _ => rfl) (by exact (by decide : 15 < 16)) (fun _ _ _ q => q) fun H18 ps s18 e18 p18 => ?_
    refine ⟨D0, ps, _, rfl, SqL.of e18, paired_same (fun _ _ z => SqT.of z) p18, fun o1 ho1 => ?_⟩
    rw [const_merge hO.nd]
    have s19 : Same H17 (upd H18 o1 (.dK (dOf N fun _ => .int 1))) := s18.trans (same_new ho1)
    have q19 : upd H18 o1 (.dK (dOf N fun _ => .int 1)) o1 = some (.dK (dOf N fun _ => .int 1)) := upd_same
    generalize upd H18 o1 (.dK (dOf N fun _ => .int 1)) = H19 at s19 q19 ⊢
    have s3J := s3H.trans s19
    refine ⟨_, rfl, _, rfl, _, rfl, ?_⟩
    dsimp only [tNil, List.cons_append, List.nil_append, List.append_nil]
    refine tog_ok (h := fun _ => 1) (V3.same s3J) hO (ev1.same s3J) ke q19 (.refl _) (fun _ _ => ⟨by decide, by decide⟩) fun H20 t20 s20 q20 => ?_
    rw [top_ones hO pL] at q20
    have q20' : H20 t20 = some (.tup [.int 1, .int 1]) := by
      rw [q20]
      unfold lowV
      rw [low_self (pow_one_le _)]
    refine ⟨show 2 ≤ sizeLine by decide, fun t21 e21 => ?_⟩
    generalize eH : upd H20 t21 (_ : HO) = H21
    have s21 : Same H20 H21 := by rw [← eH]; exact same_new e21
    have q21 : H21 t21 = some (.tup [.int 1, .int 1]) := by rw [← eH]; exact upd_same
    clear eH
    refine ⟨.ref t20, .ref t21, rfl, ints_lv (s21 _ _ q20') q21, fun H22 s22 => ?_⟩
    have s3K := s3J.trans (s20.trans (s21.trans s22))
    exact k _ (k13.trans (.of s3K)) ((hS3.same s3K).mono (by omega))
end
end K80
namespace K80
open PySem PySem.Spec PyProof.Rows L2
/-! ### what repr shows is a text; lists of texts -/
def okS (x : Str) : Prop := ∀ c ∈ x.cps.toList, c < 0x110000
theorem okS_strOk {x : Str} (h : okS x) : PyData.strOk x = true := by
  unfold PyData.strOk
  refine Array.all_eq_true_iff_forall_mem.mpr fun c hc => decide_eq_true (h c (Array.mem_toList_iff.mpr hc))
theorem okS_app {a b : Str} (ha : okS a) (hb : okS b) : okS (a ++ b) := fun c hc => by
  have hc' : c ∈ (a.cps ++ b.cps).toList := hc
  rw [Array.toList_append] at hc'
  rcases List.mem_append.mp hc' with h | h
  · exact ha c h
  · exact hb c h
theorem okS_of (s : String) : okS (Str.ofString s) := fun c hc => by
  rw [Str.ofString_eq_toList] at hc
  obtain ⟨ch, _, rfl⟩ := List.mem_map.mp (show c ∈ s.toList.map Char.toNat from by simpa using hc)
  have v := ch.valid
  show ch.val.toNat < 0x110000
  have v' : ch.val.toNat < 0xD800 ∨ (0xDFFF < ch.val.toNat ∧ ch.val.toNat < 0x110000) := v
  omega
theorem okS_name {z : Str} (h : OkName z) : okS (reprText z) := by
  have k : [39, 34].all (fun q => decide (q < 0x110000) && (nameS ++ nameF).cps.toList.all fun c => (PySem.Builtin.Str.reprChar q c).all fun d => decide (d < 0x110000)) = true := by decide +kernel
  have hq : reprQuote z = 39 ∨ reprQuote z = 34 := by
    unfold reprQuote
    split
    · exact .inr rfl
    · exact .inl rfl
  have kq := List.all_eq_true.mp k (reprQuote z) (by rcases hq with e | e <;> rw [e] <;> simp)
  rw [Bool.and_eq_true, decide_eq_true_eq] at kq
  have go : ∀ (l : List Nat) (acc : Array Nat), (∀ c ∈ l, c ∈ (nameS ++ nameF).cps.toList) → (∀ c ∈ acc.toList, c < 0x110000) → ∀ c ∈ (l.foldl (fun out c => out ++ (PySem.Builtin.Str.reprChar (reprQuote z) c).toArray) acc).toList, c < 0x110000 := by
    intro l
    induction l with
    | nil => intro acc _ h; exact h
    | cons a l ih =>
      intro acc h1 h2
      refine ih _ (fun c hc => h1 c (List.mem_cons_of_mem _ hc)) fun c hc => ?_
      rw [Array.toList_append] at hc
      rcases List.mem_append.mp hc with hc | hc
      · exact h2 c hc
      · have q := List.all_eq_true.mp kq.2 a (h1 a List.mem_cons_self)
        exact of_decide_eq_true (List.all_eq_true.mp q c (by simpa using hc))
  intro c hc
  unfold reprText at hc
  have hc' : c ∈ ((z.cps.foldl (fun out c => out ++ (PySem.Builtin.Str.reprChar (reprQuote z) c).toArray) #[reprQuote z]).push (reprQuote z)).toList := hc
  rw [Array.toList_push, ← Array.foldl_toList] at hc'
  rcases List.mem_append.mp hc' with hc' | hc'
  · refine go z.cps.toList #[reprQuote z] h.all (fun d hd => ?_) c hc'
    rw [List.mem_singleton.mp hd]
    exact kq.1
  · rw [List.mem_singleton.mp hc']
    exact kq.1
theorem okS_join {sep : Str} (hs : okS sep) : ∀ {ts : List Str}, (∀ t ∈ ts, okS t) → okS (Str.join sep ts)
  | [], _ => fun c hc => nomatch hc
  | [x], h => h x List.mem_cons_self
  | x :: y :: r, h => by
    show okS (x ++ sep ++ Str.join sep (y :: r))
    exact okS_app (okS_app (h x List.mem_cons_self) hs) (okS_join hs fun t ht => h t (List.mem_cons_of_mem _ ht))
theorem okS_tuple {ts : List Str} (h : ∀ t ∈ ts, okS t) : okS (tupleText ts) := by
  unfold tupleText
  refine okS_app (okS_app (okS_of _) (okS_join (okS_of _) h)) ?_
  split <;> exact okS_of _
theorem okS_dict {ts : List Str} (h : ∀ t ∈ ts, okS t) : okS (dictText ts) := by
  unfold dictText
  exact okS_app (okS_app (okS_of _) (okS_join (okS_of _) h)) (okS_of _)
theorem okS_ints : ∀ {ns : List Int}, ∀ t ∈ PyData.shownAll (ns.map .int), okS t
  | [], t, h => nomatch h
  | n :: ns, t, h => by
    simp only [List.map_cons, PyData.shownAll] at h
    rcases List.mem_cons.mp h with rfl | h
    · exact okS_of _
    · exact okS_ints t h
theorem Sm.ok {H : Hp} {v : V} {d : PyData} (h : Sm H v d) : okS d.shown := by
  cases h with
  | int h => exact okS_of _
  | tup e z h =>
    simp only [PyData.shown]
    exact okS_tuple okS_ints
theorem okS_rows {H : Hp} : ∀ {rows : List (Str × PyData)}, (∀ q ∈ rows, ∃ v, Sm H v q.2) → (∀ q ∈ rows, OkName q.1) → ∀ t ∈ PyData.shownKv (rows.map fun q => (.str q.1, q.2)), okS t
  | [], _, _, t, h => nomatch h
  | q :: rows, hv, hn, t, h => by
    simp only [List.map_cons, PyData.shownKv] at h
    rcases List.mem_cons.mp h with rfl | h
    · obtain ⟨v, z⟩ := hv q List.mem_cons_self
      refine okS_app (okS_app ?_ (okS_of _)) z.ok
      simp only [PyData.shown]
      exact okS_name (hn q List.mem_cons_self)
    · exact okS_rows (fun p hp => hv p (List.mem_cons_of_mem _ hp)) (fun p hp => hn p (List.mem_cons_of_mem _ hp)) t h
theorem ShowAt.ok {H : Hp} {a : Addr} {d : PyData} (h : ShowAt H a d) : okS d.shown := by
  cases h with
  | tup h => exact h.ok
  | rows h =>
    simp only [rowsD, PyData.shown]
    exact okS_dict (okS_rows h.vals h.nm)
/-- a list of texts as data -/
def txtD (ts : List Str) : PyData := .list (ts.map .str)
theorem txts_dp {K : PySem.W.Frag} {H : Hp} : ∀ {ts : List Str}, DpAll K H (ts.map V.str) (ts.map .str)
  | [] => .nil
  | t :: ts => .cons (.str t) txts_dp
theorem txts_lay : ∀ {ts : List Str}, (∀ t ∈ ts, okS t) → PyData.canLayAll0 (ts.map .str) = true
  | [], _ => rfl
  | t :: ts, h => by
    simp only [List.map_cons, PyData.canLayAll0, PyData.canLay0, Bool.and_eq_true]
    exact ⟨okS_strOk (h t List.mem_cons_self), txts_lay fun x hx => h x (List.mem_cons_of_mem _ hx)⟩
theorem txts_depth : ∀ {ts : List Str}, PyData.depthAll (ts.map .str) = 0
  | [] => rfl
  | t :: ts => by
    have q := txts_depth (ts := ts)
    simp only [List.map_cons, PyData.depthAll, PyData.depth, q]
    rfl
theorem txts_shaped {ts : List Str} (h : ∀ t ∈ ts, okS t) : SeqAt.shaped (txtD ts) = true := by
  unfold SeqAt.shaped txtD
  simp only [PyData.canLay0, PyData.depth, txts_lay h, txts_depth]
  decide
theorem txts_eqv : ∀ {ts : List Str}, PyData.eqvAll (ts.map .str) (ts.map .str) = true
  | [] => by simp [PyData.eqvAll]
  | t :: ts => by
    have q := txts_eqv (ts := ts)
    simp [PyData.eqvAll, PyData.eqv, q]
theorem txt_eqv {ts : List Str} : (!PyData.eqv (txtD ts) (txtD ts)) = false := by
  have q := txts_eqv (ts := ts)
  unfold txtD
  simp [PyData.eqv, q]
theorem txt_dp {K : PySem.W.Frag} {H : Hp} {a : Addr} {ts : List Str} (h : H a = some (.lst (ts.map V.str))) : Dp K H (.ref a) (txtD ts) := .lst (SqL.of h) txts_dp
end K80
namespace K80
open PySem PySem.Spec PyProof.Rows L2
/-! ### _law_f_in_turns -/
/-- a kind of things: how they are told, copied, changed -/
structure Kind (P : Program) (w : World) (K : PySem.W.Frag) (mg : Str → Option Value) (base : Heap) (T : Txt K mg) (γ : Type) (Th : Hp → Addr → γ → Prop) : Prop where
  same : ∀ H H' a c, Same H H' → Th H a c → Th H' a c
  obj : ∀ H a c, Th H a c → (∃ xs, H a = some (.lst xs)) ∨ ∃ kvs, H a = some (.dK kvs)
  hid : ∀ H a c st g n, Strm H st g n → zst st g a = false → Th H a c → Th (hid (zst st g) H) a c
  copied : FnOk P w K mg base CX0 3 T.law_f_copied.f T.law_f_copied.fd ["_law_thing"] (fun vs H Q _ => ∃ (a : Addr) (c : γ), vs = [.ref a] ∧ Th H a c ∧ ∀ H' l, Same H H' → H l = none → Th H' l c → Q (.ref l) H')
  change : FnOk P w K mg base CX0 4 T.law_f_change.f T.law_f_change.fd ["_law_held", "_law_other"] (fun vs H Q _ => ∃ (a b : Addr) (c c2 : γ), vs = [.ref a, .ref b] ∧ a ≠ b ∧ Th H a c ∧ Th H b c2 ∧ ∀ H', (∀ x o, H x = some o → x ≠ a → H' x = some o) → Th H' a c2 → Q .non H')
/-- a function that is asked of a valley and a thing: what it tells -/
structure AskAt (P : Program) (w : World) (K : PySem.W.Frag) (mg : Str → Option Value) (base : Heap) (C : Addr) (N : List Str) (R : List Rd2) (γ : Type) (Th : Hp → Addr → γ → Prop) (D : γ → PyData) (Z : Addr → Bool) (H0 : Hp) (f : Addr) : Prop where
  ex : ∃ (sp : Sp) (oc : Value) (od : Option Addr) (fd : FuncData) (sl : Array (Option Value)), base.get? f = some ⟨oc, od, .func fd, sl⟩ ∧ FnR P w K mg base (L2.CX P w) 12 f sp ∧
    ∀ (H : Hp) (v x : Addr) (c : γ) (Q : VK), KpZ Z H0 H → ValAt C H v N R → Th H x c → (∀ H' t, Same H H' → ShowAt H' t (D c) → Q (.ref t) H') → sp [.ref v, .ref x] H Q E0
theorem AskAt.kp {P : Program} {w : World} {K : PySem.W.Frag} {mg : Str → Option Value} {base : Heap} {C : Addr} {N : List Str} {R : List Rd2} {γ : Type} {Th : Hp → Addr → γ → Prop} {D : γ → PyData} {Z : Addr → Bool} {H0 H1 : Hp} {f : Addr} (h : AskAt P w K mg base C N R γ Th D Z H0 f) (e : KpZ Z H0 H1) : AskAt P w K mg base C N R γ Th D Z H1 f := by
  obtain ⟨sp, oc, od, fd, sl, h1, h2, h3⟩ := h.ex
  exact ⟨sp, oc, od, fd, sl, h1, h2, fun H v x c Q k => h3 H v x c Q (e.trans k)⟩
theorem kit_ld {K : PySem.W.Frag} {n : String} (h : n ∈ tys7) : PySem.W.kitAny K (.type n) [.type "list", .type "dict"] = some (n == "list" || n == "dict") := by
  refine kitAny_cons (kit_list h) (fun e => ?_) fun e => by rw [e] <;> rfl
  refine kitAny_cons (kit_dict h) (fun e2 => ?_) fun e2 => by rw [e2, Bool.or_true]
  rw [kitAny_nil, e, e2] <;> rfl
theorem ValAt.chg {C : Addr} {H H' : Hp} {v l : Addr} {N : List Str} {R : List Rd2} (h : ValAt C H v N R) (keep : ∀ b o, H b = some o → b ≠ l → H' b = some o) (lk : (∃ xs, H l = some (.lst xs)) ∨ ∃ kvs, H l = some (.dK kvs)) (nr : ∀ dx fs ar, H v = some (.ins C dx fs) → fs.lookup ("ranks" : Str) = some (V.ref ar) → ar ≠ l) : ValAt C H' v N R := by
  obtain ⟨dx, an, ar, ao, ap, fs, f, rs, pl, h1, h2, h3, h4, h5, h6, h7, h8, h9, h10, h11⟩ := h.ex
  have far : ∀ {b : Addr} {o : HO}, H b = some o → (∀ xs, o ≠ .lst xs) → (∀ kvs, o ≠ .dK kvs) → H' b = some o := fun {b o} e n1 n2 => keep b o e fun z => by
    rw [z] at e
    rcases lk with ⟨xs, q⟩ | ⟨kvs, q⟩
    · rw [q] at e
      exact n1 xs (Option.some.inj e).symm
    · rw [q] at e
      exact n2 kvs (Option.some.inj e).symm
  exact ⟨dx, an, ar, ao, ap, fs, f, rs, pl, far h1 (fun _ z => by cases z) (fun _ z => by cases z), h2, far h3 (fun _ z => by cases z) (fun _ z => by cases z), h4, keep _ _ h5 (nr dx fs ar h1 h4), h6, far h7 (fun _ z => by cases z) (fun _ z => by cases z),
    paired_same (fun _ _ z => far z (fun _ z => by cases z) (fun _ z => by cases z)) h8, h9, far h10 (fun _ z => by cases z) (fun _ z => by cases z), h11⟩
theorem list_of_rel {α : Type} {F : α → V} {cs : List α} {ys : List V} (l : ys.length = cs.length) (h : ∀ (i : Nat) (v : V), ys[i]? = some v → ∀ q, cs[i]? = some q → v = F q) : ys = cs.map F := by
  induction cs generalizing ys with
  | nil =>
    cases ys with
    | nil => rfl
    | cons y ys => cases l
  | cons q cs ih =>
    cases ys with
    | nil => cases l
    | cons y ys => rw [List.map_cons, h 0 y rfl q rfl, ih (Nat.succ.inj l) fun i v a b c => h (i + 1) v a b c]
def spTurns (P : Program) (w : World) (K : PySem.W.Frag) (mg : Str → Option Value) (base : Heap) (C : Addr) (γ : Type) (Th : Hp → Addr → γ → Prop) (D : Addr → γ → PyData) : Sp := fun vs H Q _ => ∃ (st g p a b : Addr) (c : Nat) (N : List Str) (R : List Rd2) (fs : List Addr) (x0 x1 : Addr) (c0 c1 : γ), vs = [.ref st, .ref p, .ref a, .ref b] ∧ Strm H st g c ∧ c + 5000 ≤ 1000000 ∧
  SomeAt (hid (zst st g) H) p N R ∧ SomeOk N R ∧ hid (zst st g) H a = some (.lst (fs.map V.ref)) ∧ fs.length ≤ 2 ∧ hid (zst st g) H b = some (.lst [.ref x0, .ref x1]) ∧ Th (hid (zst st g) H) x0 c0 ∧ Th (hid (zst st g) H) x1 c1 ∧ (∀ f ∈ fs, AskAt P w K mg base C N R γ Th (D f) (zst st g) H f) ∧
  ∀ H', KpZ (zst st g) H H' → Strm H' st g (c + 5000) → Q (.bl true) H'
section
variable {P : Program} {w : World} {K : PySem.W.Frag} {mg : Str → Option Value} {base : Heap}
theorem ok_in_turns (T : Txt K mg) {γ : Type} {Th : Hp → Addr → γ → Prop} {D : Addr → γ → PyData} (KD : Kind P w K mg base T γ Th) : FnG P w K mg base CX0 16 T.law_f_in_turns.f T.law_f_in_turns.fd ["_law_stream", "_law_some", "_law_asks", "_law_things"] (spTurns P w K mg base T.C γ Th D) := by
  have G_law_f_made : FnOk P w K mg base CX0 6 T.law_f_made.f T.law_f_made.fd ["_law_stream", "_law_some"] (spMade T.C) := ok_f_made T
  have G_law_f_copied := KD.copied
  have G_law_f_change := KD.change
  obtain ⟨oc, od, kV, doc, pm, an, cdv, ct, osl, e0, lk0, hcd0⟩ := T.law_f_in_turns.F.ex
  refine okG (cdv := cdv) ⟨oc, od, kV, doc, pm, an, ct, osl, e0, lk0, hcd0⟩ sc_law_f_in_turns (fun vs H Q E h => ?_) (fun A outer s H vs Q E hgd hr h => ?_)
  · obtain ⟨st, g, p, a, b, c, N, R, fs, x0, x1, c0, c1, rfl, _⟩ := h
    rfl
  · obtain ⟨st, g, p, a, b, c, N, R, fs, x0, x1, c0, c1, rfl, hS, hc, hA, hO, ha, hfz, hb, h0, h1, hf, k⟩ := h
    -- slots: 0 _law_stream*, 1 _law_some*, 2 _law_asks, 3 _law_things, 4 _law_made*, 5 _law_row, 6 _law_ask*, 7 _law_due, 8 _law_held, 9 _law_twin, 10 _law_told, 11 _law_thing
    refine ⟨_, (pss_cons (ps_asg (pe_tup (pa_cons (pe_call G_law_f_made (hr.mono (by decide)) rfl T.law_f_made.mgx T.law_f_made.F.kp T.law_f_made.b .nil pass0 (pa_cons (pv 0) (pa_cons (pv 1) pa_nil))) (pa_cons (pe_lst (pa_cons (pe_ix ix_list (pv 3) pe_int (fun _ _ => rfl)) (pa_cons (pe_ix ix_list (pv 3) pe_int (fun _ _ => rfl)) (pa_cons (pe_ix ix_list (pv 3) pe_int (fun _ _ => rfl)) pa_nil)))) pa_nil))) (pg_tup rfl (pgs_cons (pg_name (i := 4) sc_law_f_in_turns.nd rfl (Or.inr rfl)) (pgs_cons (pg_name (i := 5) sc_law_f_in_turns.nd rfl (Or.inl rfl)) pgs_nil))))
    (pss_cons (ps_for PassesOwn.never rfl (pi_list (pv 2)) (pg_name (i := 6) sc_law_f_in_turns.nd rfl (Or.inr rfl))
      (pss_cons (ps_setLc (i := 7) (own := [("_law_thing", 11)]) (g := gName 11) (tt := tYes) rfl sc_law_f_in_turns.nd rfl rfl (sw_true rfl rfl rfl (by decide +kernel)) (pi_list (pv 5)) (blkOk_by (N := N_law_f_in_turns) (own := [("_law_thing", 11)]) (sc := defScope s_law_f_in_turns) (by decide +kernel)) (fun _ _ _ _ _ => (pg_name (i := 11) sc_law_f_in_turns.nd rfl (Or.inl rfl))) (fun _ _ _ _ _ => pts_nil) (fun _ _ _ _ _ => (pe_callB (call_repr_told hgd (dp_of64 hr)) (by rfl) T.n_repr (by decide +kernel) (pa_cons (pe_callF (i := 6) (k := 12) (P := P) (w := w) (K := K) (mg := mg) (base := base) rfl rfl rfl rfl rfl (hr.mono (by decide)) (pa_cons (pe_call G_law_f_made (hr.mono (by decide)) rfl T.law_f_made.mgx T.law_f_made.F.kp T.law_f_made.b .nil pass0 (pa_cons (pv 0) (pa_cons (pv 1) pa_nil))) (pa_cons (pv 11) pa_nil))) pa_nil))))
    (pss_cons (ps_if (pt_cmpR (op_neD (dp_of64 hr)) (pe_lc (own := [("_law_thing", 11)]) (g := gName 11) (tt := tYes) rfl sc_law_f_in_turns.nd (pi_list (pv 5)) (blkOk_by (N := N_law_f_in_turns) (own := [("_law_thing", 11)]) (sc := defScope s_law_f_in_turns) (by decide +kernel)) (fun _ _ _ _ _ => (pg_name (i := 11) sc_law_f_in_turns.nd rfl (Or.inl rfl))) (fun _ _ _ _ _ => pts_nil) (fun _ _ _ _ _ => (pe_callB (call_repr_told hgd (dp_of64 hr)) (by rfl) T.n_repr (by decide +kernel) (pa_cons (pe_callF (i := 6) (k := 12) (P := P) (w := w) (K := K) (mg := mg) (base := base) rfl rfl rfl rfl rfl (hr.mono (by decide)) (pa_cons (pv 4) (pa_cons (pv 11) pa_nil))) pa_nil)))) (pv 7) (nomark _)) (pss_one (ps_ret pe_bl)) pss_nil)
    (pss_cons (ps_par (i := 8) (j := 9) (by rfl) sc_law_f_in_turns.nd rfl rfl (by decide) rfl rfl (pa_cons (pe_call G_law_f_copied (hr.mono (by decide)) rfl T.law_f_copied.mgx T.law_f_copied.F.kp T.law_f_copied.b .nil pass0 (pa_cons (pe_ix ix_list (pv 3) pe_int (fun _ _ => rfl)) pa_nil)) (pa_cons (pe_call G_law_f_made (hr.mono (by decide)) rfl T.law_f_made.mgx T.law_f_made.F.kp T.law_f_made.b .nil pass0 (pa_cons (pv 0) (pa_cons (pv 1) pa_nil))) pa_nil)) (by rfl))
    (pss_cons (ps_set (i := 10) sc_law_f_in_turns.nd rfl (Or.inl rfl) (pe_lst (pa_cons (pe_callB (call_repr_told hgd (dp_of64 hr)) (by rfl) T.n_repr (by decide +kernel) (pa_cons (pe_callF (i := 6) (k := 12) (P := P) (w := w) (K := K) (mg := mg) (base := base) rfl rfl rfl rfl rfl (hr.mono (by decide)) (pa_cons (pv 9) (pa_cons (pv 8) pa_nil))) pa_nil)) pa_nil)))
    (pss_one (ps_if (pt_val (pe_callB call_isiT (by rfl) T.n_isinstance (by decide +kernel) (pa_cons (pv 8) (pa_cons (pe_tup (pa_cons (pe_bltn (v := .ty "list") (by rfl) T.n_list (by decide +kernel) rfl) (pa_cons (pe_bltn (v := .ty "dict") (by rfl) T.n_dict (by decide +kernel) rfl) pa_nil))) pa_nil)))) (pss_cons (ps_expr (pe_call G_law_f_change (hr.mono (by decide)) rfl T.law_f_change.mgx T.law_f_change.F.kp T.law_f_change.b .nil pass0 (pa_cons (pv 8) (pa_cons (pe_ix ix_list (pv 3) pe_int (fun _ _ => rfl)) pa_nil))))
    (pss_one (ps_if (pt_cmpR (op_neD (dp_of64 hr)) (pe_op op_cat (pv 10) (pe_lst (pa_cons (pe_callB (call_repr_told hgd (dp_of64 hr)) (by rfl) T.n_repr (by decide +kernel) (pa_cons (pe_callF (i := 6) (k := 12) (P := P) (w := w) (K := K) (mg := mg) (base := base) rfl rfl rfl rfl rfl (hr.mono (by decide)) (pa_cons (pv 9) (pa_cons (pv 8) pa_nil))) pa_nil)) pa_nil))) (pe_slice sl_list (pv 7) po_none (po_some pe_int)) (nomark _)) (pss_one (ps_ret pe_bl)) pss_nil))) pss_nil)))))))
    (pss_one (ps_ret pe_bl)))), ?_⟩
    have i0 : ∀ {x y : V}, atI [x, y] 0 = some x := fun {x y} => atI_nat (j := 0) rfl
    have i1 : ∀ {x y : V}, atI [x, y] 1 = some y := fun {x y} => atI_nat (j := 1) rfl
    refine ⟨_, rfl, _, rfl, st, g, p, c, N, R, rfl, hS, by omega, hA, hO, fun H1 v k1 t1 hV1 nr1 => ?_⟩
    have b1 := hid_some (k1 _ _ hb)
    refine ⟨_, rfl, b, _, _, _, rfl, rfl, SqL.of b1, i0, ?_⟩
    refine ⟨_, rfl, b, _, _, _, rfl, rfl, SqL.of b1, i1, ?_⟩
    refine ⟨_, rfl, b, _, _, _, rfl, rfl, SqL.of b1, i0, ?_⟩
    refine ⟨show 3 ≤ sizeLine by decide, fun rw erw => ?_⟩
    generalize eH : upd H1 rw (_ : HO) = H2
    have s2 : Same H1 H2 := by rw [← eH]; exact same_new erw
    have q2 : H2 rw = some (.lst [.ref x0, .ref x1, .ref x0]) := by rw [← eH]; exact upd_same
    clear eH
    refine ⟨show 2 ≤ sizeLine by decide, fun tp etp => ?_⟩
    generalize eH : upd H2 tp (_ : HO) = H3
    have s3 : Same H2 H3 := by rw [← eH]; exact same_new etp
    have q3 : H3 tp = some (.tup [.ref v, .ref rw]) := by rw [← eH]; exact upd_same
    clear eH
    refine ⟨tp, _, rfl, SqT.of q3, rfl, _, _, rfl, _, _, rfl, rfl, ?_⟩
    have s13 := s2.trans s3
    have t3 := t1.same s13
    have k3 : KpZ (zst st g) H H3 := k1.trans (.of s13)
    have zrw : zst st g rw = false := zst_new t1 erw
    have r3 : hid (zst st g) H3 rw = some (.lst [.ref x0, .ref x1, .ref x0]) := hid_of (s3 _ _ q2) zrw
    have V3 : ValAt T.C (hid (zst st g) H3) v N R := hV1.same (KpZ.of s13)
    have a3 := hid_some (k3 _ _ ha)
    obtain ⟨cs, hcs⟩ : ∃ cs : List (Addr × γ), cs = [(x0, c0), (x1, c1), (x0, c0)] := ⟨_, rfl⟩
    have row : [V.ref x0, .ref x1, .ref x0] = cs.map fun q => V.ref q.1 := by rw [hcs] <;> rfl
    have cl : cs.length = 3 := by rw [hcs] <;> rfl
    have hth : ∀ q ∈ cs, Th (hid (zst st g) H) q.1 q.2 := fun q hq => by
      rw [hcs] at hq
      simp only [List.mem_cons, List.mem_nil_iff, or_false] at hq
      rcases hq with rfl | rfl | rfl
      · exact h0
      · exact h1
      · exact h0
    rw [row] at r3
    refine ⟨_, rfl, a, rfl, ⟨_, SqL.of a3⟩, ?_⟩
    refine for_list (K := K) (xs := fs.map V.ref) (fun i σ H' => KpZ (zst st g) H3 H' ∧ Strm H' st g (c + 100 + 500 * i) ∧ ∃ o6 o7 o8 o9 o10 : Option V, σ = [some (.ref st), some (.ref p), some (.ref a), some (.ref b), some (.ref v), some (.ref rw), o6, o7, o8, o9, o10, none]) ⟨KpZ.refl, t3.mono (by omega), _, _, _, _, _, rfl⟩ (fun i σ H' _ pv => SqL.of (hid_some ((k3.trans pv.1) _ _ ha))) ?_ (fun σ H' pv => ?_)
    · rintro i x σ H4 hx ⟨k4, t4, o6, o7, o8, o9, o10, rfl⟩
      obtain ⟨f, hfm, rfl⟩ := List.mem_map.mp (List.mem_of_getElem? hx)
      have hi : i < fs.length := by
        have q := (List.getElem?_eq_some_iff.mp hx).1
        rw [List.length_map] at q
        exact q
      have kk4 : KpZ (zst st g) H H4 := k3.trans k4
      obtain ⟨sp, oc1, od1, fd1, sl1, base1, fn1, spk⟩ := (hf f hfm).ex
      have r4 : H4 rw = some (.lst (cs.map fun q => V.ref q.1)) := hid_some (k4 _ _ r3)
      -- due
      refine ⟨_, rfl, rw, rfl, ⟨_, SqL.of r4⟩, fun D1 hD1 => ?_⟩
      have zD1 := zst_new t4 hD1
      have nst : D1 ≠ st := fun z => by rw [z, zst_st] at zD1; cases zD1
      have ng : D1 ≠ g := fun z => by rw [z, zst_g] at zD1; cases zD1
      refine lcZ (walk_list (xs := cs.map fun q => V.ref q.1)) (zst st g) (fun j H' => Strm H' st g (c + 100 + 500 * i + 100 * j)) (fun _ j v => ∀ q, cs[j]? = some q → v = .str (D f q.2).shown ∧ okS (D f q.2).shown) hD1 zD1 (by rw [List.length_map, cl]; decide) (fun _ _ _ _ _ _ _ r => r) (fun _ H' o h => h.up nst ng) (fun H' e => SqL.of (e.at r4 zrw)) t4 ?_ ?_
      · rintro j x H5 H6 acc Q2 hj k5 t5 d5 ⟨rfl, hx5⟩ q
        rw [List.length_map, cl] at hj
        rw [List.getElem?_map] at hx5
        obtain ⟨⟨xa, ca⟩, hq5, rfl⟩ := Option.map_eq_some_iff.mp hx5
        refine ⟨rfl, ?_⟩
        refine ⟨f, sp, oc1, od1, fd1, sl1, rfl, base1, fn1, _, rfl, _, rfl, st, g, p, _, N, R, rfl, t5, by omega, hA.same (kk4.trans k5), hO, fun H7 v7 k7 t7 hV7 nr7 => ?_⟩
        refine ⟨_, rfl, ?_⟩
        dsimp only [tNil, List.cons_append, List.nil_append, List.append_nil]
        have k7' := kk4.trans (k5.trans k7)
        refine spk H7 v7 xa ca _ k7' (hV7.same hid_in) (KD.same _ _ _ _ hid_in (KD.same _ _ _ _ k7' (hth _ (List.mem_of_getElem? hq5)))) fun H8 t s8 sh => ?_
        refine ⟨t, D f ca, rfl, sh, ?_⟩
        refine q _ _ (k7.trans (.of s8)) ((t7.same s8).mono (by omega)) fun q' hq' => ?_
        rw [hq5] at hq'
        cases hq'
        exact ⟨rfl, sh.ok⟩
      intro H5 ys k5 t5 d5 ly rel
      rw [List.length_map, cl] at t5
      rw [List.length_map] at ly
      obtain rfl := list_of_rel (F := fun q : Addr × γ => V.str (D f q.2).shown) ly fun i v e q hq => (rel i v e q hq).1
      have okc : ∀ t ∈ cs.map fun q => (D f q.2).shown, okS t := fun t ht => by
        obtain ⟨q, hq, rfl⟩ := List.mem_map.mp ht
        obtain ⟨j, hj, ej⟩ := List.mem_iff_getElem.mp hq
        have ej' : cs[j]? = some q := List.getElem?_eq_some_iff.mpr ⟨hj, ej⟩
        exact (rel j _ (by rw [List.getElem?_map, ej'] <;> rfl) q ej').2
      have lt : (cs.map fun q => V.str (D f q.2).shown) = (cs.map fun q => (D f q.2).shown).map V.str := by rw [List.map_map] <;> rfl
      rw [lt] at d5
      obtain ⟨ts, hts⟩ : ∃ ts, ts = cs.map fun q => (D f q.2).shown := ⟨_, rfl⟩
      rw [← hts] at okc d5
      have kk5 := kk4.trans k5
      have r5 : H5 rw = some (.lst (cs.map fun q => V.ref q.1)) := k5.at r4 zrw
      have d5h : hid (zst st g) H5 D1 = some (.lst (ts.map V.str)) := hid_of d5 zD1
      have V5 : ValAt T.C (hid (zst st g) H5) v N R := V3.same (k4.trans k5)
      -- the same valley
      refine ⟨_, rfl, rw, rfl, ⟨_, SqL.of r5⟩, fun D2 hD2 => ?_⟩
      have zD2 := zst_new t5 hD2
      have nst2 : D2 ≠ st := fun z => by rw [z, zst_st] at zD2; cases zD2
      have ng2 : D2 ≠ g := fun z => by rw [z, zst_g] at zD2; cases zD2
      refine lcZ (walk_list (xs := cs.map fun q => V.ref q.1)) (zst st g) (fun j H' => Strm H' st g (c + 100 + 500 * i + 100 * 3)) (fun _ j v => ∀ q, cs[j]? = some q → v = .str (D f q.2).shown) hD2 zD2 (by rw [List.length_map, cl]; decide) (fun _ _ _ _ _ _ _ r => r) (fun _ H' o h => h.up nst2 ng2) (fun H' e => SqL.of (e.at r5 zrw)) t5 ?_ ?_
      · rintro j x H6 H7 acc Q2 hj k6 t6 d6 ⟨rfl, hx6⟩ q
        rw [List.getElem?_map] at hx6
        obtain ⟨⟨xa, ca⟩, hq6, rfl⟩ := Option.map_eq_some_iff.mp hx6
        refine ⟨rfl, ?_⟩
        refine ⟨f, sp, oc1, od1, fd1, sl1, rfl, base1, fn1, _, rfl, _, rfl, ?_⟩
        have k6' := kk5.trans k6
        refine spk H7 v xa ca _ k6' ((V5.same k6).same hid_in) (KD.same _ _ _ _ hid_in (KD.same _ _ _ _ k6' (hth _ (List.mem_of_getElem? hq6)))) fun H8 t s8 sh => ?_
        refine ⟨t, D f ca, rfl, sh, ?_⟩
        refine q _ _ (.of s8) (t6.same s8) fun q' hq' => ?_
        rw [hq6] at hq'
        cases hq'
        rfl
      intro H6 ys k6 t6 d6 ly2 rel2
      rw [List.length_map] at ly2
      obtain rfl := list_of_rel (F := fun q : Addr × γ => V.str (D f q.2).shown) ly2 rel2
      rw [lt, ← hts] at d6
      refine ⟨_, rfl, txtD ts, txtD ts, txt_dp d6, txt_dp (k6.at d5 zD1), txts_shaped okc, txts_shaped okc, false, congrArg V.bl txt_eqv, iteF ?_⟩
      -- held, twin
      have kk6 := kk5.trans k6
      have b6 := hid_some (kk6 _ _ hb)
      have th6 : Th H6 x0 c0 := KD.same _ _ _ _ hid_in (KD.same _ _ _ _ kk6 h0)
      have x16 : Th H6 x1 c1 := KD.same _ _ _ _ hid_in (KD.same _ _ _ _ kk6 h1)
      refine ⟨_, rfl, b, _, _, _, rfl, rfl, SqL.of b6, i0, x0, c0, rfl, th6, fun H7 l s7 n7 th7 => ?_⟩
      have t7 := t6.same s7
      have kk7 : KpZ (zst st g) H H7 := kk6.trans (.of s7)
      refine ⟨_, rfl, _, rfl, st, g, p, _, N, R, rfl, t7, by omega, hA.same kk7, hO, fun H8 v8 k8 t8 hV8 nr8 => ?_⟩
      refine ⟨_, _, rfl, ?_⟩
      have zl : zst st g l = false := zst_new t6 n7
      have th8 : Th H8 l c0 := KD.same _ _ _ _ hid_in (KD.same _ _ _ _ k8 (KD.hid _ _ _ _ _ _ t7 zl th7))
      have kk8 := kk7.trans k8
      have V8 : ValAt T.C H8 v8 N R := hV8.same hid_in
      -- told
      refine ⟨f, sp, oc1, od1, fd1, sl1, rfl, base1, fn1, _, rfl, _, rfl, ?_⟩
      dsimp only [tNil, List.cons_append, List.nil_append, List.append_nil]
      refine spk H8 v8 l c0 _ kk8 V8 th8 fun H9 t s9 sh9 => ?_
      refine ⟨t, D f c0, rfl, sh9, show 1 ≤ sizeLine by decide, fun tl etl => ?_⟩
      generalize eH : upd H9 tl (_ : HO) = H10
      have s10 : Same H9 H10 := by rw [← eH]; exact same_new etl
      have q10 : H10 tl = some (.lst [.str (D f c0).shown]) := by rw [← eH]; exact upd_same
      clear eH
      refine ⟨_, rfl, show 2 ≤ sizeLine by decide, fun p11 e11 => ?_⟩
      have s11 : Same H10 (upd H10 p11 (.tup [.ty "list", .ty "dict"])) := same_new e11
      have q11 : upd H10 p11 (.tup [.ty "list", .ty "dict"]) p11 = some (.tup [.ty "list", .ty "dict"]) := upd_same
      generalize upd H10 p11 (.tup [.ty "list", .ty "dict"]) = H11 at s11 q11 ⊢
      have s8B : Same H8 H11 := s9.trans (s10.trans s11)
      have thB : Th H11 l c0 := KD.same _ _ _ _ s8B th8
      obtain ⟨n, tn, hn⟩ : ∃ n, TyN K H11 (.ref l) n ∧ (n == "list" || n == "dict") = true := by
        rcases KD.obj _ _ _ thB with ⟨xs, q⟩ | ⟨kvs, q⟩
        · exact ⟨"list", TyN.lst q, rfl⟩
        · exact ⟨"dict", TyN.dK q, rfl⟩
      refine ⟨_, p11, _, _, _, _, rfl, q11, .cons (.ty _) (.cons (.ty _) .nil), tn.ty, kit_ld tn.m, true, congrArg V.bl hn, iteT ?_⟩
      -- the thing is changed
      have kkB : KpZ (zst st g) H H11 := kk8.trans (.of s8B)
      have bB := hid_some (kkB _ _ hb)
      have x1B : Th H11 x1 c1 := KD.same _ _ _ _ hid_in (KD.same _ _ _ _ kkB h1)
      have lx : l ≠ x1 := by
        rcases KD.obj _ _ _ x16 with ⟨xs, q⟩ | ⟨kvs, q⟩ <;> exact (ne_of_none q n7).symm
      refine ⟨_, rfl, _, rfl, b, _, _, _, rfl, rfl, SqL.of bB, i1, l, x1, c0, c1, rfl, lx, thB, x1B, fun H12 kp12 th12 => ?_⟩
      have kk12 : KpZ (zst st g) H6 H12 := fun b' o e => by
        have q := ((KpZ.of s7).trans (k8.trans (.of s8B)) : KpZ (zst st g) H6 H11) b' o e
        exact hid_of (kp12 _ _ (hid_some q) (ne_of_none (hid_some e) n7)) (hid_not e)
      have stl : l ≠ st ∧ l ≠ g := ⟨fun z => (by rw [z, zst_st] at zl; cases zl), fun z => (by rw [z, zst_g] at zl; cases zl)⟩
      have t12 : Strm H12 st g (c + 100 + 500 * i + 100 * 3 + 100) := by
        obtain ⟨ns, m, kk, r, e1, e2, e3⟩ := (t8.same s8B).ex
        exact ⟨ns, m, kk, r, kp12 _ _ e1 (Ne.symm stl.1), kp12 _ _ e2 (Ne.symm stl.2), e3⟩
      have V12 : ValAt T.C H12 v8 N R := by
        refine (V8.same s8B).chg kp12 (KD.obj _ _ _ thB) fun dx fs' ar q1 q2 z => ?_
        obtain ⟨dx', an', ar', ao', ap', fs2, f2, rs2, pl2, g1, _⟩ := V8.ex
        have q3 := q1.symm.trans (s8B _ _ g1)
        injection q3 with q3
        injection q3 with q4 q5 q6
        have q7 := nr8 dx' fs2 ar g1 (by rw [← q6]; exact q2)
        rcases KD.obj _ _ _ th7 with ⟨xs, q⟩ | ⟨kvs, q⟩ <;> rw [← z, q7] at q <;> cases q
      have kkC : KpZ (zst st g) H H12 := kk6.trans kk12
      have tlB : H11 tl = some (.lst [.str (D f c0).shown]) := s11 _ _ q10
      have ltl : tl ≠ l := fun z => by
        have q8 : ∃ o, H8 l = some o := by
          rcases KD.obj _ _ _ th8 with ⟨xs, q⟩ | ⟨kvs, q⟩ <;> exact ⟨_, q⟩
        obtain ⟨o, q⟩ := q8
        exact ne_of_none (s9 _ _ q) etl z.symm
      have tlC : H12 tl = some (.lst [.str (D f c0).shown]) := kp12 _ _ tlB ltl
      refine ⟨_, rfl, f, sp, oc1, od1, fd1, sl1, rfl, base1, fn1, _, rfl, _, rfl, ?_⟩
      dsimp only [tNil, List.cons_append, List.nil_append, List.append_nil]
      refine spk H12 v8 l c1 _ kkC V12 th12 fun H13 t13 s13 sh13 => ?_
      refine ⟨t13, D f c1, rfl, sh13, show 1 ≤ sizeLine by decide, fun tm etm => ?_⟩
      generalize eH : upd H13 tm (_ : HO) = H14
      have s14 : Same H13 H14 := by rw [← eH]; exact same_new etm
      have q14 : H14 tm = some (.lst [.str (D f c1).shown]) := by rw [← eH]; exact upd_same
      clear eH
      have s12E := s13.trans s14
      refine ⟨tl, tm, _, _, rfl, rfl, s12E _ _ tlC, q14, show 1 + 1 ≤ sizeLine by decide, fun p15 e15 => ?_⟩
      generalize eH : upd H14 p15 (_ : HO) = H15
      have s15 : Same H14 H15 := by rw [← eH]; exact same_new e15
      have q15 : H15 p15 = some (.lst ([.str (D f c0).shown] ++ [.str (D f c1).shown])) := by rw [← eH]; exact upd_same
      clear eH
      have d15 : H15 D1 = some (.lst (ts.map V.str)) := hid_some (((k6.trans kk12).trans (.of (s12E.trans s15))) _ _ d5h)
      refine ⟨_, rfl, 2, rfl, D1, _, rfl, SqL.of d15, fun m16 e16 => ?_⟩
      have ets : ts = [(D f c0).shown, (D f c1).shown, (D f c0).shown] := by rw [hts, hcs] <;> rfl
      have cut : cutV (ts.map V.str) none (some 2) = [(D f c0).shown, (D f c1).shown].map V.str := by rw [ets] <;> rfl
      rw [cut]
      have s16 : Same H15 (upd H15 m16 (.lst ([(D f c0).shown, (D f c1).shown].map V.str))) := same_new e16
      have q16 : upd H15 m16 (.lst ([(D f c0).shown, (D f c1).shown].map V.str)) m16 = some (.lst ([(D f c0).shown, (D f c1).shown].map V.str)) := upd_same
      generalize upd H15 m16 (.lst ([(D f c0).shown, (D f c1).shown].map V.str)) = H16 at s16 q16 ⊢
      have ok2 : ∀ t ∈ [(D f c0).shown, (D f c1).shown], okS t := fun t ht => okc t (by rw [ets]; simp only [List.mem_cons, List.mem_nil_iff, or_false] at ht ⊢; rcases ht with h | h <;> simp [h])
      refine ⟨txtD [(D f c0).shown, (D f c1).shown], txtD [(D f c0).shown, (D f c1).shown], txt_dp (s16 _ _ q15), txt_dp q16, txts_shaped ok2, txts_shaped ok2, false, congrArg V.bl txt_eqv, iteF ?_⟩
      refine ⟨(((k4.trans k5).trans k6).trans kk12).trans (.of (s12E.trans (s15.trans s16))), (t12.same (s12E.trans (s15.trans s16))).mono (by omega), _, _, _, _, _, rfl⟩
    obtain ⟨k4, t4, o6, o7, o8, o9, o10, rfl⟩ := pv
    rw [List.length_map] at t4
    exact k _ (k3.trans k4) (t4.mono (by omega))
end
end K80
namespace K80
open PySem PySem.Spec PyProof.Rows L2
open LamX (ExtN Tabs TabS TabB CodeO)
open NdefX (NF NScope startF envF ncx clo_cm clo_has)
/-! ### function objects are no code objects; tables stay -/
theorem obj_ne_code {f : Addr} {q qn nm : Str} {params : Arguments} {body : Expr} {scope : Scope} {cl : List (Str × Addr)} {pm : Value} {c' : Addr} {ctv : Value} : ObjO f (PySem.W.kla_obj nm qn params body scope cl pm c' ctv) ≠ CodeO f q := fun e => by
  unfold ObjO CodeO at e
  injection e with e
  have z := congrFun e ({ objs := Array.replicate (f + 1) (PySem.W.kla_obj nm qn params body scope cl pm c' ctv) } : Heap)
  have g : ({ objs := Array.replicate (f + 1) (PySem.W.kla_obj nm qn params body scope cl pm c' ctv) } : Heap).get? f = some (PySem.W.kla_obj nm qn params body scope cl pm c' ctv) := by
    unfold Heap.get?
    rw [Array.getElem?_replicate, if_pos (Nat.lt_succ_self f)]
  obtain ⟨oc, vs, t, h1, h2, _⟩ := z.mp g
  rw [g] at h1
  cases h1
  cases h2
theorem tabs_kp {TT : List (Addr × Str)} {H H' : Hp} {st g : Addr} {n : Nat} (t : Strm H st g n) (e : KpZ (zst st g) H H') (h : Tabs TT H) : Tabs TT H' := fun p hp => by
  obtain ⟨ps, h1, h2, h3⟩ := h p hp
  refine ⟨ps, hid_some (e _ _ (hid_kind t h1 (fun _ z => nomatch z))), h2, fun pos cv hc => ?_⟩
  obtain ⟨c, e1, e2⟩ := h3 pos cv hc
  exact ⟨c, e1, hid_some (e _ _ (hid_kind t e2 (fun _ z => nomatch z)))⟩
/-- only lambdas are let go -/
def AllLam (H : Hp) (fs : List (Addr × Obj)) : Prop := ∀ p ∈ fs, H p.1 = some (ObjO p.1 p.2) ∧ ∃ qn nm params body scope cl pm c' ctv, p.2 = PySem.W.kla_obj nm qn params body scope cl pm c' ctv
theorem dropL_code {H : Hp} {fs : List (Addr × Obj)} (a : AllLam H fs) {c : Addr} {q : Str} (h : H c = some (CodeO c q)) : dropL H fs c = some (CodeO c q) := by
  unfold dropL
  rw [if_neg]
  · exact h
  · intro z
    obtain ⟨p, hp, e⟩ := List.mem_map.mp z
    obtain ⟨h1, qn, nm, params, body, scope, cl, pm, c', ctv, h2⟩ := a p hp
    rw [e, h, h2] at h1
    exact obj_ne_code (Option.some.inj h1).symm
theorem dropL_tabs {H : Hp} {fs : List (Addr × Obj)} (a : AllLam H fs) {TT : List (Addr × Str)} (h : Tabs TT H) : Tabs TT (dropL H fs) := fun p hp => by
  obtain ⟨ps, h1, h2, h3⟩ := h p hp
  refine ⟨ps, dropL_of h1 (fun p hp => (a p hp).1) (fun φ z => nomatch z), h2, fun pos cv hc => ?_⟩
  obtain ⟨c, e1, e2⟩ := h3 pos cv hc
  exact ⟨c, e1, dropL_code a e2⟩
/-! ### what stays but for what Z names, tables, things of another make -/
def KX (Z : Addr → Bool) (H H' : Hp) : Prop := ∀ b o, hid Z H b = some o → (∀ ps, o ≠ .tbl ps) → (∀ φ, o ≠ .ext φ) → hid Z H' b = some o
theorem KX.refl {Z : Addr → Bool} {H : Hp} : KX Z H H := fun _ _ h _ _ => h
theorem KX.trans {Z : Addr → Bool} {H H1 H2 : Hp} (a : KX Z H H1) (b : KX Z H1 H2) : KX Z H H2 := fun c o h n m => b c o (a c o h n m) n m
theorem KX.kp {Z : Addr → Bool} {H H' : Hp} (a : KpZ Z H H') : KX Z H H' := fun b o h _ _ => a b o h
theorem KX.ext {Z : Addr → Bool} {H H' : Hp} (a : ExtN H H') : KX Z H H' := fun b o h n _ => hid_of (a b o (hid_some h) n) (hid_not h)
theorem KX.drop {Z : Addr → Bool} {H : Hp} {fs : List (Addr × Obj)} (a : AllLam H fs) : KX Z H (dropL H fs) := fun b o h _ m => hid_of (dropL_of (hid_some h) (fun p hp => (a p hp).1) m) (hid_not h)
theorem strm_kx {H H' : Hp} {st g : Addr} {n : Nat} (t : Strm H st g n) (e : ∀ b xs, H b = some (.lst xs) → H' b = some (.lst xs)) : Strm H' st g n := by
  obtain ⟨ns, m, kk, r, e1, e2, e3⟩ := t.ex
  exact ⟨ns, m, kk, r, e _ _ e1, e _ _ e2, e3⟩
theorem valAt_kx {C : Addr} {Z : Addr → Bool} {H H' : Hp} {v : Addr} {N : List Str} {R : List Rd2} (e : KX Z H H') (h : ValAt C (hid Z H) v N R) : ValAt C (hid Z H') v N R := by
  obtain ⟨dx, an, ar, ao, ap, fs, f, rs, pl, h1, h2, h3, h4, h5, h6, h7, h8, h9, h10, h11⟩ := h.ex
  exact ⟨dx, an, ar, ao, ap, fs, f, rs, pl, e _ _ h1 (fun _ z => by cases z) (fun _ z => by cases z), h2, e _ _ h3 (fun _ z => by cases z) (fun _ z => by cases z), h4, e _ _ h5 (fun _ z => by cases z) (fun _ z => by cases z), h6, e _ _ h7 (fun _ z => by cases z) (fun _ z => by cases z),
    paired_same (fun _ _ z => e _ _ z (fun _ z => by cases z) (fun _ z => by cases z)) h8, h9, e _ _ h10 (fun _ z => by cases z) (fun _ z => by cases z), h11⟩
theorem pairs_kx {Z : Addr → Bool} {H H' : Hp} {us : List Addr} {R : List Rd2} (e : KX Z H H') (h : PairsAt (hid Z H) us R) : PairsAt (hid Z H') us R := paired_same (fun _ _ z => e _ _ z (fun _ z => by cases z) (fun _ z => by cases z)) h
theorem some_kx {Z : Addr → Bool} {H H' : Hp} {p : Addr} {N : List Str} {R : List Rd2} (e : KX Z H H') (h : SomeAt (hid Z H) p N R) : SomeAt (hid Z H') p N R := by
  obtain ⟨a, b, d, us, hs, h1, h2, h3, h4, h5, h6⟩ := h.ex
  exact ⟨a, b, d, us, hs, e _ _ h1 (fun _ z => by cases z) (fun _ z => by cases z), e _ _ h2 (fun _ z => by cases z) (fun _ z => by cases z), e _ _ h3 (fun _ z => by cases z) (fun _ z => by cases z), pairs_kx e h4, e _ _ h5 (fun _ z => by cases z) (fun _ z => by cases z), h6⟩
/-! ### kinds of things -/
def ThD (N : List Str) : Hp → Addr → (Str → Int) → Prop := fun H a h => H a = some (.dK (dOf N fun n => .int (h n))) ∧ ∀ n ∈ N, 0 ≤ h n ∧ h n ≤ 10 ^ 15
def ThL (R : List Rd2) : Hp → Addr → List Rd2 → Prop := fun H a L => (∃ us : List Addr, H a = some (.lst (us.map V.ref)) ∧ PairsAt H us L) ∧ L.Perm R
section
variable {P : Program} {w : World} {K : PySem.W.Frag} {mg : Str → Option Value} {base : Heap}
theorem kind_dict (T : Txt K mg) {N : List Str} (nd : N.Nodup) (nz : N.length ≤ 1000) : Kind P w K mg base T (Str → Int) (ThD N) := by
  refine ⟨fun H H' a c e h => ⟨e _ _ h.1, h.2⟩, fun H a c h => .inr ⟨_, h.1⟩, fun H a c st g n t _ h => ⟨hid_kind t h.1 (fun _ z => nomatch z), h.2⟩, ?_, ?_⟩
  · refine ((ok_copyD T).mono (by decide)).imp fun vs H Q E q => ?_
    obtain ⟨a, c, rfl, h, k⟩ := q
    exact ⟨a, N, _, rfl, h.1, nd, nz, fun H' l s n q => k H' l s n ⟨q, h.2⟩⟩
  · refine (ok_changeD T).imp fun vs H Q E q => ?_
    obtain ⟨a, b, c, c2, rfl, ab, h1, h2, k⟩ := q
    exact ⟨a, b, _, N, _, rfl, ab, h1.1, h2.1, nd, nz, fun H' kp q => k H' kp ⟨q, h2.2⟩⟩
theorem pairs_tups {H : Hp} {us : List Addr} {L : List Rd2} (h : PairsAt H us L) : ∀ u ∈ us, ∃ xs, H u = some (.tup xs) := fun u hu => by
  obtain ⟨i, hi, e⟩ := List.mem_iff_getElem.mp hu
  have l := Paired.length h
  exact ⟨_, paired_at h (List.getElem?_eq_some_iff.mpr ⟨hi, e⟩) (List.getElem?_eq_getElem (l := L) (i := i) (by omega))⟩
theorem kind_list (T : Txt K mg) {R : List Rd2} (rl : R.length ≤ 1000) : Kind P w K mg base T (List Rd2) (ThL R) := by
  refine ⟨fun H H' a c e h => ⟨let ⟨us, h1, h2⟩ := h.1; ⟨us, e _ _ h1, h2.same e⟩, h.2⟩, fun H a c h => let ⟨us, h1, _⟩ := h.1; .inl ⟨_, h1⟩, fun H a c st g n t z h => ?_, ?_, ?_⟩
  · obtain ⟨⟨us, h1, h2⟩, h3⟩ := h
    exact ⟨⟨us, hid_of h1 z, paired_same (fun _ _ q => hid_kind t q (fun _ z => by cases z)) h2⟩, h3⟩
  · refine (ok_copyL T).imp fun vs H Q E q => ?_
    obtain ⟨a, c, rfl, ⟨⟨us, h1, h2⟩, h3⟩, k⟩ := q
    have l1 := Paired.length h2
    have l2 := h3.length_eq
    exact ⟨a, us, rfl, h1, by omega, pairs_tups h2, fun H' l s n q => k H' l s n ⟨⟨us, q, h2.same s⟩, h3⟩⟩
  · refine (ok_changeL T).imp fun vs H Q E q => ?_
    obtain ⟨a, b, c, c2, rfl, ab, ⟨⟨us, h1, h2⟩, h3⟩, ⟨⟨ws, h4, h5⟩, h6⟩, k⟩ := q
    have l1 := Paired.length h2
    have l2 := h3.length_eq
    have l3 := Paired.length h5
    have l4 := h6.length_eq
    exact ⟨a, b, us, ws, rfl, ab, h1, h4, by omega, by omega, pairs_tups h2, pairs_tups h5, fun H' kp q => k H' kp ⟨⟨ws, q, paired_same (fun _ _ z => kp _ _ z (ne_of z h1 (fun z => by cases z))) h5⟩, h6⟩⟩
/-! ### what is told is shown -/
theorem pow_150 {k : Nat} (h : k < 150) : ((2 : Int) ^ k).natAbs < 2 ^ 150 := by
  rw [pow_nat, Int.natAbs_natCast]
  exact Nat.pow_lt_pow_right (by decide) h
theorem left_show {H : Hp} {N : List Str} {R L : List Rd2} {h : Str → Int} {d : Addr} {g : Str → Addr} (ok : SomeOk N R) (hb : ∀ n ∈ N, 0 ≤ h n ∧ h n ≤ 10 ^ 15) (a : LeftAt H N R L h d g) : ShowAt H d (rowsD (leftRows N R L h)) := by
  refine .rows ⟨⟨_, a.d, ?_⟩, by unfold leftRows; rw [List.length_map]; exact ok.nz, fun q hq => ?_⟩
  · have go : ∀ M : List Str, (∀ n ∈ M, n ∈ N) → Paired (fun (p : Key × V) (q : Str × PyData) => p.1 = Sum.inr q.1 ∧ Sm H p.2 q.2) (dOf M fun n => .ref (g n)) (M.map fun n => (n, .tuple ([(low (h n) (2 ^ oftN N R L n)).1, (low (h n) (2 ^ oftN N R L n)).2].map .int))) := by
      intro M
      induction M with
      | nil => intro _; exact .nil
      | cons n M ih =>
        intro sub
        have hn := sub n List.mem_cons_self
        have lo : oftN N R L n ≤ 59 := Nat.le_trans oft_le ok.rl
        have b := hb n hn
        have b1 : (h n).natAbs < 2 ^ 150 := Nat.lt_of_le_of_lt (show (h n).natAbs ≤ 10 ^ 15 by omega) (by decide)
        have b2 : ((2 : Int) ^ oftN N R L n).natAbs < 2 ^ 150 := pow_150 (by omega)
        obtain ⟨q1, q2⟩ := low_small b.1 (pow_one_le (oftN N R L n)) b1 b2
        refine .cons ⟨rfl, .tup (a.t n hn) (Nat.le_refl 2) fun m hm => ?_⟩ (ih fun m hm => sub m (List.mem_cons_of_mem _ hm))
        simp only [List.mem_cons, List.mem_nil_iff, or_false] at hm
        rcases hm with rfl | rfl
        · exact Nat.lt_of_lt_of_le (log_lt q1 (by decide)) (by decide)
        · exact Nat.lt_of_lt_of_le (log_lt q2 (by decide)) (by decide)
    exact go N fun _ hn => hn
  · obtain ⟨n, hn, rfl⟩ := List.mem_map.mp hq
    exact (ok.ok n hn).ok
end
theorem tog_show {H : Hp} {N : List Str} {R L : List Rd2} {h : Str → Int} {t : Addr} (ok : SomeOk N R) (pL : L.Perm R) (hb : ∀ n ∈ N, 0 ≤ h n ∧ h n ≤ 10 ^ 15) (q : H t = some (.tup (lowV (topN N R L h) (2 ^ mostN N R L)))) :
    ShowAt H t (.tuple ([(low (topN N R L h) (2 ^ mostN N R L)).1, (low (topN N R L h) (2 ^ mostN N R L)).2].map .int)) := by
  have lo : mostN N R L ≤ 59 := Nat.le_trans most_le ok.rl
  have tp : 0 ≤ topN N R L h := top_pos fun n hn => (hb n hn).1
  have te := top_le ok pL (k := 10 ^ 15) fun n hn => (hb n hn).2
  have p1 : (2 : Int) ^ mostN N R L ≤ 2 ^ 59 := by
    rw [pow_nat, pow_nat]
    exact Int.ofNat_le.mpr (Nat.pow_le_pow_right (by decide) lo)
  have p2 : topN N R L h ≤ 10 ^ 15 * 2 ^ 59 := Int.le_trans te (Int.mul_le_mul_of_nonneg_left p1 (by decide))
  have b1 : (topN N R L h).natAbs < 2 ^ 150 := Nat.lt_of_le_of_lt (show (topN N R L h).natAbs ≤ 10 ^ 15 * 2 ^ 59 by omega) (by decide)
  obtain ⟨q1, q2⟩ := low_small tp (pow_one_le (mostN N R L)) b1 (pow_150 (by omega))
  refine .tup (.tup q (Nat.le_refl 2) fun m hm => ?_)
  simp only [List.mem_cons, List.mem_nil_iff, or_false] at hm
  rcases hm with rfl | rfl
  · exact Nat.lt_of_lt_of_le (log_lt q1 (by decide)) (by decide)
  · exact Nat.lt_of_lt_of_le (log_lt q2 (by decide)) (by decide)
/-! ### the law's lambdas, asked -/
section
variable {P : Program} {w : World} {K : PySem.W.Frag} {mg : Str → Option Value} {base : Heap}
theorem lam_fn {N ps fr : List Str} {q nm : Str} {params : Arguments} {body : Expr} {scope : Scope} {f c' : Addr} {pm ctv : Value} {cells : List (Str × Addr)} {cv : Str → Option V} {ws : List (Option V)} {sp : Sp} {k : Nat} {CX : CXT}
    (ob : base.get? f = some (PySem.W.kla_obj nm q params body scope (cloFrom cells scope.names []) pm c' ctv)) (S : NScope N ps fr scope) (hb : ∀ us : List Value, us.length = ps.length → bindArgs (PySem.W.kla_fn nm q params body scope (cloFrom cells scope.names []) pm (.ref c') ctv) ⟨us, []⟩ = pure (ps.zip us))
    (B : BCells base cells cv) (hw : ws = fr.map cv) (hs : ∀ y ∈ fr, (cv y).isSome = true) (len : ∀ vs H Q E, sp vs H Q E → vs.length = ps.length) (hc : ∀ vs H Q E, sp vs H Q E → H c' = some (CodeO c' q))
    (hbody : ∀ (A : Around) (outer : List Env) (s : Shared) (H : Hp) (vs : List V) (Q : VK) (E : XK), Room k (A.deeper (envF ⟨nm, q, params, [], scope, cloFrom cells scope.names [], c'⟩ f s.heap.objs.size)) → sp vs H Q E →
      ∃ t, PE (ncx CX P w K mg base N ⟨nm, q, params, [], scope, cloFrom cells scope.names [], c'⟩ f A outer s H E) body t ∧ t (startF N vs ws) H Q) : FnR P w K mg base CX (k + 1) f sp := by
  have free : ∀ y ∈ scope.names, y.2 = .free → ∃ c, cells.lookup y.1 = some c := fun y hy e => by
    obtain ⟨v, hv⟩ := Option.isSome_iff_exists.mp (hs y.1 (S.free y hy e))
    obtain ⟨c, u, h1, _⟩ := B.has y.1 v hv
    exact ⟨c, h1⟩
  refine lam_run (F := ⟨nm, q, params, [], scope, cloFrom cells scope.names [], c'⟩) ob S hb B (fun y c e => clo_cm free e) (fun y hy c e => clo_has free (PySem.mem_of_lookup (S.frk y hy)) e) hw hs len hc hbody
/-- a lambda that asks of its valley, of what it holds, of its thing -/
def spA (spX : Sp) (q : Str) (c' e : Addr) : Sp := fun vs H Q _ => ∃ v x : Addr, vs = [.ref v, .ref x] ∧ H c' = some (CodeO c' q) ∧ spX [.ref v, .ref e, .ref x] H Q E0
def spA3 (spX : Sp) (q : Str) (c' d : Addr) : Sp := fun vs H Q _ => ∃ v x : Addr, vs = [.ref v, .ref x] ∧ H c' = some (CodeO c' q) ∧ spX [.ref v, .ref x, .ref d] H Q E0
variable {C CV CE CH : Addr} {N : List Str} {R L : List Rd2} {H0 : Hp} {st g f c' e d : Addr} {q : Str} {n : Nat} {us : List Addr} {h : Str → Int} {oc : Value} {od : Option Addr} {fd : FuncData} {sl : Array (Option Value)}
theorem ask_one (ob : base.get? f = some ⟨oc, od, .func fd, sl⟩) (F : FnR P w K mg base (L2.CX P w) 12 f (spA (spLeavings K C CV CE CH) q c' e)) (t : Strm H0 st g n) (hc : H0 c' = some (CodeO c' q)) (he : hid (zst st g) H0 e = some (.lst (us.map V.ref))) (hP : PairsAt (hid (zst st g) H0) us L) (ok : SomeOk N R) (pL : L.Perm R) :
    AskAt P w K mg base C N R (Str → Int) (ThD N) (fun h => rowsD (leftRows N R L h)) (zst st g) H0 f := by
  refine ⟨_, oc, od, fd, sl, ob, F, fun H v x h Q k hV hx kk => ?_⟩
  have l1 := pL.length_eq
  have l2 := ok.rl
  exact ⟨v, x, rfl, hid_some (k _ _ (hid_kind t hc (fun _ z => nomatch z))), leav_ok hV ok (roads_ev (pairs_in (hid_some (k _ _ he)) ((hP.same k).same hid_in)) (by omega)) (known_flip ok pL flip_refl) hx.1 (.refl _) hx.2 fun H' d2 g2 s n2 la => kk H' d2 s (left_show ok hx.2 la)⟩
theorem ask_two (ob : base.get? f = some ⟨oc, od, .func fd, sl⟩) (F : FnR P w K mg base (L2.CX P w) 12 f (spA (spTogether K C CV CE CH) q c' e)) (t : Strm H0 st g n) (hc : H0 c' = some (CodeO c' q)) (he : hid (zst st g) H0 e = some (.lst (us.map V.ref))) (hP : PairsAt (hid (zst st g) H0) us L) (ok : SomeOk N R) (pL : L.Perm R) :
    AskAt P w K mg base C N R (Str → Int) (ThD N) (fun h => .tuple ([(low (topN N R L h) (2 ^ mostN N R L)).1, (low (topN N R L h) (2 ^ mostN N R L)).2].map .int)) (zst st g) H0 f := by
  refine ⟨_, oc, od, fd, sl, ob, F, fun H v x h Q k hV hx kk => ?_⟩
  have l1 := pL.length_eq
  have l2 := ok.rl
  exact ⟨v, x, rfl, hid_some (k _ _ (hid_kind t hc (fun _ z => nomatch z))), tog_ok hV ok (roads_ev (pairs_in (hid_some (k _ _ he)) ((hP.same k).same hid_in)) (by omega)) (known_flip ok pL flip_refl) hx.1 (.refl _) hx.2 fun H' t2 s ht => kk H' t2 s (tog_show ok pL hx.2 ht)⟩
theorem ask_three (ob : base.get? f = some ⟨oc, od, .func fd, sl⟩) (F : FnR P w K mg base (L2.CX P w) 12 f (spA3 (spLeavings K C CV CE CH) q c' d)) (t : Strm H0 st g n) (hc : H0 c' = some (CodeO c' q)) (hd : hid (zst st g) H0 d = some (.dK (dOf N fun n => .int (h n)))) (hb : ∀ n ∈ N, 0 ≤ h n ∧ h n ≤ 10 ^ 15) (ok : SomeOk N R) :
    AskAt P w K mg base C N R (List Rd2) (ThL R) (fun L => rowsD (leftRows N R L h)) (zst st g) H0 f := by
  refine ⟨_, oc, od, fd, sl, ob, F, fun H v x L Q k hV hx kk => ?_⟩
  obtain ⟨⟨us, h1, h2⟩, pL⟩ := hx
  have l1 := pL.length_eq
  have l2 := ok.rl
  exact ⟨v, x, rfl, hid_some (k _ _ (hid_kind t hc (fun _ z => nomatch z))), leav_ok hV ok (roads_ev (pairs_in h1 h2) (by omega)) (known_flip ok pL flip_refl) (hid_some (k _ _ hd)) (.refl _) hb fun H' d2 g2 s n2 la => kk H' d2 s (left_show ok hb la)⟩
end
end K80
namespace K80
open PySem PySem.Spec PyProof.Rows L2
open LamX (ExtN Tabs TabS TabB CodeO)
open NdefX (NF NScope startF envF ncx nscope_by)
abbrev qLawL : Str := (envOfC "law" (defScope s_law) 0 0 .none).qual ++ "<lambda>"
def spLaw (K : PySem.W.Frag) (TT : List (Addr × Str)) : Sp := fun vs H Q _ => ∃ (a : Addr) (ns : List Int), vs = [.ref a] ∧ SqL K H a (ns.map V.int) ∧ ns.length ≤ 1000 ∧ Tabs TT H ∧ ∀ H', Q (.bl true) H'
theorem tIf_both {tA : TT} {ta tb : TE} {σ : L2.St} {H : Hp} {Q : VK} (Pr : VK → Prop) (hc : ∀ K : Bool → Hp → Prop, (∀ c, K c H) → tA σ H K) (ha : ∀ Q, Pr Q → ta σ H Q) (hb : ∀ Q, Pr Q → tb σ H Q) (hq : Pr Q) : tIf tA ta tb σ H Q :=
  hc _ fun c => by
    cases c with
    | true => exact iteT (ha _ hq)
    | false => exact iteF (hb _ hq)
theorem AskAt.re {P : Program} {w : World} {K : PySem.W.Frag} {mg : Str → Option Value} {base : Heap} {C : Addr} {N : List Str} {R : List Rd2} {γ : Type} {Th : Hp → Addr → γ → Prop} {D D2 : γ → PyData} {Z : Addr → Bool} {H0 : Hp} {f : Addr} (e : ∀ c, D c = D2 c) (h : AskAt P w K mg base C N R γ Th D Z H0 f) : AskAt P w K mg base C N R γ Th D2 Z H0 f := by
  obtain rfl : D = D2 := funext e
  exact h
/-- what a turn knows -/
structure LawAt (C : Addr) (Z : Addr → Bool) (H : Hp) (p v e D d0 d1 : Addr) (N : List Str) (R L : List Rd2) (us : List Addr) (h0 h1 : Str → Int) : Prop where
  sm : SomeAt (hid Z H) p N R
  va : ValAt C (hid Z H) v N R
  ev : hid Z H e = some (.lst (us.map V.ref))
  pr : PairsAt (hid Z H) us L
  rw : hid Z H D = some (.lst [.ref d0, .ref d1])
  t0 : hid Z H d0 = some (.dK (dOf N fun n => .int (h0 n)))
  t1 : hid Z H d1 = some (.dK (dOf N fun n => .int (h1 n)))
theorem LawAt.kx {C : Addr} {Z : Addr → Bool} {H H' : Hp} {p v e D d0 d1 : Addr} {N : List Str} {R L : List Rd2} {us : List Addr} {h0 h1 : Str → Int} (a : KX Z H H') (h : LawAt C Z H p v e D d0 d1 N R L us h0 h1) : LawAt C Z H' p v e D d0 d1 N R L us h0 h1 :=
  ⟨some_kx a h.sm, valAt_kx a h.va, a _ _ h.ev (fun _ z => by cases z) (fun _ z => by cases z), pairs_kx a h.pr, a _ _ h.rw (fun _ z => by cases z) (fun _ z => by cases z), a _ _ h.t0 (fun _ z => by cases z) (fun _ z => by cases z), a _ _ h.t1 (fun _ z => by cases z) (fun _ z => by cases z)⟩
theorem KX.put {Z : Addr → Bool} {H H' : Hp} {q : Addr} {o : HO} (a : KX Z H H') (n : H q = none) : KX Z H (upd H' q o) := fun b u h n1 n2 => by
  have k := a b u h n1 n2
  refine hid_of ?_ (hid_not h)
  rw [upd_ne (ne_of_none (hid_some h) n)]
  exact hid_some k
section
variable {P : Program} {w : World} {K : PySem.W.Frag} {mg : Str → Option Value} {base : Heap}
theorem ok_law (T : Txt K mg) (Z : Errs P K mg T) (Ct : Cat K Z.CV Z.CE Z.CH) {TT : List (Addr × Str)} {cR pR cL pL : Addr} (TBR : TabB base mg cR pR) (FR : CodeAt K "_law_refused_right" s_law_refused_right T.law_refused_right.f T.law_refused_right.fd cR) (hmR : (pR, qRef) ∈ TT) (huR : ∀ p ∈ TT, p.1 = pR → p.2 = qRef)
    (TBL : TabB base mg cL pL) (FL : CodeAt K "law" s_law T.law.f T.law.fd cL) (hmL : (pL, qLawL) ∈ TT) (huL : ∀ p ∈ TT, p.1 = pL → p.2 = qLawL) : FnG P w K mg base CX0 22 T.law.f T.law.fd ["_law_script"] (spLaw K TT) := by
  have G_law_start : FnOk P w K mg base CX0 1 T.law_start.f T.law_start.fd ["_law_script"] (spStart K) := ok_start T
  have G_law_f_valley : FnOk P w K mg base CX0 4 T.law_f_valley.f T.law_f_valley.fd ["_law_stream", "_law_least", "_law_most"] spFValley := ok_f_valley T
  have G_law_f_made : FnOk P w K mg base CX0 6 T.law_f_made.f T.law_f_made.fd ["_law_stream", "_law_some"] (spMade T.C) := ok_f_made T
  have G_law_mixed : FnOk P w K mg base CX0 2 T.law_mixed.f T.law_mixed.fd ["_law_stream", "_law_things"] (spMixed K) := ok_mixed T
  have G_law_heaps : FnOk P w K mg base CX0 3 T.law_heaps.f T.law_heaps.fd ["_law_stream", "_law_names"] spHeaps := ok_heaps T
  have G_law_one_right : FnG P w K mg base CX0 20 T.law_one_right.f T.law_one_right.fd ["_law_stream", "_law_some", "_law_valley", "_law_evening", "_law_heaps_here"] (spOneRight K T.C) := ok_one_right T Z
  have G_law_refused_right : FnOk P w K mg base CX0 20 T.law_refused_right.f T.law_refused_right.fd ["_law_stream", "_law_some", "_law_valley", "_law_evening"] (spRefused K T.C TT) := ok_refused T Z Ct TBR FR hmR huR
  refine okG FL.ex sc_law (fun vs H Q E h => ?_) (fun A outer s H vs Q E hgd hr h => ?_)
  · obtain ⟨a, ns, rfl, _⟩ := h
    rfl
  · obtain ⟨a, ns, rfl, hs, hz, hT, k⟩ := h
    -- slots: 0 _law_script, 1 _law_stream*, 2 _law_turn, 3 _law_some*, 4 _law_valley, 5 _law_evening*, 6 _law_rows, 7 _law_heaps_here*, 8 _law_asks, 9 _law_more, 10 _law_k
    refine ⟨_, (pss_cons (ps_set (i := 1) sc_law.nd rfl (Or.inr rfl) (pe_call G_law_start (hr.mono (by decide)) rfl T.law_start.mgx T.law_start.F.kp T.law_start.b .nil pass0 (pa_cons (pv 0) pa_nil)))
    (pss_cons (ps_for PassesOwn.never rfl (pi_range1 (by rfl) T.n_range (pa_cons pe_int pa_nil)) (pg_name (i := 2) sc_law.nd rfl (Or.inl rfl))
      (pss_cons (ps_set (i := 3) sc_law.nd rfl (Or.inr rfl) (pe_ifExp (pt_cmpR op_lt (pv 2) pe_int (nomark _)) (pe_call G_law_f_valley (hr.mono (by decide)) rfl T.law_f_valley.mgx T.law_f_valley.F.kp T.law_f_valley.b .nil pass0 (pa_cons (pv 1) (pa_cons pe_int (pa_cons pe_int pa_nil)))) (pe_call G_law_f_valley (hr.mono (by decide)) rfl T.law_f_valley.mgx T.law_f_valley.F.kp T.law_f_valley.b .nil pass0 (pa_cons (pv 1) (pa_cons pe_int (pa_cons pe_int pa_nil))))))
    (pss_cons (ps_asg (pe_tup (pa_cons (pe_call G_law_f_made (hr.mono (by decide)) rfl T.law_f_made.mgx T.law_f_made.F.kp T.law_f_made.b .nil pass0 (pa_cons (pv 1) (pa_cons (pv 3) pa_nil))) (pa_cons (pe_call G_law_mixed (hr.mono (by decide)) rfl T.law_mixed.mgx T.law_mixed.F.kp T.law_mixed.b .nil pass0 (pa_cons (pv 1) (pa_cons (pe_ix ix_tup (pv 3) pe_int (fun _ _ => rfl)) pa_nil))) pa_nil))) (pg_tup rfl (pgs_cons (pg_name (i := 4) sc_law.nd rfl (Or.inl rfl)) (pgs_cons (pg_name (i := 5) sc_law.nd rfl (Or.inr rfl)) pgs_nil))))
    (pss_cons (ps_setLc (i := 6) (own := [("_law_k", 10)]) (g := gName 10) (tt := tYes) rfl sc_law.nd rfl rfl (sw_true rfl rfl rfl (by decide +kernel)) (pi_range1 (by rfl) T.n_range (pa_cons pe_int pa_nil)) (blkOk_by (N := N_law) (own := [("_law_k", 10)]) (sc := defScope s_law) (by decide +kernel)) (fun _ _ _ _ _ => (pg_name (i := 10) sc_law.nd rfl (Or.inl rfl))) (fun _ _ _ _ _ => pts_nil) (fun _ _ _ _ _ => (pe_call G_law_heaps (hr.mono (by decide)) rfl T.law_heaps.mgx T.law_heaps.F.kp T.law_heaps.b .nil pass0 (pa_cons (pv 1) (pa_cons (pe_ix (ix_tupK (K := K) rfl) (pv 3) pe_int (fun _ _ => rfl)) pa_nil)))))
    (pss_cons (ps_for PassesOwn.never rfl (pi_list (pe_op op_cat (pv 6) (pe_slice sl_list (pv 6) po_none (po_some pe_int)))) (pg_name (i := 7) sc_law.nd rfl (Or.inr rfl))
      (pss_one (ps_if (pt_not (pt_val (pe_callG G_law_one_right hgd (hr.mono (by decide)) rfl T.law_one_right.mgx T.law_one_right.F.kp T.law_one_right.b pass0 (pa_cons (pv 1) (pa_cons (pv 3) (pa_cons (pv 4) (pa_cons (pv 5) (pa_cons (pv 7) pa_nil)))))))) (pss_one (ps_ret pe_bl)) pss_nil)))
    (pss_cons (ps_set (i := 8) sc_law.nd rfl (Or.inl rfl) (pe_lst (pa_cons (pe_lamT TBL rfl hmL huL (NdefX.ndef_free (sc := defScope s_law) (fr := []) (by decide +kernel)) rfl) pa_nil)))
    (pss_cons (ps_expr (pe_bm PySem.F.plainAttrs_list PySem.F.slot_list_append PySem.F.type_list_append mt_append (pv 8) (pa_cons (pe_lamT TBL rfl hmL huL (NdefX.ndef_free (sc := defScope s_law) (fr := []) (by decide +kernel)) rfl) pa_nil)))
    (pss_cons (ps_if (PW.pt (pw_or (pt_not (pt_val (pe_big (k := 16) (fd := T.law_f_in_turns.fd) (ps := ["_law_stream", "_law_some", "_law_asks", "_law_things"]) (fun _ => rfl) hgd (hr.mono (by decide)) rfl T.law_f_in_turns.mgx T.law_f_in_turns.F.kp T.law_f_in_turns.b (pa_cons (pv 1) (pa_cons (pv 3) (pa_cons (pv 8) (pa_cons (pv 6) pa_nil))))))) (pw_or1 (pt_not (pt_val (pe_call G_law_refused_right (hr.mono (by decide)) rfl T.law_refused_right.mgx T.law_refused_right.F.kp T.law_refused_right.b .nil pass0 (pa_cons (pv 1) (pa_cons (pv 3) (pa_cons (pv 4) (pa_cons (pv 5) pa_nil)))))))))) (pss_one (ps_ret pe_bl)) pss_nil)
    (pss_cons (ps_asg (pe_tup (pa_cons (pe_ix ix_list (pv 6) pe_int (fun _ _ => rfl)) (pa_cons (pe_lst (pa_cons (pe_lamT TBL rfl hmL huL (NdefX.ndef_free (sc := defScope s_law) (fr := []) (by decide +kernel)) rfl) pa_nil)) pa_nil))) (pg_tup rfl (pgs_cons (pg_name (i := 7) sc_law.nd rfl (Or.inr rfl)) (pgs_cons (pg_name (i := 9) sc_law.nd rfl (Or.inl rfl)) pgs_nil))))
    (pss_one (ps_if (pt_not (pt_val (pe_big (k := 16) (fd := T.law_f_in_turns.fd) (ps := ["_law_stream", "_law_some", "_law_asks", "_law_things"]) (fun _ => rfl) hgd (hr.mono (by decide)) rfl T.law_f_in_turns.mgx T.law_f_in_turns.F.kp T.law_f_in_turns.b (pa_cons (pv 1) (pa_cons (pv 3) (pa_cons (pv 9) (pa_cons (pe_lst (pa_cons (pv 5) (pa_cons (pe_call G_law_mixed (hr.mono (by decide)) rfl T.law_mixed.mgx T.law_mixed.F.kp T.law_mixed.b .nil pass0 (pa_cons (pv 1) (pa_cons (pe_ix ix_tup (pv 3) pe_int (fun _ _ => rfl)) pa_nil))) pa_nil))) pa_nil))))))) (pss_one (ps_ret pe_bl)) pss_nil)))))))))))
    (pss_one (ps_ret pe_bl)))), ?_⟩
    refine ⟨_, rfl, a, ns, rfl, hs, hz, fun H1 st g s1 nst ng t1 => ?_⟩
    have T1 : Tabs TT H1 := hT.ext s1
    refine ⟨3, rfl, by decide, by decide, ?_⟩
    refine for_range (lo := 0) (n := 3) (fun i σ H' => Strm H' st g (20000 * i) ∧ Tabs TT H' ∧ ∃ o2 o3 o4 o5 o6 o7 o8 o9 : Option V, σ = [some (.ref a), some (.ref st), o2, o3, o4, o5, o6, o7, o8, o9, none]) ⟨t1.mono (by omega), T1, _, _, _, _, _, _, _, _, rfl⟩ ?_ (fun σ H' pv => ?_)
    rotate_left
    · obtain ⟨t2, T2, o2, o3, o4, o5, o6, o7, o8, o9, rfl⟩ := pv
      exact k H'
    rintro i σ H2 hi ⟨t2, T2, o2, o3, o4, o5, o6, o7, o8, o9, rfl⟩
    have i0 : ∀ {x y : V}, atI [x, y] 0 = some x := fun {x y} => atI_nat (j := 0) rfl
    have at0 : ∀ {x y z : V}, atI [x, y, z] 0 = some x := fun {x y z} => atI_nat (j := 0) rfl
    have at1 : ∀ {x y z : V}, atI [x, y, z] 1 = some y := fun {x y z} => atI_nat (j := 1) rfl
    -- a valley
    refine tIf_both (fun Q => ∀ (H3 : Hp) (p : Addr) (N : List Str) (R : List Rd2), KpZ (zst st g) H2 H3 → Strm H3 st g (20000 * i + 1000) → SomeAt (hid (zst st g) H3) p N R → SomeOk N R → Q (.ref p) H3) (fun K' hK => ⟨_, rfl, _, _, rfl, rfl, _, rfl, hK _⟩) (fun Q2 h2 => ⟨_, rfl, st, g, _, 1, 9, rfl, t2, by omega, by decide, by decide, by decide, h2⟩) (fun Q2 h2 => ⟨_, rfl, st, g, _, 9, 60, rfl, t2, by omega, by decide, by decide, by decide, h2⟩) ?_
    intro H3 p N R k3 t3 sA sO
    have nz := sO.nz
    have rl := sO.rl
    refine ⟨_, rfl, _, rfl, st, g, p, _, N, R, rfl, t3, by omega, sA, sO, fun H4 v k4 t4 hV4 nr4 => ?_⟩
    obtain ⟨an, ao, ad, us0, hs0, v1, v3, v5, v7, _⟩ := sA.ex
    have lu0 : us0.length = R.length := Paired.length v7
    refine ⟨_, rfl, _, rfl, p, _, _, _, rfl, rfl, SqT.of (hid_some (k4 _ _ v1)), at1, st, g, ao, _, us0.map V.ref, rfl, t4, by rw [List.length_map]; omega, .inl (SqL.of (hid_some (k4 _ _ v5))), by rw [List.length_map]; omega, fun H5 e ys k5 f5 z5 t5 e5 pm5 => ?_⟩
    obtain ⟨us, rfl, pmu⟩ := perm_refs pm5
    obtain ⟨L, hL5, pL⟩ := paired_perm pmu (PairsAt.same (k4.trans k5) v7)
    rw [List.length_map, lu0] at t5
    refine ⟨show 2 ≤ sizeLine by decide, fun tp etp => ?_⟩
    have k56 : KpZ (zst st g) H5 (upd H5 tp (.tup [.ref v, .ref e])) := .of (same_new etp)
    have t6 := t5.new (o := .tup [.ref v, .ref e]) etp
    have q6 : upd H5 tp (.tup [.ref v, .ref e]) tp = some (.tup [.ref v, .ref e]) := upd_same
    generalize upd H5 tp (.tup [.ref v, .ref e]) = H6 at k56 t6 q6 ⊢
    refine ⟨tp, _, rfl, SqT.of q6, rfl, _, _, rfl, _, _, rfl, rfl, ?_⟩
    have k36 : KpZ (zst st g) H3 H6 := (k4.trans k5).trans k56
    -- two heaps
    refine ⟨2, rfl, by decide, by decide, fun D hD => ?_⟩
    have zD := zst_new t6 hD
    have dst : D ≠ st := fun z => by rw [z, zst_st] at zD; cases zD
    have dg : D ≠ g := fun z => by rw [z, zst_g] at zD; cases zD
    refine lcZ walk_range (zst st g) (fun j H' => Strm H' st g (20000 * i + 2000 + 100 * j)) (fun H' _ v => ∃ (d : Addr) (h : Str → Int), v = .ref d ∧ zst st g d = false ∧ d ≠ D ∧ H' d = some (.dK (dOf N fun n => .int (h n))) ∧ ∀ n ∈ N, 0 ≤ h n ∧ h n ≤ 10 ^ 15) hD zD (by decide)
      (fun H H' j v acc _ kb r => ?_) (fun _ H' o h => h.up dst dg) (fun H' e => trivial) (t6.mono (by omega)) ?_ ?_
    · obtain ⟨d, h, q1, q2, q3, q4, q5⟩ := r
      exact ⟨d, h, q1, q2, q3, kb _ _ q4 q2 q3, q5⟩
    · rintro j x H7 H8 acc Q2 hj k7 t7 d7 ⟨rfl, rfl⟩ q
      refine ⟨rfl, ?_⟩
      have kk := k36.trans k7
      refine ⟨_, rfl, _, rfl, p, _, _, _, rfl, rfl, SqT.of (hid_some (kk _ _ v1)), at0, st, g, an, _, N, rfl, t7, by omega, hid_some (kk _ _ v3), hid_not v3, sO.nd, nz, fun H9 d h k9 f9 z9 t9 h9 b9 => ?_⟩
      exact q _ _ k9 (t9.mono (by omega)) ⟨d, h, rfl, z9, fun z => (ne_of_none d7 f9) z.symm, h9, b9⟩
    intro H7 ys k7 t7 d7 ly rel
    obtain ⟨d0, d1, h0, h1, rfl, z0, q0, b0, z1, q1, b1⟩ : ∃ (d0 d1 : Addr) (h0 h1 : Str → Int), ys = [V.ref d0, V.ref d1] ∧ zst st g d0 = false ∧ H7 d0 = some (.dK (dOf N fun n => .int (h0 n))) ∧ (∀ n ∈ N, 0 ≤ h0 n ∧ h0 n ≤ 10 ^ 15) ∧ zst st g d1 = false ∧ H7 d1 = some (.dK (dOf N fun n => .int (h1 n))) ∧ (∀ n ∈ N, 0 ≤ h1 n ∧ h1 n ≤ 10 ^ 15) := by
      match ys, ly with
      | [y0, y1], _ =>
        obtain ⟨d0, h0, rfl, z0, _, q0, b0⟩ := rel 0 y0 rfl
        obtain ⟨d1, h1, rfl, z1, _, q1, b1⟩ := rel 1 y1 rfl
        exact ⟨d0, d1, h0, h1, rfl, z0, q0, b0, z1, q1, b1⟩
    have k37 := k36.trans k7
    have FA : LawAt T.C (zst st g) H7 p v e D d0 d1 N R L us h0 h1 := by
      have k47 := (k5.trans k56).trans k7
      refine ⟨sA.same k37, hV4.same k47, ?_, PairsAt.same (k56.trans k7) hL5, hid_of d7 zD, hid_of q0 z0, hid_of q1 z1⟩
      exact (k56.trans k7) _ _ (hid_of e5 z5)
    have T7 : Tabs TT H7 := tabs_kp t2 (k3.trans k37) T2
    -- the heaps in turn
    refine ⟨_, rfl, _, rfl, 1, rfl, D, _, rfl, SqL.of d7, fun m8 e8 => ?_⟩
    rw [cut_one]
    have k8 : KpZ (zst st g) H7 (upd H7 m8 (.lst ([.ref d0, .ref d1].take 1))) := .of (same_new e8)
    have t8 := t7.new (o := .lst ([.ref d0, .ref d1].take 1)) e8
    have q8 : upd H7 m8 (.lst ([.ref d0, .ref d1].take 1)) m8 = some (.lst ([.ref d0, .ref d1].take 1)) := upd_same
    generalize upd H7 m8 (.lst ([.ref d0, .ref d1].take 1)) = H8 at k8 t8 q8 ⊢
    refine ⟨D, m8, _, _, rfl, rfl, k8.at d7 zD, q8, show 2 + 1 ≤ sizeLine by decide, fun m9 e9 => ?_⟩
    have k9 : KpZ (zst st g) H8 (upd H8 m9 (.lst ([.ref d0, .ref d1] ++ [.ref d0, .ref d1].take 1))) := .of (same_new e9)
    have z9 := zst_new t8 e9
    have t9 := t8.new (o := .lst ([.ref d0, .ref d1] ++ [.ref d0, .ref d1].take 1)) e9
    have q9 : upd H8 m9 (.lst ([.ref d0, .ref d1] ++ [.ref d0, .ref d1].take 1)) m9 = some (.lst [.ref d0, .ref d1, .ref d0]) := upd_same
    generalize upd H8 m9 (.lst ([.ref d0, .ref d1] ++ [.ref d0, .ref d1].take 1)) = H9 at k9 t9 q9 ⊢
    have k79 := k8.trans k9
    have F9 := FA.kx (.kp k79)
    have T9 := tabs_kp t7 k79 T7
    refine ⟨m9, rfl, ⟨_, SqL.of q9⟩, ?_⟩
    refine for_list (K := K) (xs := [.ref d0, .ref d1, .ref d0]) (fun j σ H' => KpZ (zst st g) H9 H' ∧ Strm H' st g (20000 * i + 2200 + 500 * j) ∧ ∃ o7 : Option V, σ = [some (.ref a), some (.ref st), some (.int (0 + i)), some (.ref p), some (.ref v), some (.ref e), some (.ref D), o7, o8, o9, none]) ⟨KpZ.refl, t9.mono (by omega), _, rfl⟩ (fun j σ H' _ pv => SqL.of (pv.1.at q9 z9)) ?_ (fun σ H10 pv => ?_)
    · rintro j x σ H10 hx ⟨k10, t10, o7', rfl⟩
      have F10 := F9.kx (.kp k10)
      have hj : j < 3 := (List.getElem?_eq_some_iff.mp hx).1
      obtain ⟨d, h, rfl, hd, hb⟩ : ∃ (d : Addr) (h : Str → Int), x = .ref d ∧ H10 d = some (.dK (dOf N fun n => .int (h n))) ∧ ∀ n ∈ N, 0 ≤ h n ∧ h n ≤ 10 ^ 15 := by
        have m := List.mem_of_getElem? hx
        simp only [List.mem_cons, List.mem_nil_iff, or_false] at m
        rcases m with rfl | rfl | rfl
        · exact ⟨_, _, rfl, hid_some F10.t0, b0⟩
        · exact ⟨_, _, rfl, hid_some F10.t1, b1⟩
        · exact ⟨_, _, rfl, hid_some F10.t0, b0⟩
      refine ⟨_, rfl, _, rfl, _, rfl, _, rfl, _, rfl, st, g, p, v, e, d, _, N, R, L, us, h, rfl, t10, by omega, F10.sm, sO, F10.va, F10.ev, F10.pr, pL, hd, hb, fun H11 k11 t11 => ?_⟩
      refine ⟨_, rfl, iteF ?_⟩
      exact ⟨k10.trans k11, t11.mono (by omega), _, rfl⟩
    obtain ⟨k10, t10, o7', rfl⟩ := pv
    have F10 := F9.kx (.kp k10)
    have T10 := tabs_kp t9 k10 T9
    -- the asks
    refine ⟨T10, fun f1 c1 pm1 ctv1 H11 x11 T11 n11 o11 p11 => ?_⟩
    refine ⟨show 1 ≤ sizeLine by decide, fun l1 e12 => ?_⟩
    have s12 : Same H11 (upd H11 l1 (.lst [.ref f1])) := same_new e12
    have q12 : upd H11 l1 (.lst [.ref f1]) l1 = some (.lst [.ref f1]) := upd_same
    generalize upd H11 l1 (.lst [.ref f1]) = H12 at s12 q12 ⊢
    have T12 := T11.ext s12
    refine ⟨_, rfl, .inl ⟨rfl, _, SqL.of q12⟩, T12, fun f2 c2 pm2 ctv2 H13 x13 T13 n13 o13 p13 => ?_⟩
    have q13 : H13 l1 = some (.lst [.ref f1]) := x13 _ _ q12 (fun _ z => nomatch z)
    refine ⟨l1, _, _, rfl, rfl, q13, show 1 < sizeLine by decide, ?_⟩
    have F11 := F10.kx (.ext x11)
    have t11 : Strm H11 st g (20000 * i + 3700) := (strm_kx t10 fun b xs q => x11 _ _ q (fun _ z => nomatch z)).mono (show 20000 * i + 2200 + 500 * 3 ≤ _ by omega)
    have zl1 := zst_new t11 e12
    have l1st : l1 ≠ st := fun z => by rw [z, zst_st] at zl1; cases zl1
    have l1g : l1 ≠ g := fun z => by rw [z, zst_g] at zl1; cases zl1
    have t13 : Strm H13 st g (20000 * i + 3700) := strm_kx (t11.same s12) fun b xs q => x13 _ _ q (fun _ z => nomatch z)
    have t14 : Strm (upd H13 l1 (.lst ([.ref f1] ++ [.ref f2]))) st g (20000 * i + 3700) := t13.up l1st l1g
    have F14 : LawAt T.C (zst st g) (upd H13 l1 (.lst ([.ref f1] ++ [.ref f2]))) p v e D d0 d1 N R L us h0 h1 := F11.kx (((KX.kp (.of s12)).trans (.ext x13)).put e12)
    have T14 : Tabs TT (upd H13 l1 (.lst ([.ref f1] ++ [.ref f2]))) := tabs_mut T13 q13 (fun _ z => nomatch z) (fun _ z => nomatch z)
    have o14a : upd H13 l1 (.lst ([.ref f1] ++ [.ref f2])) f1 = some (ObjO f1 _) := (upd_ne (ne_of_none o11 e12)).trans (x13 _ _ (s12 _ _ o11) (fun _ z => nomatch z))
    have o14b : upd H13 l1 (.lst ([.ref f1] ++ [.ref f2])) f2 = some (ObjO f2 _) := (upd_ne (ne_of o13 q13 (fun z => nomatch z))).trans o13
    have p14a : upd H13 l1 (.lst ([.ref f1] ++ [.ref f2])) c1 = some (CodeO c1 _) := (upd_ne (ne_of_none p11 e12)).trans (x13 _ _ (s12 _ _ p11) (fun _ z => nomatch z))
    have p14b : upd H13 l1 (.lst ([.ref f1] ++ [.ref f2])) c2 = some (CodeO c2 _) := (upd_ne (ne_of p13 q13 (fun z => nomatch z))).trans p13
    have q14 : upd H13 l1 (.lst ([.ref f1] ++ [.ref f2])) l1 = some (.lst ([f1, f2].map V.ref)) := upd_same
    have f12 : f1 ≠ f2 := ne_of_none (s12 _ _ o11) n13
    generalize upd H13 l1 (.lst ([.ref f1] ++ [.ref f2])) = H14 at t14 F14 T14 o14a o14b p14a p14b q14 ⊢
    generalize hob1 : lamObj _ _ _ _ pm1 c1 ctv1 = ob1 at o14a
    generalize hob2 : lamObj _ _ _ _ pm2 c2 ctv2 = ob2 at o14b
    have AL : AllLam H14 [(f1, ob1), (f2, ob2)] := fun q hq => by
      simp only [List.mem_cons, List.mem_nil_iff, or_false] at hq
      rcases hq with rfl | rfl
      · exact ⟨o14a, _, _, _, _, _, _, _, _, _, hob1.symm⟩
      · exact ⟨o14b, _, _, _, _, _, _, _, _, _, hob2.symm⟩
    have FD : LawAt T.C (zst st g) (dropL H14 [(f1, ob1), (f2, ob2)]) p v e D d0 d1 N R L us h0 h1 := F14.kx (.drop AL)
    have TD := dropL_tabs AL T14
    have tD : Strm (dropL H14 [(f1, ob1), (f2, ob2)]) st g (20000 * i + 3700) := strm_kx t14 fun b xs q => dropL_of q (fun p hp => (AL p hp).1) (fun _ z => nomatch z)
    have qD : dropL H14 [(f1, ob1), (f2, ob2)] l1 = some (.lst ([f1, f2].map V.ref)) := dropL_of q14 (fun p hp => (AL p hp).1) (fun _ z => nomatch z)
    have pDa := dropL_code AL p14a
    have pDb := dropL_code AL p14b
    refine ⟨_, rfl, _, rfl, _, rfl, _, rfl, [(f1, ob1), (f2, ob2)], fun q hq => (AL q hq).1, fun base' KI hob B => ?_⟩
    have gb1 := hob (f1, ob1) List.mem_cons_self
    have gb2 := hob (f2, ob2) (List.mem_cons_of_mem _ List.mem_cons_self)
    rw [← hob1] at gb1
    rw [← hob2] at gb2
    refine ⟨_, ok_in_turns (base := base') T (D := fun f h => if f = f1 then rowsD (leftRows N R L h) else .tuple ([(low (topN N R L h) (2 ^ mostN N R L)).1, (low (topN N R L h) (2 ^ mostN N R L)).2].map .int)) (kind_dict T sO.nd (by omega)), ?_⟩
    have GL := ok_leavings (base := base') (w := w) T Z
    have GT := ok_left_together (base := base') (w := w) T Z
    have A1 : FnR P w K mg base' (L2.CX P w) 12 f1 (spA (spLeavings K T.C Z.CV Z.CE Z.CH) qLawL c1 e) := by
      refine lam_fn (N := ["_law_here", "_law_thing", "_law_evening"]) (ps := ["_law_here", "_law_thing"]) (fr := ["_law_evening"]) (ws := [some (.ref e)]) (k := 11) gb1 (nscope_by (by decide +kernel)) (fun us hl => match us, hl with | [_, _], _ => rfl) B rfl (fun y hy => by rw [List.mem_singleton.mp hy]; rfl) (fun vs H Q E q => ?_) (fun vs H Q E q => ?_) (fun A' outer' s' H' vs' Q' E' hr' q => ?_)
      · obtain ⟨v', x', rfl, _⟩ := q
        rfl
      · obtain ⟨v', x', rfl, h', _⟩ := q
        exact h'
      · obtain ⟨v', x', rfl, _, q⟩ := q
        exact ⟨_, pe_call GL (hr'.mono (by decide)) rfl T.leavings.mgx T.leavings.F.kp T.leavings.b .nil passL (pa_cons (pv 0) (pa_cons (pv 2) (pa_cons (pv 1) pa_nil))), _, rfl, _, rfl, _, rfl, q⟩
    have A2 : FnR P w K mg base' (L2.CX P w) 12 f2 (spA (spTogether K T.C Z.CV Z.CE Z.CH) qLawL c2 e) := by
      refine lam_fn (N := ["_law_there", "_law_given", "_law_evening"]) (ps := ["_law_there", "_law_given"]) (fr := ["_law_evening"]) (ws := [some (.ref e)]) (k := 11) gb2 (nscope_by (by decide +kernel)) (fun us hl => match us, hl with | [_, _], _ => rfl) B rfl (fun y hy => by rw [List.mem_singleton.mp hy]; rfl) (fun vs H Q E q => ?_) (fun vs H Q E q => ?_) (fun A' outer' s' H' vs' Q' E' hr' q => ?_)
      · obtain ⟨v', x', rfl, _⟩ := q
        rfl
      · obtain ⟨v', x', rfl, h', _⟩ := q
        exact h'
      · obtain ⟨v', x', rfl, _, q⟩ := q
        exact ⟨_, pe_call GT (hr'.mono (by decide)) rfl T.left_together.mgx T.left_together.F.kp T.left_together.b .nil passL (pa_cons (pv 0) (pa_cons (pv 2) (pa_cons (pv 1) pa_nil))), _, rfl, _, rfl, _, rfl, q⟩
    refine ⟨st, g, p, l1, D, _, N, R, [f1, f2], d0, d1, h0, h1, rfl, tD, by omega, FD.sm, sO, hid_of qD zl1, Nat.le_refl 2, FD.rw, ⟨FD.t0, b0⟩, ⟨FD.t1, b1⟩, fun f hf => ?_, fun H15 k15 t15 => ?_⟩
    · simp only [List.mem_cons, List.mem_nil_iff, or_false] at hf
      rcases hf with rfl | rfl
      · exact (ask_one gb1 A1 tD pDa FD.ev FD.pr sO pL).re fun h => (if_pos rfl).symm
      · exact (ask_two gb2 A2 tD pDb FD.ev FD.pr sO pL).re fun h => (if_neg (Ne.symm f12)).symm
    clear GL GT A1 A2 B gb1 gb2 hob KI
    have F15 := FD.kx (.kp k15)
    have T15 := tabs_kp tD k15 TD
    refine ⟨_, rfl, iteF ?_⟩
    have lL := pL.length_eq
    have ev15 : EvArg K H15 (.ref e) (some (L.map some)) := roads_ev (pairs_in (hid_some F15.ev) (F15.pr.same hid_in)) (by omega)
    refine ⟨_, rfl, _, rfl, _, rfl, _, rfl, .ref st, p, v, .ref e, N, R, L, some (L.map some), rfl, F15.sm.same hid_in, sO, F15.va.same hid_in, ev15, known_flip sO pL flip_refl, T15, fun H16 x16 T16 => ?_⟩
    have F16 := F15.kx (.ext x16)
    have t16 : Strm H16 st g (20000 * i + 8700) := (strm_kx t15 fun b xs q => x16 _ _ q (fun _ z => nomatch z)).mono (by omega)
    refine ⟨_, rfl, iteF ?_⟩
    -- the last ask
    refine ⟨_, rfl, D, _, _, _, rfl, rfl, SqL.of (hid_some F16.rw), i0, T16, fun f3 c3 pm3 ctv3 H17 x17 T17 n17 o17 p17 => ?_⟩
    refine ⟨show 1 ≤ sizeLine by decide, fun l3 e18 => ?_⟩
    have F17 := F16.kx (.ext x17)
    have t17 : Strm H17 st g (20000 * i + 8700) := strm_kx t16 fun b xs q => x17 _ _ q (fun _ z => nomatch z)
    have s18 : Same H17 (upd H17 l3 (.lst ([f3].map V.ref))) := same_new e18
    have q18 : upd H17 l3 (.lst ([f3].map V.ref)) l3 = some (.lst ([f3].map V.ref)) := upd_same
    have zl3 := zst_new t17 e18
    refine ⟨show 2 ≤ sizeLine by decide, fun tp2 e19 => ?_⟩
    change upd H17 l3 (.lst ([f3].map V.ref)) tp2 = none at e19
    show gTup _ _ _ _ _ (upd (upd H17 l3 (.lst ([f3].map V.ref))) tp2 (.tup [.ref d0, .ref l3])) _
    have s19 : Same H17 (upd (upd H17 l3 (.lst ([f3].map V.ref))) tp2 (.tup [.ref d0, .ref l3])) := s18.trans (same_new e19)
    have q19 : upd (upd H17 l3 (.lst ([f3].map V.ref))) tp2 (.tup [.ref d0, .ref l3]) l3 = some (.lst ([f3].map V.ref)) := same_new e19 _ _ q18
    have q19b : upd (upd H17 l3 (.lst ([f3].map V.ref))) tp2 (.tup [.ref d0, .ref l3]) tp2 = some (.tup [.ref d0, .ref l3]) := upd_same
    generalize upd (upd H17 l3 (.lst ([f3].map V.ref))) tp2 (.tup [.ref d0, .ref l3]) = H19 at s19 q19 q19b ⊢
    refine ⟨tp2, _, rfl, SqT.of q19b, rfl, _, _, rfl, _, _, rfl, rfl, ?_⟩
    have F19 := F17.kx (.kp (.of s19))
    have t19 := t17.same s19
    have T19 := T17.ext s19
    obtain ⟨an2, ao2, ad2, us2, hs2, w1, w3, w5, w7, _⟩ := F19.sm.ex
    have lu2 : us2.length = R.length := Paired.length w7
    refine ⟨_, rfl, _, rfl, _, rfl, _, rfl, _, rfl, _, rfl, p, _, _, _, rfl, rfl, SqT.of (hid_some w1), at1, st, g, ao2, _, us2.map V.ref, rfl, t19, by rw [List.length_map]; omega, .inl (SqL.of (hid_some w5)), by rw [List.length_map]; omega, fun H20 e2 ys k20 f20 z20 t20 e20 pm20 => ?_⟩
    obtain ⟨us3, rfl, pmu3⟩ := perm_refs pm20
    obtain ⟨Lb, hL20, pL2⟩ := paired_perm pmu3 (PairsAt.same k20 w7)
    rw [List.length_map, lu2] at t20
    refine ⟨show 2 ≤ sizeLine by decide, fun l5 e21 => ?_⟩
    have s21 : Same H20 (upd H20 l5 (.lst [.ref e, .ref e2])) := same_new e21
    have q21 : upd H20 l5 (.lst [.ref e, .ref e2]) l5 = some (.lst [.ref e, .ref e2]) := upd_same
    have zl5 := zst_new t20 e21
    generalize upd H20 l5 (.lst [.ref e, .ref e2]) = H21 at s21 q21 ⊢
    have k21 : KpZ (zst st g) H19 H21 := k20.trans (.of s21)
    have F21 := F19.kx (.kp k21)
    have t21 := t20.same s21
    have T21 := tabs_kp t19 k21 T19
    have o21 : H21 f3 = some (ObjO f3 _) := hid_some (k21 _ _ (hid_kind t19 (s19 _ _ o17) (fun _ z => nomatch z)))
    have p21 : H21 c3 = some (CodeO c3 _) := hid_some (k21 _ _ (hid_kind t19 (s19 _ _ p17) (fun _ z => nomatch z)))
    have q21b : H21 l3 = some (.lst ([f3].map V.ref)) := k21.at q19 zl3
    have e21b : hid (zst st g) H21 e2 = some (.lst (us3.map V.ref)) := (KpZ.of s21 : KpZ (zst st g) H20 H21) _ _ (hid_of e20 z20)
    have L21 : PairsAt (hid (zst st g) H21) us3 Lb := PairsAt.same (KpZ.of s21 : KpZ (zst st g) H20 H21) hL20
    generalize hob3 : lamObj _ _ _ _ pm3 c3 ctv3 = ob3 at o21
    have AL3 : AllLam H21 [(f3, ob3)] := fun q hq => by
      rw [List.mem_singleton] at hq
      rw [hq]
      exact ⟨o21, _, _, _, _, _, _, _, _, _, hob3.symm⟩
    have KD3 : KX (zst st g) H21 (dropL H21 [(f3, ob3)]) := .drop AL3
    have FE := F21.kx KD3
    have TE := dropL_tabs AL3 T21
    have tE : Strm (dropL H21 [(f3, ob3)]) st g (20000 * i + 8700 + R.length) := strm_kx t21 fun b xs q => dropL_of q (fun p hp => (AL3 p hp).1) (fun _ z => nomatch z)
    have pE := dropL_code AL3 p21
    have qE : dropL H21 [(f3, ob3)] l3 = some (.lst ([f3].map V.ref)) := dropL_of q21b (fun p hp => (AL3 p hp).1) (fun _ z => nomatch z)
    have qE2 : dropL H21 [(f3, ob3)] l5 = some (.lst [.ref e, .ref e2]) := dropL_of q21 (fun p hp => (AL3 p hp).1) (fun _ z => nomatch z)
    have eE := KD3 _ _ e21b (fun _ z => nomatch z) (fun _ z => nomatch z)
    have LE := pairs_kx KD3 L21
    refine ⟨[(f3, ob3)], fun q hq => (AL3 q hq).1, fun base' KI hob B => ?_⟩
    have gb3 := hob (f3, ob3) List.mem_cons_self
    rw [← hob3] at gb3
    have GL := ok_leavings (base := base') (w := w) T Z
    have A3 : FnR P w K mg base' (L2.CX P w) 12 f3 (spA3 (spLeavings K T.C Z.CV Z.CE Z.CH) qLawL c3 d0) := by
      refine lam_fn (N := ["_law_world", "_law_row", "_law_heaps_here"]) (ps := ["_law_world", "_law_row"]) (fr := ["_law_heaps_here"]) (ws := [some (.ref d0)]) (k := 11) gb3 (nscope_by (by decide +kernel)) (fun us hl => match us, hl with | [_, _], _ => rfl) B rfl (fun y hy => by rw [List.mem_singleton.mp hy]; rfl) (fun vs H Q E q => ?_) (fun vs H Q E q => ?_) (fun A' outer' s' H' vs' Q' E' hr' q => ?_)
      · obtain ⟨v', x', rfl, _⟩ := q
        rfl
      · obtain ⟨v', x', rfl, h', _⟩ := q
        exact h'
      · obtain ⟨v', x', rfl, _, q⟩ := q
        exact ⟨_, pe_call GL (hr'.mono (by decide)) rfl T.leavings.mgx T.leavings.F.kp T.leavings.b .nil passL (pa_cons (pv 0) (pa_cons (pv 1) (pa_cons (pv 2) pa_nil))), _, rfl, _, rfl, _, rfl, q⟩
    refine ⟨_, ok_in_turns (base := base') T (D := fun _ L => rowsD (leftRows N R L h0)) (kind_list T (R := R) (by omega)), ?_⟩
    refine ⟨st, g, p, l3, l5, _, N, R, [f3], e, e2, L, Lb, rfl, tE, by omega, FE.sm, sO, hid_of qE zl3, Nat.le_succ 1, hid_of qE2 zl5, ⟨⟨us, FE.ev, FE.pr⟩, pL⟩, ⟨⟨us3, eE, LE⟩, pL2⟩, fun f hf => ?_, fun H22 k22 t22 => ?_⟩
    · rw [List.mem_singleton] at hf
      rw [hf]
      exact ask_three gb3 A3 tE pE FE.t0 b0 sO
    have T22 := tabs_kp tE k22 TE
    refine ⟨_, rfl, iteF ?_⟩
    exact ⟨t22.mono (by omega), T22, _, _, _, _, _, _, _, _, rfl⟩
end
end K80
namespace K80
open PySem PySem.Spec PyProof.Rows L2
open LamX (ExtN Tabs TabS TabB CodeO)
/-! ### the end: the law is called where no repr runs -/
section
variable {P : Program} {w : World} {K : PySem.W.Frag} {mg mb : Str → Option Value} {k : Nat} {fa a : Addr} {cs : List (Addr × Addr)} {fd : FuncData} {x : Str} {sp : Sp} {s1 : Shared} {vs : List Value} {ns : List Int}
theorem end_call (KX : K.In s1.heap) (hN : s1.heap.Ns mainGlobals mg) (hB : s1.heap.Ns builtinsNs mb) (hBB : ∀ x : Str, x ≠ "__name__" → mb x = bootBuiltins x) (hL : s1.heap.NoLimit) (hG : s1.gens = #[])
    (tab : ∀ p ∈ cs, s1.heap.get? p.2 = some { cls := .none, data := .fields #[] }) (out : ∀ p ∈ cs, K.lookup p.2 = none) (cd : ∀ p ∈ cs, PySem.W.CodeHd s1.heap p.1 p.2)
    (bmod : ∃ (bm : Addr) (ob : Obj), mg "__builtins__" = some (.ref bm) ∧ bm ≠ builtinsNs ∧ s1.heap.get? bm = some ob ∧ ob.cls = .type "module" ∧ ob.dict = some builtinsNs ∧ ob.data = .plain)
    (scr : s1.heap.get? a = some { cls := .type "list", data := .seq vs.toArray }) (isI : IntsAre vs ns) (len : ns.length ≤ sizeLine) (room : Room k callerA)
    (F : ∀ base : Heap, K.In base → base.Ns mainGlobals mg → (∀ p ∈ cs, TabB base mg p.1 p.2) → FnG P w K mg base CX0 k fa fd [x] sp) (bind : ∀ (s : Shared) (u : Value), BindsTo s fd ⟨[u], []⟩ [(x, u)])
    (asks : ∀ H : Hp, (∀ p ∈ cs, H p.2 = some (.tbl #[])) → SqL K H a (ns.map V.int) → sp [.ref a] H (fun v _ => v = .bl true) fun _ _ _ => False) :
    codeAny (model P w) callerA (.call (.ref fa) ⟨[.ref a], []⟩) (fun r s' => r = .ok (.ret (.bool true)) ∧ OldK s1.heap s'.heap ∧ s'.os = s1.os ∧ AllBare s'.gens) s1 := by
  have hv := vals_ints isI
  have memT : ∀ p ∈ cs, p.2 ∈ cs.map (·.2) := fun p hp => List.mem_map.mpr ⟨p, hp, rfl⟩
  have tabA : ∀ b ∈ cs.map (·.2), s1.heap.get? b = some { cls := .none, data := .fields #[] } := fun b hb => by
    obtain ⟨p, hp, rfl⟩ := List.mem_map.mp hb
    exact tab p hp
  have nA : a ∉ cs.map (·.2) := fun z => by
    have q := (tabA a z).symm.trans scr
    cases q
  obtain ⟨H, hH⟩ : ∃ H : Hp, H = fun b => if b = a ∧ K.lookup a = none then some (.frz { cls := .type "list", data := .seq vs.toArray } (.lst (ns.map V.int))) else if b ∈ cs.map (·.2) then some (.tbl #[]) else none := ⟨_, rfl⟩
  have atT : ∀ b ∈ cs.map (·.2), H b = some (.tbl #[]) := fun b hb => by
    rw [hH]
    refine (if_neg fun z => nA ?_).trans (if_pos hb)
    rw [← z.1]
    exact hb
  have kinds : ∀ b u, H b = some u → (b = a ∧ K.lookup a = none ∧ u = .frz { cls := .type "list", data := .seq vs.toArray } (.lst (ns.map V.int))) ∨ (b ∈ cs.map (·.2) ∧ u = .tbl #[]) := fun b u e => by
    rw [hH] at e
    dsimp only at e
    split at e
    · rename_i z
      cases e
      exact .inl ⟨z.1, z.2, rfl⟩
    · split at e
      · rename_i z
        cases e
        exact .inr ⟨z, rfl⟩
      · cases e
  have seen : SqL K H a (ns.map V.int) := by
    cases q : K.lookup a with
    | none =>
      refine .inl (.inr ⟨{ cls := .type "list", data := .seq vs.toArray }, ?_⟩)
      rw [hH]
      exact if_pos ⟨rfl, q⟩
    | some o =>
      have e := (KX a o q).symm.trans scr
      cases e
      exact .inr ⟨_, vs.toArray, 0, q, rfl, rfl, rfl, by rw [List.size_toArray, isI.length]; exact len, by simpa using hv⟩
  have hok : HOk P w H s1.heap := fun b u e => by
    rcases kinds b u e with ⟨rfl, _, rfl⟩ | ⟨hb, rfl⟩
    · exact ⟨scr, by rw [List.length_map]; exact len, vs, 0, hv, scr⟩
    · exact tabA b hb
  -- what is not tracked
  have free : ∀ {b : Addr} {o : Obj}, s1.heap.get? b = some o → (∀ l n, o.data ≠ .seq l n) → o.data ≠ .fields #[] → H b = none := fun {b o} e h1 h2 => by
    cases q : H b with
    | none => rfl
    | some u =>
      rcases kinds b u q with ⟨rfl, _, _⟩ | ⟨hb, _⟩
      · rw [scr] at e
        cases e
        exact (h1 _ _ rfl).elim
      · rw [tabA b hb] at e
        cases e
        exact (h2 rfl).elim
  have ns_ : ∀ {b : Addr} {m : Str → Option Value}, s1.heap.Ns b m → (hidT s1.heap H).Ns b m := fun {b m} ⟨o, es, ep, e, d, r⟩ =>
    ⟨o, es, ep, hidT_get e (free e (fun l n z => by rw [d] at z; cases z) fun z => by rw [d] at z; cases z), d, r⟩
  have KB : K.In (hidT s1.heap H) := fun b o e => hidT_get (KX b o e) (by
    cases q : H b with
    | none => rfl
    | some u =>
      rcases kinds b u q with ⟨rfl, z, _⟩ | ⟨hb, _⟩
      · rw [z] at e
        cases e
      · obtain ⟨p, hp, rfl⟩ := List.mem_map.mp hb
        rw [out p hp] at e
        cases e)
  have TBs : ∀ p ∈ cs, TabB (hidT s1.heap H) mg p.1 p.2 := fun p hp => by
    have tp := tab p hp
    refine ⟨?_, ?_, fun z => ?_⟩
    · obtain ⟨o, us, file, tf, flags, tg, inF, text, tt, e1, r1, r2, r3, r4⟩ := cd p hp
      refine ⟨o, us, file, tf, flags, tg, inF, text, tt, hidT_get e1 (free e1 (fun l n z => ?_) fun z => ?_), r1, r2, r3, r4⟩
      · rw [r2] at z
        cases z
      · rw [r2] at z
        cases z
        simp at r3
    · obtain ⟨bm, ob, b1, b2, b3, b4, b5, b6⟩ := bmod
      refine ⟨bm, ob, b1, b2, fun q => ?_, fun q => ?_, hidT_get b3 (free b3 (fun l n z => ?_) fun z => ?_), b4, b5, b6⟩
      · obtain ⟨o, es, ep, e, d, _⟩ := hN
        rw [← q, b3] at e
        cases e
        rw [d] at b6
        cases b6
      · rw [q, tp] at b3
        cases b3
        cases b6
      · rw [b6] at z
        cases z
      · rw [b6] at z
        cases z
    · obtain ⟨o, es, ep, e, d, _⟩ := hN
      rw [z, tp] at e
      cases e
      cases d
  have e0 : Env0 P w K mg (hidT s1.heap H) callerA [] s1 H :=
    ⟨rfl, ⟨KB, ns_ hN, ⟨mb, ns_ hB, hBB⟩, let ⟨mc, h1, h2⟩ := hL; ⟨mc, ns_ h1, h2⟩⟩, fun b o e => of_hidT e, Nat.le_of_eq (hidT_size _ _), trivial, fun b hb => (nomatch (show b ∈ ([] : List Addr) from hb)), hok, .of_eq hG⟩
  refine codeAny_mono ((F _ KB (ns_ hN) TBs).run callerA [] s1 H ⟨[.ref a], []⟩ [.ref a] [.ref a] _ _ rfl room e0 (bind s1 (.ref a)) (.cons rfl .nil) (asks H (fun p hp => atT _ (memT p hp)) seen)) fun r s' h => ?_
  rcases r with e | fl
  · exact (show False from h).elim
  cases fl with
  | next => exact (show False from h).elim
  | brk => exact (show False from h).elim
  | cont => exact (show False from h).elim
  | ret u =>
    obtain ⟨v, H', os, bare, un, hok', rv, q⟩ := h
    obtain rfl : v = .bl true := q
    obtain rfl : u = Value.bool true := rv
    have keep : ∀ b o, b ∉ cs.map (·.2) → s1.heap.get? b = some o → s'.heap.get? b = some o := fun b o nb e => by
      cases q : H b with
      | none => exact un.keep b o e q (fun z => nomatch (show b ∈ ([] : List Addr) from z)) (fun z => nomatch z)
      | some u =>
        rcases kinds b u q with ⟨rfl, _, rfl⟩ | ⟨hb, _⟩
        · have e2 := (hok' b _ (un.frzs b _ _ q)).1
          rw [scr] at e
          rw [e2, ← e]
        · exact absurd hb nb
    have grow : ∀ b ∈ cs.map (·.2), ∃ more : Array Value, s'.heap.get? b = some { cls := .none, data := .fields more } := fun b hb => by
      obtain ⟨more, z⟩ := un.tbls b #[] (atT b hb)
      exact ⟨_, hok' b _ z⟩
    refine ⟨rfl, ⟨fun b o e => ?_, fun b o e => ?_⟩, os, bare⟩
    · by_cases hb : b ∈ cs.map (·.2)
      · obtain ⟨more, hm⟩ := grow b hb
        obtain ⟨p, hp, rfl⟩ := List.mem_map.mp hb
        rw [tab p hp] at e
        cases e
        exact .inr (.inl ⟨((cd p hp).tab (tab p hp)).isCodeTable, rfl, #[], more, rfl, by rw [Array.empty_append]; exact hm⟩)
      · exact .inl (keep b o hb e)
    · by_cases hb : b ∈ cs.map (·.2)
      · obtain ⟨more, hm⟩ := grow b hb
        exact ⟨_, hm⟩
      · exact ⟨o, keep b o hb e⟩
end
/-- what is known of the law behind the top -/
def LawKn (l : PySem.W.OpenLaw) (w : World) (K : PySem.W.Frag) (k : Nat) (x : Str) (mg : Str → Option Value) (fa : Addr) (h : Heap) : Prop :=
  ∃ (fd : FuncData) (cs : List (Addr × Addr)) (sp : Sp), (∀ p ∈ cs, h.get? p.2 = some { cls := .none, data := .fields #[] }) ∧ (∀ p ∈ cs, K.lookup p.2 = none) ∧ (∀ p ∈ cs, PySem.W.CodeHd h p.1 p.2) ∧ (∀ (s : Shared) (u : Value), BindsTo s fd ⟨[u], []⟩ [(x, u)]) ∧
    (∀ (H : Hp) (a : Addr) (ns : List Int), ns.length ≤ 63 → (∀ p ∈ cs, H p.2 = some (.tbl #[])) → SqL K H a (ns.map V.int) → sp [.ref a] H (fun v _ => v = .bl true) fun _ _ _ => False) ∧
    ∀ base : Heap, K.In base → base.Ns mainGlobals mg → (∀ p ∈ cs, TabB base mg p.1 p.2) → FnG l.prog w K mg base CX0 k fa fd [x] sp
theorem walk80 {l : PySem.W.OpenLaw} {k : Nat} {q : Program} {loose : List Str} {XP : (Str → Option Value) → Heap → Prop} {YP : World → Heap → Prop} {d : DefRec} {K : Params → PySem.W.Frag} {x : Str} (hn : l.most = some 63) (hdf : d.params.defaults = []) (room : Room k callerA) (hY : ∀ (w : World) (h : Heap), YP w h → (K w.params).In h)
    (F : ∀ (w : World) (mg : Str → Option Value) (fa : Addr) (h : Heap), YP w h → (K w.params).In h → h.Ns mainGlobals mg → mg d.name = some (.ref fa) → LawKn l w (K w.params) k x mg fa h) : PySem.W.WalkO q loose XP YP l.row.toRowW d [] (fun f vs => PySem.call f vs) := by
  refine Att.attach_callB hn hdf fun w s0 s1 mg mb fa o pm cd doc a vs ns G Y _ _ _ hmg scr isI len _ gens => ?_
  obtain ⟨fd, cs, sp, tab, out, hcd, bind, asks, fn⟩ := F w mg fa _ Y (hY w _ Y) G.T.g hmg
  exact end_call (hY w _ Y) G.T.g G.T.b G.T.builtins G.T.nolimit gens tab out hcd G.T.bmain scr isI (Nat.le_trans len (by decide)) room fn bind fun H h1 h2 => asks H a ns len h1 h2
end K80
namespace K80
open PySem PySem.Spec PyProof.Rows L2
open LamX (ExtN Tabs TabS TabB CodeO)
/-! ### the text behind the top, from the written part -/
def dn_mk {K : PySem.W.Frag} {h : Heap} {mg : Str → Option Value} {x : Str} {st : Stmt} {ps : List Str} {f : Addr} {oc : Value} {od an : Option Addr} {osl : Array (Option Value)} {kV doc pm cdv ct : Value} (X : K.In h) (G : h.Ns mainGlobals mg) (a : PySem.W.nsIn K mainGlobals x = some (some (.ref f)))
    (l : K.lookup f = some ⟨oc, od, .func (PySem.W.fnOf x x (defArgs st) (defBody st) (defScope st) .none kV doc pm an cdv ct), osl⟩) (c : PySem.W.codeIn K cdv x = true) (k : PySem.W.keepIn K (.ref f) = true)
    (b : ∀ (kV doc pm : Value) (an : Option Addr) (cdv ct : Value) (us : List Value), us.length = ps.length → bindArgs (PySem.W.fnOf x x (defArgs st) (defBody st) (defScope st) .none kV doc pm an cdv ct) ⟨us, []⟩ = pure (ps.zip us)) : Dn K mg x st ps :=
  ⟨f, _, fun_mk l c k, PySem.W.mg_of X G a, (fun_mk l c k).binds b⟩
theorem bd_is_list : ∀ (kV doc pm : Value) (an : Option Addr) (cdv ct : Value) (us : List Value), us.length = (["thing"] : List Str).length → bindArgs (PySem.W.fnOf "is_list" "is_list" (defArgs s_is_list) (defBody s_is_list) (defScope s_is_list) .none kV doc pm an cdv ct) ⟨us, []⟩ = pure ((["thing"] : List Str).zip us) :=
  fun _ _ _ _ _ _ us hl => match us, hl with | [_], _ => rfl
theorem bd_is_whole : ∀ (kV doc pm : Value) (an : Option Addr) (cdv ct : Value) (us : List Value), us.length = (["thing"] : List Str).length → bindArgs (PySem.W.fnOf "is_whole" "is_whole" (defArgs s_is_whole) (defBody s_is_whole) (defScope s_is_whole) .none kV doc pm an cdv ct) ⟨us, []⟩ = pure ((["thing"] : List Str).zip us) :=
  fun _ _ _ _ _ _ us hl => match us, hl with | [_], _ => rfl
theorem bd_is_number : ∀ (kV doc pm : Value) (an : Option Addr) (cdv ct : Value) (us : List Value), us.length = (["thing"] : List Str).length → bindArgs (PySem.W.fnOf "is_number" "is_number" (defArgs s_is_number) (defBody s_is_number) (defScope s_is_number) .none kV doc pm an cdv ct) ⟨us, []⟩ = pure ((["thing"] : List Str).zip us) :=
  fun _ _ _ _ _ _ us hl => match us, hl with | [_], _ => rfl
theorem bd_is_positive : ∀ (kV doc pm : Value) (an : Option Addr) (cdv ct : Value) (us : List Value), us.length = (["thing"] : List Str).length → bindArgs (PySem.W.fnOf "is_positive" "is_positive" (defArgs s_is_positive) (defBody s_is_positive) (defScope s_is_positive) .none kV doc pm an cdv ct) ⟨us, []⟩ = pure ((["thing"] : List Str).zip us) :=
  fun _ _ _ _ _ _ us hl => match us, hl with | [_], _ => rfl
theorem bd_is_name : ∀ (kV doc pm : Value) (an : Option Addr) (cdv ct : Value) (us : List Value), us.length = (["thing"] : List Str).length → bindArgs (PySem.W.fnOf "is_name" "is_name" (defArgs s_is_name) (defBody s_is_name) (defScope s_is_name) .none kV doc pm an cdv ct) ⟨us, []⟩ = pure ((["thing"] : List Str).zip us) :=
  fun _ _ _ _ _ _ us hl => match us, hl with | [_], _ => rfl
theorem bd_is_among : ∀ (kV doc pm : Value) (an : Option Addr) (cdv ct : Value) (us : List Value), us.length = (["known", "thing"] : List Str).length → bindArgs (PySem.W.fnOf "is_among" "is_among" (defArgs s_is_among) (defBody s_is_among) (defScope s_is_among) .none kV doc pm an cdv ct) ⟨us, []⟩ = pure ((["known", "thing"] : List Str).zip us) :=
  fun _ _ _ _ _ _ us hl => match us, hl with | [_, _], _ => rfl
theorem bd_lowest : ∀ (kV doc pm : Value) (an : Option Addr) (cdv ct : Value) (us : List Value), us.length = (["top", "bottom"] : List Str).length → bindArgs (PySem.W.fnOf "lowest" "lowest" (defArgs s_lowest) (defBody s_lowest) (defScope s_lowest) .none kV doc pm an cdv ct) ⟨us, []⟩ = pure ((["top", "bottom"] : List Str).zip us) :=
  fun _ _ _ _ _ _ us hl => match us, hl with | [_, _], _ => rfl
theorem bd_doubled : ∀ (kV doc pm : Value) (an : Option Addr) (cdv ct : Value) (us : List Value), us.length = (["times"] : List Str).length → bindArgs (PySem.W.fnOf "doubled" "doubled" (defArgs s_doubled) (defBody s_doubled) (defScope s_doubled) .none kV doc pm an cdv ct) ⟨us, []⟩ = pure ((["times"] : List Str).zip us) :=
  fun _ _ _ _ _ _ us hl => match us, hl with | [_], _ => rfl
theorem bd_checked_houses : ∀ (kV doc pm : Value) (an : Option Addr) (cdv ct : Value) (us : List Value), us.length = (["houses"] : List Str).length → bindArgs (PySem.W.fnOf "checked_houses" "checked_houses" (defArgs s_checked_houses) (defBody s_checked_houses) (defScope s_checked_houses) .none kV doc pm an cdv ct) ⟨us, []⟩ = pure ((["houses"] : List Str).zip us) :=
  fun _ _ _ _ _ _ us hl => match us, hl with | [_], _ => rfl
theorem bd_checked_roads : ∀ (kV doc pm : Value) (an : Option Addr) (cdv ct : Value) (us : List Value), us.length = (["names", "roads"] : List Str).length → bindArgs (PySem.W.fnOf "checked_roads" "checked_roads" (defArgs s_checked_roads) (defBody s_checked_roads) (defScope s_checked_roads) .none kV doc pm an cdv ct) ⟨us, []⟩ = pure ((["names", "roads"] : List Str).zip us) :=
  fun _ _ _ _ _ _ us hl => match us, hl with | [_, _], _ => rfl
theorem bd_checked_heads : ∀ (kV doc pm : Value) (an : Option Addr) (cdv ct : Value) (us : List Value), us.length = (["names", "heads"] : List Str).length → bindArgs (PySem.W.fnOf "checked_heads" "checked_heads" (defArgs s_checked_heads) (defBody s_checked_heads) (defScope s_checked_heads) .none kV doc pm an cdv ct) ⟨us, []⟩ = pure ((["names", "heads"] : List Str).zip us) :=
  fun _ _ _ _ _ _ us hl => match us, hl with | [_, _], _ => rfl
theorem bd_check_valley : ∀ (kV doc pm : Value) (an : Option Addr) (cdv ct : Value) (us : List Value), us.length = (["thing"] : List Str).length → bindArgs (PySem.W.fnOf "check_valley" "check_valley" (defArgs s_check_valley) (defBody s_check_valley) (defScope s_check_valley) .none kV doc pm an cdv ct) ⟨us, []⟩ = pure ((["thing"] : List Str).zip us) :=
  fun _ _ _ _ _ _ us hl => match us, hl with | [_], _ => rfl
theorem bd_road_in : ∀ (kV doc pm : Value) (an : Option Addr) (cdv ct : Value) (us : List Value), us.length = (["valley", "thing"] : List Str).length → bindArgs (PySem.W.fnOf "road_in" "road_in" (defArgs s_road_in) (defBody s_road_in) (defScope s_road_in) .none kV doc pm an cdv ct) ⟨us, []⟩ = pure ((["valley", "thing"] : List Str).zip us) :=
  fun _ _ _ _ _ _ us hl => match us, hl with | [_, _], _ => rfl
theorem bd_known_evening : ∀ (kV doc pm : Value) (an : Option Addr) (cdv ct : Value) (us : List Value), us.length = (["valley", "thing"] : List Str).length → bindArgs (PySem.W.fnOf "known_evening" "known_evening" (defArgs s_known_evening) (defBody s_known_evening) (defScope s_known_evening) .none kV doc pm an cdv ct) ⟨us, []⟩ = pure ((["valley", "thing"] : List Str).zip us) :=
  fun _ _ _ _ _ _ us hl => match us, hl with | [_, _], _ => rfl
theorem bd_checked_evening : ∀ (kV doc pm : Value) (an : Option Addr) (cdv ct : Value) (us : List Value), us.length = (["valley", "evening"] : List Str).length → bindArgs (PySem.W.fnOf "checked_evening" "checked_evening" (defArgs s_checked_evening) (defBody s_checked_evening) (defScope s_checked_evening) .none kV doc pm an cdv ct) ⟨us, []⟩ = pure ((["valley", "evening"] : List Str).zip us) :=
  fun _ _ _ _ _ _ us hl => match us, hl with | [_, _], _ => rfl
theorem bd_parts_by : ∀ (kV doc pm : Value) (an : Option Addr) (cdv ct : Value) (us : List Value), us.length = (["valley", "known"] : List Str).length → bindArgs (PySem.W.fnOf "parts_by" "parts_by" (defArgs s_parts_by) (defBody s_parts_by) (defScope s_parts_by) .none kV doc pm an cdv ct) ⟨us, []⟩ = pure ((["valley", "known"] : List Str).zip us) :=
  fun _ _ _ _ _ _ us hl => match us, hl with | [_, _], _ => rfl
theorem bd_feasts_by : ∀ (kV doc pm : Value) (an : Option Addr) (cdv ct : Value) (us : List Value), us.length = (["valley", "found"] : List Str).length → bindArgs (PySem.W.fnOf "feasts_by" "feasts_by" (defArgs s_feasts_by) (defBody s_feasts_by) (defScope s_feasts_by) .none kV doc pm an cdv ct) ⟨us, []⟩ = pure ((["valley", "found"] : List Str).zip us) :=
  fun _ _ _ _ _ _ us hl => match us, hl with | [_, _], _ => rfl
theorem bd_checked_shares : ∀ (kV doc pm : Value) (an : Option Addr) (cdv ct : Value) (us : List Value), us.length = (["valley", "evening", "heaps"] : List Str).length → bindArgs (PySem.W.fnOf "checked_shares" "checked_shares" (defArgs s_checked_shares) (defBody s_checked_shares) (defScope s_checked_shares) .none kV doc pm an cdv ct) ⟨us, []⟩ = pure ((["valley", "evening", "heaps"] : List Str).zip us) :=
  fun _ _ _ _ _ _ us hl => match us, hl with | [_, _, _], _ => rfl
theorem bd_leavings : ∀ (kV doc pm : Value) (an : Option Addr) (cdv ct : Value) (us : List Value), us.length = (["valley", "evening", "heaps"] : List Str).length → bindArgs (PySem.W.fnOf "leavings" "leavings" (defArgs s_leavings) (defBody s_leavings) (defScope s_leavings) .none kV doc pm an cdv ct) ⟨us, []⟩ = pure ((["valley", "evening", "heaps"] : List Str).zip us) :=
  fun _ _ _ _ _ _ us hl => match us, hl with | [_, _, _], _ => rfl
theorem bd_left_together : ∀ (kV doc pm : Value) (an : Option Addr) (cdv ct : Value) (us : List Value), us.length = (["valley", "evening", "heaps"] : List Str).length → bindArgs (PySem.W.fnOf "left_together" "left_together" (defArgs s_left_together) (defBody s_left_together) (defScope s_left_together) .none kV doc pm an cdv ct) ⟨us, []⟩ = pure ((["valley", "evening", "heaps"] : List Str).zip us) :=
  fun _ _ _ _ _ _ us hl => match us, hl with | [_, _, _], _ => rfl
theorem bd_law_start : ∀ (kV doc pm : Value) (an : Option Addr) (cdv ct : Value) (us : List Value), us.length = (["_law_script"] : List Str).length → bindArgs (PySem.W.fnOf "_law_start" "_law_start" (defArgs s_law_start) (defBody s_law_start) (defScope s_law_start) .none kV doc pm an cdv ct) ⟨us, []⟩ = pure ((["_law_script"] : List Str).zip us) :=
  fun _ _ _ _ _ _ us hl => match us, hl with | [_], _ => rfl
theorem bd_law_draw : ∀ (kV doc pm : Value) (an : Option Addr) (cdv ct : Value) (us : List Value), us.length = (["_law_stream", "_law_many"] : List Str).length → bindArgs (PySem.W.fnOf "_law_draw" "_law_draw" (defArgs s_law_draw) (defBody s_law_draw) (defScope s_law_draw) .none kV doc pm an cdv ct) ⟨us, []⟩ = pure ((["_law_stream", "_law_many"] : List Str).zip us) :=
  fun _ _ _ _ _ _ us hl => match us, hl with | [_, _], _ => rfl
theorem bd_law_pick : ∀ (kV doc pm : Value) (an : Option Addr) (cdv ct : Value) (us : List Value), us.length = (["_law_stream", "_law_things"] : List Str).length → bindArgs (PySem.W.fnOf "_law_pick" "_law_pick" (defArgs s_law_pick) (defBody s_law_pick) (defScope s_law_pick) .none kV doc pm an cdv ct) ⟨us, []⟩ = pure ((["_law_stream", "_law_things"] : List Str).zip us) :=
  fun _ _ _ _ _ _ us hl => match us, hl with | [_, _], _ => rfl
theorem bd_law_mixed : ∀ (kV doc pm : Value) (an : Option Addr) (cdv ct : Value) (us : List Value), us.length = (["_law_stream", "_law_things"] : List Str).length → bindArgs (PySem.W.fnOf "_law_mixed" "_law_mixed" (defArgs s_law_mixed) (defBody s_law_mixed) (defScope s_law_mixed) .none kV doc pm an cdv ct) ⟨us, []⟩ = pure ((["_law_stream", "_law_things"] : List Str).zip us) :=
  fun _ _ _ _ _ _ us hl => match us, hl with | [_, _], _ => rfl
theorem bd_law_same : ∀ (kV doc pm : Value) (an : Option Addr) (cdv ct : Value) (us : List Value), us.length = (["_law_found", "_law_due"] : List Str).length → bindArgs (PySem.W.fnOf "_law_same" "_law_same" (defArgs s_law_same) (defBody s_law_same) (defScope s_law_same) .none kV doc pm an cdv ct) ⟨us, []⟩ = pure ((["_law_found", "_law_due"] : List Str).zip us) :=
  fun _ _ _ _ _ _ us hl => match us, hl with | [_, _], _ => rfl
theorem bd_law_loose : ∀ (kV doc pm : Value) (an : Option Addr) (cdv ct : Value) (us : List Value), us.length = (["_law_stream", "_law_thing"] : List Str).length → bindArgs (PySem.W.fnOf "_law_loose" "_law_loose" (defArgs s_law_loose) (defBody s_law_loose) (defScope s_law_loose) .none kV doc pm an cdv ct) ⟨us, []⟩ = pure ((["_law_stream", "_law_thing"] : List Str).zip us) :=
  fun _ _ _ _ _ _ us hl => match us, hl with | [_, _], _ => rfl
theorem bd_law_f_names : ∀ (kV doc pm : Value) (an : Option Addr) (cdv ct : Value) (us : List Value), us.length = (["_law_stream", "_law_least", "_law_most"] : List Str).length → bindArgs (PySem.W.fnOf "_law_f_names" "_law_f_names" (defArgs s_law_f_names) (defBody s_law_f_names) (defScope s_law_f_names) .none kV doc pm an cdv ct) ⟨us, []⟩ = pure ((["_law_stream", "_law_least", "_law_most"] : List Str).zip us) :=
  fun _ _ _ _ _ _ us hl => match us, hl with | [_, _, _], _ => rfl
theorem bd_law_f_roads : ∀ (kV doc pm : Value) (an : Option Addr) (cdv ct : Value) (us : List Value), us.length = (["_law_stream", "_law_names"] : List Str).length → bindArgs (PySem.W.fnOf "_law_f_roads" "_law_f_roads" (defArgs s_law_f_roads) (defBody s_law_f_roads) (defScope s_law_f_roads) .none kV doc pm an cdv ct) ⟨us, []⟩ = pure ((["_law_stream", "_law_names"] : List Str).zip us) :=
  fun _ _ _ _ _ _ us hl => match us, hl with | [_, _], _ => rfl
theorem bd_law_f_valley : ∀ (kV doc pm : Value) (an : Option Addr) (cdv ct : Value) (us : List Value), us.length = (["_law_stream", "_law_least", "_law_most"] : List Str).length → bindArgs (PySem.W.fnOf "_law_f_valley" "_law_f_valley" (defArgs s_law_f_valley) (defBody s_law_f_valley) (defScope s_law_f_valley) .none kV doc pm an cdv ct) ⟨us, []⟩ = pure ((["_law_stream", "_law_least", "_law_most"] : List Str).zip us) :=
  fun _ _ _ _ _ _ us hl => match us, hl with | [_, _, _], _ => rfl
theorem bd_law_f_made : ∀ (kV doc pm : Value) (an : Option Addr) (cdv ct : Value) (us : List Value), us.length = (["_law_stream", "_law_some"] : List Str).length → bindArgs (PySem.W.fnOf "_law_f_made" "_law_f_made" (defArgs s_law_f_made) (defBody s_law_f_made) (defScope s_law_f_made) .none kV doc pm an cdv ct) ⟨us, []⟩ = pure ((["_law_stream", "_law_some"] : List Str).zip us) :=
  fun _ _ _ _ _ _ us hl => match us, hl with | [_, _], _ => rfl
theorem bd_law_f_parts : ∀ (kV doc pm : Value) (an : Option Addr) (cdv ct : Value) (us : List Value), us.length = (["_law_some", "_law_evening"] : List Str).length → bindArgs (PySem.W.fnOf "_law_f_parts" "_law_f_parts" (defArgs s_law_f_parts) (defBody s_law_f_parts) (defScope s_law_f_parts) .none kV doc pm an cdv ct) ⟨us, []⟩ = pure ((["_law_some", "_law_evening"] : List Str).zip us) :=
  fun _ _ _ _ _ _ us hl => match us, hl with | [_, _], _ => rfl
theorem bd_law_f_passed : ∀ (kV doc pm : Value) (an : Option Addr) (cdv ct : Value) (us : List Value), us.length = (["_law_stream", "_law_evening"] : List Str).length → bindArgs (PySem.W.fnOf "_law_f_passed" "_law_f_passed" (defArgs s_law_f_passed) (defBody s_law_f_passed) (defScope s_law_f_passed) .none kV doc pm an cdv ct) ⟨us, []⟩ = pure ((["_law_stream", "_law_evening"] : List Str).zip us) :=
  fun _ _ _ _ _ _ us hl => match us, hl with | [_, _], _ => rfl
theorem bd_law_f_handed : ∀ (kV doc pm : Value) (an : Option Addr) (cdv ct : Value) (us : List Value), us.length = (["_law_stream", "_law_known"] : List Str).length → bindArgs (PySem.W.fnOf "_law_f_handed" "_law_f_handed" (defArgs s_law_f_handed) (defBody s_law_f_handed) (defScope s_law_f_handed) .none kV doc pm an cdv ct) ⟨us, []⟩ = pure ((["_law_stream", "_law_known"] : List Str).zip us) :=
  fun _ _ _ _ _ _ us hl => match us, hl with | [_, _], _ => rfl
theorem bd_law_f_low : ∀ (kV doc pm : Value) (an : Option Addr) (cdv ct : Value) (us : List Value), us.length = (["_law_top", "_law_bottom"] : List Str).length → bindArgs (PySem.W.fnOf "_law_f_low" "_law_f_low" (defArgs s_law_f_low) (defBody s_law_f_low) (defScope s_law_f_low) .none kV doc pm an cdv ct) ⟨us, []⟩ = pure ((["_law_top", "_law_bottom"] : List Str).zip us) :=
  fun _ _ _ _ _ _ us hl => match us, hl with | [_, _], _ => rfl
theorem bd_law_f_odd_valleys : ∀ (kV doc pm : Value) (an : Option Addr) (cdv ct : Value) (us : List Value), us.length = (["_law_some"] : List Str).length → bindArgs (PySem.W.fnOf "_law_f_odd_valleys" "_law_f_odd_valleys" (defArgs s_law_f_odd_valleys) (defBody s_law_f_odd_valleys) (defScope s_law_f_odd_valleys) .none kV doc pm an cdv ct) ⟨us, []⟩ = pure ((["_law_some"] : List Str).zip us) :=
  fun _ _ _ _ _ _ us hl => match us, hl with | [_], _ => rfl
theorem bd_law_f_odd_evenings : ∀ (kV doc pm : Value) (an : Option Addr) (cdv ct : Value) (us : List Value), us.length = (["_law_some"] : List Str).length → bindArgs (PySem.W.fnOf "_law_f_odd_evenings" "_law_f_odd_evenings" (defArgs s_law_f_odd_evenings) (defBody s_law_f_odd_evenings) (defScope s_law_f_odd_evenings) .none kV doc pm an cdv ct) ⟨us, []⟩ = pure ((["_law_some"] : List Str).zip us) :=
  fun _ _ _ _ _ _ us hl => match us, hl with | [_], _ => rfl
theorem bd_law_f_odd_feasts : ∀ (kV doc pm : Value) (an : Option Addr) (cdv ct : Value) (us : List Value), us.length = (["_law_feasts"] : List Str).length → bindArgs (PySem.W.fnOf "_law_f_odd_feasts" "_law_f_odd_feasts" (defArgs s_law_f_odd_feasts) (defBody s_law_f_odd_feasts) (defScope s_law_f_odd_feasts) .none kV doc pm an cdv ct) ⟨us, []⟩ = pure ((["_law_feasts"] : List Str).zip us) :=
  fun _ _ _ _ _ _ us hl => match us, hl with | [_], _ => rfl
theorem bd_law_f_in_turns : ∀ (kV doc pm : Value) (an : Option Addr) (cdv ct : Value) (us : List Value), us.length = (["_law_stream", "_law_some", "_law_asks", "_law_things"] : List Str).length → bindArgs (PySem.W.fnOf "_law_f_in_turns" "_law_f_in_turns" (defArgs s_law_f_in_turns) (defBody s_law_f_in_turns) (defScope s_law_f_in_turns) .none kV doc pm an cdv ct) ⟨us, []⟩ = pure ((["_law_stream", "_law_some", "_law_asks", "_law_things"] : List Str).zip us) :=
  fun _ _ _ _ _ _ us hl => match us, hl with | [_, _, _, _], _ => rfl
theorem bd_law_f_copied : ∀ (kV doc pm : Value) (an : Option Addr) (cdv ct : Value) (us : List Value), us.length = (["_law_thing"] : List Str).length → bindArgs (PySem.W.fnOf "_law_f_copied" "_law_f_copied" (defArgs s_law_f_copied) (defBody s_law_f_copied) (defScope s_law_f_copied) .none kV doc pm an cdv ct) ⟨us, []⟩ = pure ((["_law_thing"] : List Str).zip us) :=
  fun _ _ _ _ _ _ us hl => match us, hl with | [_], _ => rfl
theorem bd_law_f_change : ∀ (kV doc pm : Value) (an : Option Addr) (cdv ct : Value) (us : List Value), us.length = (["_law_held", "_law_other"] : List Str).length → bindArgs (PySem.W.fnOf "_law_f_change" "_law_f_change" (defArgs s_law_f_change) (defBody s_law_f_change) (defScope s_law_f_change) .none kV doc pm an cdv ct) ⟨us, []⟩ = pure ((["_law_held", "_law_other"] : List Str).zip us) :=
  fun _ _ _ _ _ _ us hl => match us, hl with | [_, _], _ => rfl
theorem bd_law_met : ∀ (kV doc pm : Value) (an : Option Addr) (cdv ct : Value) (us : List Value), us.length = (["_law_ask"] : List Str).length → bindArgs (PySem.W.fnOf "_law_met" "_law_met" (defArgs s_law_met) (defBody s_law_met) (defScope s_law_met) .none kV doc pm an cdv ct) ⟨us, []⟩ = pure ((["_law_ask"] : List Str).zip us) :=
  fun _ _ _ _ _ _ us hl => match us, hl with | [_], _ => rfl
theorem bd_law_left : ∀ (kV doc pm : Value) (an : Option Addr) (cdv ct : Value) (us : List Value), us.length = (["_law_some", "_law_evening", "_law_heaps_here"] : List Str).length → bindArgs (PySem.W.fnOf "_law_left" "_law_left" (defArgs s_law_left) (defBody s_law_left) (defScope s_law_left) .none kV doc pm an cdv ct) ⟨us, []⟩ = pure ((["_law_some", "_law_evening", "_law_heaps_here"] : List Str).zip us) :=
  fun _ _ _ _ _ _ us hl => match us, hl with | [_, _, _], _ => rfl
theorem bd_law_heaps : ∀ (kV doc pm : Value) (an : Option Addr) (cdv ct : Value) (us : List Value), us.length = (["_law_stream", "_law_names"] : List Str).length → bindArgs (PySem.W.fnOf "_law_heaps" "_law_heaps" (defArgs s_law_heaps) (defBody s_law_heaps) (defScope s_law_heaps) .none kV doc pm an cdv ct) ⟨us, []⟩ = pure ((["_law_stream", "_law_names"] : List Str).zip us) :=
  fun _ _ _ _ _ _ us hl => match us, hl with | [_, _], _ => rfl
theorem bd_law_one_right : ∀ (kV doc pm : Value) (an : Option Addr) (cdv ct : Value) (us : List Value), us.length = (["_law_stream", "_law_some", "_law_valley", "_law_evening", "_law_heaps_here"] : List Str).length → bindArgs (PySem.W.fnOf "_law_one_right" "_law_one_right" (defArgs s_law_one_right) (defBody s_law_one_right) (defScope s_law_one_right) .none kV doc pm an cdv ct) ⟨us, []⟩ = pure ((["_law_stream", "_law_some", "_law_valley", "_law_evening", "_law_heaps_here"] : List Str).zip us) :=
  fun _ _ _ _ _ _ us hl => match us, hl with | [_, _, _, _, _], _ => rfl
theorem bd_law_refused_right : ∀ (kV doc pm : Value) (an : Option Addr) (cdv ct : Value) (us : List Value), us.length = (["_law_stream", "_law_some", "_law_valley", "_law_evening"] : List Str).length → bindArgs (PySem.W.fnOf "_law_refused_right" "_law_refused_right" (defArgs s_law_refused_right) (defBody s_law_refused_right) (defScope s_law_refused_right) .none kV doc pm an cdv ct) ⟨us, []⟩ = pure ((["_law_stream", "_law_some", "_law_valley", "_law_evening"] : List Str).zip us) :=
  fun _ _ _ _ _ _ us hl => match us, hl with | [_, _, _, _], _ => rfl
theorem bd_law : ∀ (kV doc pm : Value) (an : Option Addr) (cdv ct : Value) (us : List Value), us.length = (["_law_script"] : List Str).length → bindArgs (PySem.W.fnOf "law" "law" (defArgs s_law) (defBody s_law) (defScope s_law) .none kV doc pm an cdv ct) ⟨us, []⟩ = pure ((["_law_script"] : List Str).zip us) :=
  fun _ _ _ _ _ _ us hl => match us, hl with | [_], _ => rfl
theorem bd_Valley : ∀ (kV doc pm : Value) (an : Option Addr) (cdv ct : Value) (us : List Value), us.length = (["self", "houses", "roads", "heads"] : List Str).length → bindArgs (PySem.W.fnOf "__init__" "Valley.__init__" (defArgs s_Valley___init) (defBody s_Valley___init) (defScope s_Valley___init) .none kV doc pm an cdv ct) ⟨us, []⟩ = pure ((["self", "houses", "roads", "heads"] : List Str).zip us) :=
  fun _ _ _ _ _ _ us hl => match us, hl with | [_, _, _, _], _ => rfl
structure VCls (K : PySem.W.Frag) (mg : Str → Option Value) where
  C : Addr
  mgV : mg "Valley" = some (.ref C)
  cl : Cls K C
  no_names : NoAttr K C "names"
  no_ranks : NoAttr K C "ranks"
  no_own_roads : NoAttr K C "own_roads"
  no_own_heads : NoAttr K C "own_heads"
  no_near : NoAttr K C "near"
  no_places : NoAttr K C "places"
  f : Addr
  fd : FuncData
  F : Fun K "__init__" "Valley.__init__" s_Valley___init f fd
  b : Binds K fd ["self", "houses", "roads", "heads"] []
  M : Mk K C f
  kit7 : ∀ n ∈ tys7, PySem.W.kitOne K (.type n) (.ref C) = some false
  vCls : PySem.W.findIn K (.ref C) "__class__" = some (some (.builtin "object.__class__"))
  vGet : PySem.W.specialIn K (.builtin "object.__class__") "__get__" = some (some (.builtin "getset_descriptor.__get__"))
  vTak : PySem.W.takesIn K (.builtin "object.__class__") = some true
  vObj : PySem.W.mroIn K C (.type "object") = some true
def vcls_mk {K : PySem.W.Frag} {h : Heap} {mg : Str → Option Value} {C f : Addr} {oc : Value} {od an : Option Addr} {osl : Array (Option Value)} {kV doc pm cdv ct : Value} (X : K.In h) (G : h.Ns mainGlobals mg)
    (a : PySem.W.nsIn K mainGlobals "Valley" = some (some (.ref C)))
    (pg : PySem.W.plainGet K C Str.empty = true)
    (hd : PySem.W.hasDictIn K C = true)
    (po : PySem.W.plainOver K C = true)
    (sa : PySem.W.findIn K (.ref C) "__setattr__" = some (some (.builtin "object.__setattr__")))
    (n_names : PySem.W.findIn K (.ref C) "names" = some none)
    (n_ranks : PySem.W.findIn K (.ref C) "ranks" = some none)
    (n_own_roads : PySem.W.findIn K (.ref C) "own_roads" = some none)
    (n_own_heads : PySem.W.findIn K (.ref C) "own_heads" = some none)
    (n_near : PySem.W.findIn K (.ref C) "near" = some none)
    (n_places : PySem.W.findIn K (.ref C) "places" = some none)
    (mk : PySem.W.makesIn K C = true)
    (i : PySem.W.findIn K (.ref C) "__init__" = some (some (.ref f)))
    (fn : PySem.W.isFn K (.ref f) = true)
    (kc : PySem.W.keepIn K (.ref C) = true)
    (l : K.lookup f = some ⟨oc, od, .func (PySem.W.fnOf "__init__" "Valley.__init__" (defArgs s_Valley___init) (defBody s_Valley___init) (defScope s_Valley___init) .none kV doc pm an cdv ct), osl⟩)
    (c : PySem.W.codeIn K cdv "Valley.__init__" = true)
    (kf : PySem.W.keepIn K (.ref f) = true)
    (k0 : PySem.W.kitOne K (.type "NoneType") (.ref C) = some false)
    (k1 : PySem.W.kitOne K (.type "bool") (.ref C) = some false)
    (k2 : PySem.W.kitOne K (.type "int") (.ref C) = some false)
    (k3 : PySem.W.kitOne K (.type "str") (.ref C) = some false)
    (k4 : PySem.W.kitOne K (.type "list") (.ref C) = some false)
    (k5 : PySem.W.kitOne K (.type "tuple") (.ref C) = some false)
    (k6 : PySem.W.kitOne K (.type "dict") (.ref C) = some false)
    (v1 : PySem.W.findIn K (.ref C) "__class__" = some (some (.builtin "object.__class__")))
    (v2 : PySem.W.specialIn K (.builtin "object.__class__") "__get__" = some (some (.builtin "getset_descriptor.__get__")))
    (v3 : PySem.W.takesIn K (.builtin "object.__class__") = some true)
    (v4 : PySem.W.mroIn K C (.type "object") = some true)
    : VCls K mg :=
  ⟨C, PySem.W.mg_of X G a, ⟨pg, hd, po, sa⟩, n_names, n_ranks, n_own_roads, n_own_heads, n_near, n_places, f, _, fun_mk l c kf, (fun_mk l c kf).binds bd_Valley, ⟨mk, i, fn, kc⟩, fun n hn => by
    unfold tys7 at hn
    simp only [List.mem_cons, List.mem_nil_iff, or_false] at hn
    rcases hn with rfl | rfl | rfl | rfl | rfl | rfl | rfl
    · exact k0
    · exact k1
    · exact k2
    · exact k3
    · exact k4
    · exact k5
    · exact k6
    , v1, v2, v3, v4⟩
structure Er3 (P : Program) (K : PySem.W.Frag) (mg : Str → Option Value) where
  CV : Addr
  fV : Addr
  CE : Addr
  fE : Addr
  CH : Addr
  fH : Addr
  eV : ErrTxt P K mg "BadValley" s_BadValley "thing" CV fV
  eE : ErrTxt P K mg "BadEvening" s_BadEvening "evening" CE fE
  eH : ErrTxt P K mg "BadHeaps" s_BadHeaps "heaps" CH fH
  ct : Cat K CV CE CH
def er3_mk {P : Program} {K : PySem.W.Frag} {h : Heap} {mg : Str → Option Value} {CV fV cdaV ccV a3V : Addr} {a1V a2V qlV fiV : Str} {a4V a5V a7V : List Value} {a6V : List Str} {a8V : Bool} {a9V : Option Bool} {b1V odV anV e2V g2V : Option Addr} {b2V b3V b4V b5V b6V : Option Value} {ocV kVV docV pmV ctV e1V g1V : Value} {oslV e4V g3V : Array (Option Value)} {e3V : Array Value} {tfV : Tok} {CE fE cdaE ccE a3E : Addr} {a1E a2E qlE fiE : Str} {a4E a5E a7E : List Value} {a6E : List Str} {a8E : Bool} {a9E : Option Bool} {b1E odE anE e2E g2E : Option Addr} {b2E b3E b4E b5E b6E : Option Value} {ocE kVE docE pmE ctE e1E g1E : Value} {oslE e4E g3E : Array (Option Value)} {e3E : Array Value} {tfE : Tok} {CH fH cdaH ccH a3H : Addr} {a1H a2H qlH fiH : Str} {a4H a5H a7H : List Value} {a6H : List Str} {a8H : Bool} {a9H : Option Bool} {b1H odH anH e2H g2H : Option Addr} {b2H b3H b4H b5H b6H : Option Value} {ocH kVH docH pmH ctH e1H g1H : Value} {oslH e4H g3H : Array (Option Value)} {e3H : Array Value} {tfH : Tok} (X : K.In h) (G : h.Ns mainGlobals mg)
    (opq : PySem.W.nsIn K PySem.cStatics "thirdparty.any" = some none)
    (sup : PySem.W.nsIn K mainGlobals "super" = some none)
    (tops : (P.main.scope.names.lookup ("super" : Str)).isSome = false)
    (aV : PySem.W.nsIn K mainGlobals "BadValley" = some (some (.ref CV)))
    (lkV : K.lookup CV = some (excClassObj a1V a2V CV a3V a4V a5V true a6V a7V a8V a9V b1V b2V b3V b4V b5V b6V "ValueError.__new__"))
    (veV : HandSPX.refsVE a5V = true)
    (suV : PySem.W.ks_superIn K CV CV "__init__" = some (some (.builtin "ValueError.__init__")))
    (stV : PySem.W.findIn K (.ref CV) "__setattr__" = some (some (.builtin "object.__setattr__")))
    (nnV : PySem.W.findIn K (.ref CV) "thing" = some none)
    (iV : PySem.W.findIn K (.ref CV) "__init__" = some (some (.ref fV)))
    (tiV : PySem.W.typeIn K (.ref fV) = some (.type "function"))
    (tcV : PySem.W.typeIn K (.ref CV) = some (.type "type"))
    (kcV : PySem.W.keepIn K (.ref CV) = true)
    (svV : PySem.W.subIn K (.ref CV) (.type "ValueError") = some true)
    (scV : PySem.W.mroIn K CV (.ref CV) = some true)
    (xfV : xfB K CV = true)
    (xiV : PySem.W.excInitIn K CV [.type "ValueError", .type "Exception", .type "BaseException", .type "object"] "ValueError.__new__" = true)
    (lV : K.lookup fV = some ⟨ocV, odV, .func (PySem.W.fnX "__init__" qlV (defArgs s_BadValley) (defBody s_BadValley) (defScope s_BadValley) [("__class__", ccV)] .none kVV docV pmV anV (.ref cdaV) ctV), oslV⟩)
    (ciV : PySem.W.codeIn K (.ref cdaV) qlV = true)
    (lcV : K.lookup cdaV = some ⟨e1V, e2V, .fields e3V, e4V⟩)
    (flV : e3V[2]? = some (Value.str fiV tfV))
    (feV : ((P.main.file : Str) == fiV) = true)
    (ceV : K.lookup ccV = some ⟨g1V, g2V, .cell (some (.ref CV)), g3V⟩)
    (aE : PySem.W.nsIn K mainGlobals "BadEvening" = some (some (.ref CE)))
    (lkE : K.lookup CE = some (excClassObj a1E a2E CE a3E a4E a5E true a6E a7E a8E a9E b1E b2E b3E b4E b5E b6E "ValueError.__new__"))
    (veE : HandSPX.refsVE a5E = true)
    (suE : PySem.W.ks_superIn K CE CE "__init__" = some (some (.builtin "ValueError.__init__")))
    (stE : PySem.W.findIn K (.ref CE) "__setattr__" = some (some (.builtin "object.__setattr__")))
    (nnE : PySem.W.findIn K (.ref CE) "evening" = some none)
    (iE : PySem.W.findIn K (.ref CE) "__init__" = some (some (.ref fE)))
    (tiE : PySem.W.typeIn K (.ref fE) = some (.type "function"))
    (tcE : PySem.W.typeIn K (.ref CE) = some (.type "type"))
    (kcE : PySem.W.keepIn K (.ref CE) = true)
    (svE : PySem.W.subIn K (.ref CE) (.type "ValueError") = some true)
    (scE : PySem.W.mroIn K CE (.ref CE) = some true)
    (xfE : xfB K CE = true)
    (xiE : PySem.W.excInitIn K CE [.type "ValueError", .type "Exception", .type "BaseException", .type "object"] "ValueError.__new__" = true)
    (lE : K.lookup fE = some ⟨ocE, odE, .func (PySem.W.fnX "__init__" qlE (defArgs s_BadEvening) (defBody s_BadEvening) (defScope s_BadEvening) [("__class__", ccE)] .none kVE docE pmE anE (.ref cdaE) ctE), oslE⟩)
    (ciE : PySem.W.codeIn K (.ref cdaE) qlE = true)
    (lcE : K.lookup cdaE = some ⟨e1E, e2E, .fields e3E, e4E⟩)
    (flE : e3E[2]? = some (Value.str fiE tfE))
    (feE : ((P.main.file : Str) == fiE) = true)
    (ceE : K.lookup ccE = some ⟨g1E, g2E, .cell (some (.ref CE)), g3E⟩)
    (aH : PySem.W.nsIn K mainGlobals "BadHeaps" = some (some (.ref CH)))
    (lkH : K.lookup CH = some (excClassObj a1H a2H CH a3H a4H a5H true a6H a7H a8H a9H b1H b2H b3H b4H b5H b6H "ValueError.__new__"))
    (veH : HandSPX.refsVE a5H = true)
    (suH : PySem.W.ks_superIn K CH CH "__init__" = some (some (.builtin "ValueError.__init__")))
    (stH : PySem.W.findIn K (.ref CH) "__setattr__" = some (some (.builtin "object.__setattr__")))
    (nnH : PySem.W.findIn K (.ref CH) "heaps" = some none)
    (iH : PySem.W.findIn K (.ref CH) "__init__" = some (some (.ref fH)))
    (tiH : PySem.W.typeIn K (.ref fH) = some (.type "function"))
    (tcH : PySem.W.typeIn K (.ref CH) = some (.type "type"))
    (kcH : PySem.W.keepIn K (.ref CH) = true)
    (svH : PySem.W.subIn K (.ref CH) (.type "ValueError") = some true)
    (scH : PySem.W.mroIn K CH (.ref CH) = some true)
    (xfH : xfB K CH = true)
    (xiH : PySem.W.excInitIn K CH [.type "ValueError", .type "Exception", .type "BaseException", .type "object"] "ValueError.__new__" = true)
    (lH : K.lookup fH = some ⟨ocH, odH, .func (PySem.W.fnX "__init__" qlH (defArgs s_BadHeaps) (defBody s_BadHeaps) (defScope s_BadHeaps) [("__class__", ccH)] .none kVH docH pmH anH (.ref cdaH) ctH), oslH⟩)
    (ciH : PySem.W.codeIn K (.ref cdaH) qlH = true)
    (lcH : K.lookup cdaH = some ⟨e1H, e2H, .fields e3H, e4H⟩)
    (flH : e3H[2]? = some (Value.str fiH tfH))
    (feH : ((P.main.file : Str) == fiH) = true)
    (ceH : K.lookup ccH = some ⟨g1H, g2H, .cell (some (.ref CH)), g3H⟩)
    (xVV : PySem.W.exmOne K (.ref CV) (.ref CV) = some true)
    (xEV : PySem.W.exmOne K (.ref CE) (.ref CV) = some false)
    (xEE : PySem.W.exmOne K (.ref CE) (.ref CE) = some true)
    (xHV : PySem.W.exmOne K (.ref CH) (.ref CV) = some false)
    (xHE : PySem.W.exmOne K (.ref CH) (.ref CE) = some false)
    (xHH : PySem.W.exmOne K (.ref CH) (.ref CH) = some true)
    : Er3 P K mg :=
  ⟨CV, fV, CE, fE, CH, fH, ⟨PySem.W.mg_of X G aV, ⟨_, _, _, _, _, _, _, _, _, _, _, _, _, _, _, lkV, veV⟩, suV, stV, nnV, iV, tiV, tcV, kcV, opq, svV, scV, xfB_ok xfV, xiV, PySem.W.mg_none_of X G sup, tops, ⟨_, _, _, _, _, _, _, _, _, _, _, lV, ciV, ⟨_, _, _, _, _, _, lcV, flV, feV⟩, ⟨_, _, _, ceV⟩⟩⟩,
    ⟨PySem.W.mg_of X G aE, ⟨_, _, _, _, _, _, _, _, _, _, _, _, _, _, _, lkE, veE⟩, suE, stE, nnE, iE, tiE, tcE, kcE, opq, svE, scE, xfB_ok xfE, xiE, PySem.W.mg_none_of X G sup, tops, ⟨_, _, _, _, _, _, _, _, _, _, _, lE, ciE, ⟨_, _, _, _, _, _, lcE, flE, feE⟩, ⟨_, _, _, ceE⟩⟩⟩,
    ⟨PySem.W.mg_of X G aH, ⟨_, _, _, _, _, _, _, _, _, _, _, _, _, _, _, lkH, veH⟩, suH, stH, nnH, iH, tiH, tcH, kcH, opq, svH, scH, xfB_ok xfH, xiH, PySem.W.mg_none_of X G sup, tops, ⟨_, _, _, _, _, _, _, _, _, _, _, lH, ciH, ⟨_, _, _, _, _, _, lcH, flH, feH⟩, ⟨_, _, _, ceH⟩⟩⟩,
    ⟨xVV, xEV, xEE, xHV, xHE, xHH⟩⟩
def txt_mk {K : PySem.W.Frag} {mg : Str → Option Value} (V : VCls K mg) {tS tF : Tok} (d_is_list : Dn K mg "is_list" s_is_list ["thing"]) (d_is_whole : Dn K mg "is_whole" s_is_whole ["thing"]) (d_is_number : Dn K mg "is_number" s_is_number ["thing"]) (d_is_positive : Dn K mg "is_positive" s_is_positive ["thing"]) (d_is_name : Dn K mg "is_name" s_is_name ["thing"]) (d_is_among : Dn K mg "is_among" s_is_among ["known", "thing"]) (d_lowest : Dn K mg "lowest" s_lowest ["top", "bottom"]) (d_doubled : Dn K mg "doubled" s_doubled ["times"]) (d_checked_houses : Dn K mg "checked_houses" s_checked_houses ["houses"]) (d_checked_roads : Dn K mg "checked_roads" s_checked_roads ["names", "roads"]) (d_checked_heads : Dn K mg "checked_heads" s_checked_heads ["names", "heads"]) (d_check_valley : Dn K mg "check_valley" s_check_valley ["thing"]) (d_road_in : Dn K mg "road_in" s_road_in ["valley", "thing"]) (d_known_evening : Dn K mg "known_evening" s_known_evening ["valley", "thing"]) (d_checked_evening : Dn K mg "checked_evening" s_checked_evening ["valley", "evening"]) (d_parts_by : Dn K mg "parts_by" s_parts_by ["valley", "known"]) (d_feasts_by : Dn K mg "feasts_by" s_feasts_by ["valley", "found"]) (d_checked_shares : Dn K mg "checked_shares" s_checked_shares ["valley", "evening", "heaps"]) (d_leavings : Dn K mg "leavings" s_leavings ["valley", "evening", "heaps"]) (d_left_together : Dn K mg "left_together" s_left_together ["valley", "evening", "heaps"]) (d_law_start : Dn K mg "_law_start" s_law_start ["_law_script"]) (d_law_draw : Dn K mg "_law_draw" s_law_draw ["_law_stream", "_law_many"]) (d_law_pick : Dn K mg "_law_pick" s_law_pick ["_law_stream", "_law_things"]) (d_law_mixed : Dn K mg "_law_mixed" s_law_mixed ["_law_stream", "_law_things"]) (d_law_same : Dn K mg "_law_same" s_law_same ["_law_found", "_law_due"]) (d_law_loose : Dn K mg "_law_loose" s_law_loose ["_law_stream", "_law_thing"]) (d_law_f_names : Dn K mg "_law_f_names" s_law_f_names ["_law_stream", "_law_least", "_law_most"]) (d_law_f_roads : Dn K mg "_law_f_roads" s_law_f_roads ["_law_stream", "_law_names"]) (d_law_f_valley : Dn K mg "_law_f_valley" s_law_f_valley ["_law_stream", "_law_least", "_law_most"]) (d_law_f_made : Dn K mg "_law_f_made" s_law_f_made ["_law_stream", "_law_some"]) (d_law_f_parts : Dn K mg "_law_f_parts" s_law_f_parts ["_law_some", "_law_evening"]) (d_law_f_passed : Dn K mg "_law_f_passed" s_law_f_passed ["_law_stream", "_law_evening"]) (d_law_f_handed : Dn K mg "_law_f_handed" s_law_f_handed ["_law_stream", "_law_known"]) (d_law_f_low : Dn K mg "_law_f_low" s_law_f_low ["_law_top", "_law_bottom"]) (d_law_f_odd_valleys : Dn K mg "_law_f_odd_valleys" s_law_f_odd_valleys ["_law_some"]) (d_law_f_odd_evenings : Dn K mg "_law_f_odd_evenings" s_law_f_odd_evenings ["_law_some"]) (d_law_f_odd_feasts : Dn K mg "_law_f_odd_feasts" s_law_f_odd_feasts ["_law_feasts"]) (d_law_f_in_turns : Dn K mg "_law_f_in_turns" s_law_f_in_turns ["_law_stream", "_law_some", "_law_asks", "_law_things"]) (d_law_f_copied : Dn K mg "_law_f_copied" s_law_f_copied ["_law_thing"]) (d_law_f_change : Dn K mg "_law_f_change" s_law_f_change ["_law_held", "_law_other"]) (d_law_met : Dn K mg "_law_met" s_law_met ["_law_ask"]) (d_law_left : Dn K mg "_law_left" s_law_left ["_law_some", "_law_evening", "_law_heaps_here"]) (d_law_heaps : Dn K mg "_law_heaps" s_law_heaps ["_law_stream", "_law_names"]) (d_law_one_right : Dn K mg "_law_one_right" s_law_one_right ["_law_stream", "_law_some", "_law_valley", "_law_evening", "_law_heaps_here"]) (d_law_refused_right : Dn K mg "_law_refused_right" s_law_refused_right ["_law_stream", "_law_some", "_law_valley", "_law_evening"]) (d_law : Dn K mg "law" s_law ["_law_script"]) (n_len : mg "len" = none) (n_isinstance : mg "isinstance" = none) (n_int : mg "int" = none) (n_str : mg "str" = none) (n_list : mg "list" = none) (n_tuple : mg "tuple" = none) (n_dict : mg "dict" = none) (n_bool : mg "bool" = none) (n_all : mg "all" = none) (n_any : mg "any" = none) (n_max : mg "max" = none) (n_min : mg "min" = none) (n_sum : mg "sum" = none) (n_zip : mg "zip" = none) (n_enumerate : mg "enumerate" = none) (n_range : mg "range" = none) (n_repr : mg "repr" = none) (n_sorted : mg "sorted" = none) (hS : mg "SMALL" = some (.str "abcdefghijklmnopqrstuvwxyz" tS)) (hF : mg "FIGURES" = some (.str "0123456789" tF)) (hg : mg "gcd" = some (.builtin "math.gcd")) : Txt K mg :=
  { is_list := d_is_list, is_whole := d_is_whole, is_number := d_is_number, is_positive := d_is_positive, is_name := d_is_name, is_among := d_is_among, lowest := d_lowest, doubled := d_doubled, checked_houses := d_checked_houses, checked_roads := d_checked_roads, checked_heads := d_checked_heads, check_valley := d_check_valley, road_in := d_road_in, known_evening := d_known_evening, checked_evening := d_checked_evening, parts_by := d_parts_by, feasts_by := d_feasts_by, checked_shares := d_checked_shares, leavings := d_leavings, left_together := d_left_together, law_start := d_law_start, law_draw := d_law_draw, law_pick := d_law_pick, law_mixed := d_law_mixed, law_same := d_law_same, law_loose := d_law_loose, law_f_names := d_law_f_names, law_f_roads := d_law_f_roads, law_f_valley := d_law_f_valley, law_f_made := d_law_f_made, law_f_parts := d_law_f_parts, law_f_passed := d_law_f_passed, law_f_handed := d_law_f_handed, law_f_low := d_law_f_low, law_f_odd_valleys := d_law_f_odd_valleys, law_f_odd_evenings := d_law_f_odd_evenings, law_f_odd_feasts := d_law_f_odd_feasts, law_f_in_turns := d_law_f_in_turns, law_f_copied := d_law_f_copied, law_f_change := d_law_f_change, law_met := d_law_met, law_left := d_law_left, law_heaps := d_law_heaps, law_one_right := d_law_one_right, law_refused_right := d_law_refused_right, law := d_law, n_len := n_len, n_isinstance := n_isinstance, n_int := n_int, n_str := n_str, n_list := n_list, n_tuple := n_tuple, n_dict := n_dict, n_bool := n_bool, n_all := n_all, n_any := n_any, n_max := n_max, n_min := n_min, n_sum := n_sum, n_zip := n_zip, n_enumerate := n_enumerate, n_range := n_range, n_repr := n_repr, n_sorted := n_sorted, tS := tS, tF := tF, mgSMALL := hS, mgFIGURES := hF, mgGcd := hg, C := V.C, mgValley := V.mgV, clC := V.cl, no_names := V.no_names, no_ranks := V.no_ranks, no_own_roads := V.no_own_roads, no_own_heads := V.no_own_heads, no_near := V.no_near, no_places := V.no_places, fI := V.f, fdI := V.fd, FI := V.F, bI := V.b, MI := V.M }
structure Own (K : PySem.W.Frag) (mg : Str → Option Value) (h : Heap) (x : Str) (st : Stmt) (c p : Addr) : Prop where
  at_ : ∃ (f : Addr) (fd : FuncData), mg x = some (.ref f) ∧ CodeAt K x st f fd c
  tab : h.get? p = some { cls := .none, data := .fields #[] }
  out : K.lookup p = none
  hd : PySem.W.CodeHd h c p
theorem own_mk {K : PySem.W.Frag} {h : Heap} {mg : Str → Option Value} {x : Str} {st : Stmt} {f c p : Addr} {oc e1 : Value} {od an e2 : Option Addr} {osl e3 : Array (Option Value)} {kV doc pm ct : Value} {vs : Array Value} {ts : List Addr} (X : K.In h) (G : h.Ns mainGlobals mg) (hts : ∀ q ∈ ts, h.get? q = some (PySem.W.tabObj #[])) (a : PySem.W.nsIn K mainGlobals x = some (some (.ref f)))
    (l : K.lookup f = some ⟨oc, od, .func (PySem.W.fnOf x x (defArgs st) (defBody st) (defScope st) .none kV doc pm an (.ref c) ct), osl⟩) (cd : PySem.W.codeIn K (.ref c) x = true) (lc : K.lookup c = some ⟨e1, e2, .fields vs, e3⟩) (at11 : vs[11]? = some (.ref p)) (hh : PySem.W.codeHdIn K c p = true) (no : K.lookup p = none) (m : p ∈ ts) : Own K mg h x st c p :=
  ⟨⟨f, _, PySem.W.mg_of X G a, ⟨oc, od, kV, doc, pm, an, ct, osl, rfl, l, cd⟩⟩, hts p m, no, PySem.W.codeHd_of_K X hh⟩
theorem str_mk {K : PySem.W.Frag} {h : Heap} {mg : Str → Option Value} {x z y : Str} {t : Tok} (X : K.In h) (G : h.Ns mainGlobals mg) (a : PySem.W.nsIn K mainGlobals x = some (some (.str z t))) (e : z = y) : ∃ t, mg x = some (.str y t) := ⟨t, by rw [← e]; exact PySem.W.mg_of X G a⟩
abbrev DnX {K : PySem.W.Frag} {h : Heap} (_ : K.In h) (mg : Str → Option Value) (x : Str) (st : Stmt) (ps : List Str) : Type := Dn K mg x st ps
abbrev VClsX {K : PySem.W.Frag} {h : Heap} (_ : K.In h) (mg : Str → Option Value) : Type := VCls K mg
abbrev Er3X {K : PySem.W.Frag} {h : Heap} (_ : K.In h) (P : Program) (mg : Str → Option Value) : Type := Er3 P K mg
def OwnX {K : PySem.W.Frag} {h : Heap} (_ : K.In h) (mg : Str → Option Value) : Prop := ∃ cR pR cL pL, Own K mg h "_law_refused_right" s_law_refused_right cR pR ∧ Own K mg h "law" s_law cL pL ∧ pL ≠ pR
theorem ownX_mk {K : PySem.W.Frag} {h : Heap} {X : K.In h} {mg : Str → Option Value} {cR pR cL pL : Addr} (a : Own K mg h "_law_refused_right" s_law_refused_right cR pR) (b : Own K mg h "law" s_law cL pL) (ne : pL ≠ pR) : OwnX X mg := ⟨cR, pR, cL, pL, a, b, ne⟩
theorem Own.at {K : PySem.W.Frag} {mg : Str → Option Value} {h : Heap} {x : Str} {st : Stmt} {c p : Addr} {ps : List Str} (o : Own K mg h x st c p) (d : Dn K mg x st ps) : CodeAt K x st d.f d.fd c := by
  obtain ⟨f, fd, h1, h2⟩ := o.at_
  have e : f = d.f := by
    have q := h1.symm.trans d.mgx
    injection q with q
    injection q
  subst e
  obtain ⟨oc, od, kV, doc, pm, an, ct, osl, e1, l1, c1⟩ := h2.ex
  obtain ⟨oc', od', kV', doc', pm', an', cdv', ct', osl', e2, l2, c2⟩ := d.F.ex
  have q := l1.symm.trans l2
  injection q with q
  injection q with q1 q2 q3 q4
  injection q3 with q3
  rw [← q3]
  exact h2
theorem the_end {l : PySem.W.OpenLaw} {w : World} {K : PySem.W.Frag} {mg : Str → Option Value} {fa cR pR cL pL : Addr} {h : Heap} (V : VCls K mg) (E : Er3 l.prog K mg) (T : Txt K mg) (hC : T.C = V.C) (oR : Own K mg h "_law_refused_right" s_law_refused_right cR pR) (oL : Own K mg h "law" s_law cL pL) (ne : pL ≠ pR) (hfa : mg "law" = some (.ref fa)) : LawKn l w K 22 "_law_script" mg fa h := by
  obtain rfl : fa = T.law.f := by
    have q := hfa.symm.trans T.law.mgx
    injection q with q
    injection q
  have FR := oR.at T.law_refused_right
  have FL := oL.at T.law
  have Z : ∃ Z : Errs l.prog K mg T, Cat K Z.CV Z.CE Z.CH := ⟨⟨E.CV, E.fV, E.CE, E.fE, E.CH, E.fH, E.eV, E.eE, E.eH, by rw [hC]; exact V.kit7, by rw [hC]; exact V.vCls, V.vGet, V.vTak, by rw [hC]; exact V.vObj⟩, E.ct⟩
  obtain ⟨Z, Ct⟩ := Z
  refine ⟨T.law.fd, [(cR, pR), (cL, pL)], spLaw K [(pR, qRef), (pL, qLawL)], fun p hp => ?_, fun p hp => ?_, fun p hp => ?_, fun s u => ?_, fun H a ns len hT hS => ?_, fun base KB GB TB => ?_⟩
  · simp only [List.mem_cons, List.mem_nil_iff, or_false] at hp
    rcases hp with rfl | rfl
    · exact oR.tab
    · exact oL.tab
  · simp only [List.mem_cons, List.mem_nil_iff, or_false] at hp
    rcases hp with rfl | rfl
    · exact oR.out
    · exact oL.out
  · simp only [List.mem_cons, List.mem_nil_iff, or_false] at hp
    rcases hp with rfl | rfl
    · exact oR.hd
    · exact oL.hd
  · obtain ⟨oc, od, kV, doc, pm, an, ct, osl, e1, l1, c1⟩ := FL.ex
    rw [e1]
    exact .of_eq rfl
  · refine ⟨a, ns, rfl, hS, by omega, fun p hp => ?_, fun _ => rfl⟩
    simp only [List.mem_cons, List.mem_nil_iff, or_false] at hp
    rcases hp with rfl | rfl
    · exact TabS.nil (hT _ List.mem_cons_self)
    · exact TabS.nil (hT _ (List.mem_cons_of_mem _ List.mem_cons_self))
  · have TBR := TB (cR, pR) List.mem_cons_self
    have TBL := TB (cL, pL) (List.mem_cons_of_mem _ List.mem_cons_self)
    refine ok_law T Z Ct TBR FR List.mem_cons_self (fun p hp e => ?_) TBL FL (List.mem_cons_of_mem _ List.mem_cons_self) (fun p hp e => ?_)
    · simp only [List.mem_cons, List.mem_nil_iff, or_false] at hp
      rcases hp with rfl | rfl
      · rfl
      · exact absurd e ne
    · simp only [List.mem_cons, List.mem_nil_iff, or_false] at hp
      rcases hp with rfl | rfl
      · exact absurd e.symm ne
      · rfl
end K80
open PySem PySem.W PyProof.Rows
set_option maxHeartbeats 0
open_top hd80 for PySem.Challenge.rw_feasted_k80_whole_half_of_what_is_left
open PySem PySem.W PyProof.Rows
set_option maxRecDepth 100000 in
set_option maxHeartbeats 0 in
theorem PySem.Challenge.cw_feasted_k80_whole_half_of_what_is_left_holds : PySem.Challenge.rw_feasted_k80_whole_half_of_what_is_left.Holds := by
  refine hd80 ?_
  k_fill
  refine K80.walk80 (l := PySem.Challenge.rw_feasted_k80_whole_half_of_what_is_left) (k := 22) (x := "_law_script") rfl rfl ⟨rfl, by decide, by decide⟩ (fun w h Y => PySem.W.km_in_of Y) ?F
  case F =>
    intro w mg fa h Y KX G hmg
    have hT := PySem.W.km_tabs_of Y
    have d_is_list : K80.DnX KX mg "is_list" K80.s_is_list ["thing"] := by
      refine' K80.dn_mk KX G ?a ?l ?c ?k K80.bd_is_list
      (case a => k_is); (case l => k_is); (case c => k_is); (case k => k_is)
    have d_is_whole : K80.DnX KX mg "is_whole" K80.s_is_whole ["thing"] := by
      refine' K80.dn_mk KX G ?a ?l ?c ?k K80.bd_is_whole
      (case a => k_is); (case l => k_is); (case c => k_is); (case k => k_is)
    have d_is_number : K80.DnX KX mg "is_number" K80.s_is_number ["thing"] := by
      refine' K80.dn_mk KX G ?a ?l ?c ?k K80.bd_is_number
      (case a => k_is); (case l => k_is); (case c => k_is); (case k => k_is)
    have d_is_positive : K80.DnX KX mg "is_positive" K80.s_is_positive ["thing"] := by
      refine' K80.dn_mk KX G ?a ?l ?c ?k K80.bd_is_positive
      (case a => k_is); (case l => k_is); (case c => k_is); (case k => k_is)
    have d_is_name : K80.DnX KX mg "is_name" K80.s_is_name ["thing"] := by
      refine' K80.dn_mk KX G ?a ?l ?c ?k K80.bd_is_name
      (case a => k_is); (case l => k_is); (case c => k_is); (case k => k_is)
    have d_is_among : K80.DnX KX mg "is_among" K80.s_is_among ["known", "thing"] := by
      refine' K80.dn_mk KX G ?a ?l ?c ?k K80.bd_is_among
      (case a => k_is); (case l => k_is); (case c => k_is); (case k => k_is)
    have d_lowest : K80.DnX KX mg "lowest" K80.s_lowest ["top", "bottom"] := by
      refine' K80.dn_mk KX G ?a ?l ?c ?k K80.bd_lowest
      (case a => k_is); (case l => k_is); (case c => k_is); (case k => k_is)
    have d_doubled : K80.DnX KX mg "doubled" K80.s_doubled ["times"] := by
      refine' K80.dn_mk KX G ?a ?l ?c ?k K80.bd_doubled
      (case a => k_is); (case l => k_is); (case c => k_is); (case k => k_is)
    have d_checked_houses : K80.DnX KX mg "checked_houses" K80.s_checked_houses ["houses"] := by
      refine' K80.dn_mk KX G ?a ?l ?c ?k K80.bd_checked_houses
      (case a => k_is); (case l => k_is); (case c => k_is); (case k => k_is)
    have d_checked_roads : K80.DnX KX mg "checked_roads" K80.s_checked_roads ["names", "roads"] := by
      refine' K80.dn_mk KX G ?a ?l ?c ?k K80.bd_checked_roads
      (case a => k_is); (case l => k_is); (case c => k_is); (case k => k_is)
    have d_checked_heads : K80.DnX KX mg "checked_heads" K80.s_checked_heads ["names", "heads"] := by
      refine' K80.dn_mk KX G ?a ?l ?c ?k K80.bd_checked_heads
      (case a => k_is); (case l => k_is); (case c => k_is); (case k => k_is)
    have d_check_valley : K80.DnX KX mg "check_valley" K80.s_check_valley ["thing"] := by
      refine' K80.dn_mk KX G ?a ?l ?c ?k K80.bd_check_valley
      (case a => k_is); (case l => k_is); (case c => k_is); (case k => k_is)
    have d_road_in : K80.DnX KX mg "road_in" K80.s_road_in ["valley", "thing"] := by
      refine' K80.dn_mk KX G ?a ?l ?c ?k K80.bd_road_in
      (case a => k_is); (case l => k_is); (case c => k_is); (case k => k_is)
    have d_known_evening : K80.DnX KX mg "known_evening" K80.s_known_evening ["valley", "thing"] := by
      refine' K80.dn_mk KX G ?a ?l ?c ?k K80.bd_known_evening
      (case a => k_is); (case l => k_is); (case c => k_is); (case k => k_is)
    have d_checked_evening : K80.DnX KX mg "checked_evening" K80.s_checked_evening ["valley", "evening"] := by
      refine' K80.dn_mk KX G ?a ?l ?c ?k K80.bd_checked_evening
      (case a => k_is); (case l => k_is); (case c => k_is); (case k => k_is)
    have d_parts_by : K80.DnX KX mg "parts_by" K80.s_parts_by ["valley", "known"] := by
      refine' K80.dn_mk KX G ?a ?l ?c ?k K80.bd_parts_by
      (case a => k_is); (case l => k_is); (case c => k_is); (case k => k_is)
    have d_feasts_by : K80.DnX KX mg "feasts_by" K80.s_feasts_by ["valley", "found"] := by
      refine' K80.dn_mk KX G ?a ?l ?c ?k K80.bd_feasts_by
      (case a => k_is); (case l => k_is); (case c => k_is); (case k => k_is)
    have d_checked_shares : K80.DnX KX mg "checked_shares" K80.s_checked_shares ["valley", "evening", "heaps"] := by
      refine' K80.dn_mk KX G ?a ?l ?c ?k K80.bd_checked_shares
      (case a => k_is); (case l => k_is); (case c => k_is); (case k => k_is)
    have d_leavings : K80.DnX KX mg "leavings" K80.s_leavings ["valley", "evening", "heaps"] := by
      refine' K80.dn_mk KX G ?a ?l ?c ?k K80.bd_leavings
      (case a => k_is); (case l => k_is); (case c => k_is); (case k => k_is)
    have d_left_together : K80.DnX KX mg "left_together" K80.s_left_together ["valley", "evening", "heaps"] := by
      refine' K80.dn_mk KX G ?a ?l ?c ?k K80.bd_left_together
      (case a => k_is); (case l => k_is); (case c => k_is); (case k => k_is)
    have d_law_start : K80.DnX KX mg "_law_start" K80.s_law_start ["_law_script"] := by
      refine' K80.dn_mk KX G ?a ?l ?c ?k K80.bd_law_start
      (case a => k_is); (case l => k_is); (case c => k_is); (case k => k_is)
    have d_law_draw : K80.DnX KX mg "_law_draw" K80.s_law_draw ["_law_stream", "_law_many"] := by
      refine' K80.dn_mk KX G ?a ?l ?c ?k K80.bd_law_draw
      (case a => k_is); (case l => k_is); (case c => k_is); (case k => k_is)
    have d_law_pick : K80.DnX KX mg "_law_pick" K80.s_law_pick ["_law_stream", "_law_things"] := by
      refine' K80.dn_mk KX G ?a ?l ?c ?k K80.bd_law_pick
      (case a => k_is); (case l => k_is); (case c => k_is); (case k => k_is)
    have d_law_mixed : K80.DnX KX mg "_law_mixed" K80.s_law_mixed ["_law_stream", "_law_things"] := by
      refine' K80.dn_mk KX G ?a ?l ?c ?k K80.bd_law_mixed
      (case a => k_is); (case l => k_is); (case c => k_is); (case k => k_is)
    have d_law_same : K80.DnX KX mg "_law_same" K80.s_law_same ["_law_found", "_law_due"] := by
      refine' K80.dn_mk KX G ?a ?l ?c ?k K80.bd_law_same
      (case a => k_is); (case l => k_is); (case c => k_is); (case k => k_is)
    have d_law_loose : K80.DnX KX mg "_law_loose" K80.s_law_loose ["_law_stream", "_law_thing"] := by
      refine' K80.dn_mk KX G ?a ?l ?c ?k K80.bd_law_loose
      (case a => k_is); (case l => k_is); (case c => k_is); (case k => k_is)
    have d_law_f_names : K80.DnX KX mg "_law_f_names" K80.s_law_f_names ["_law_stream", "_law_least", "_law_most"] := by
      refine' K80.dn_mk KX G ?a ?l ?c ?k K80.bd_law_f_names
      (case a => k_is); (case l => k_is); (case c => k_is); (case k => k_is)
    have d_law_f_roads : K80.DnX KX mg "_law_f_roads" K80.s_law_f_roads ["_law_stream", "_law_names"] := by
      refine' K80.dn_mk KX G ?a ?l ?c ?k K80.bd_law_f_roads
      (case a => k_is); (case l => k_is); (case c => k_is); (case k => k_is)
    have d_law_f_valley : K80.DnX KX mg "_law_f_valley" K80.s_law_f_valley ["_law_stream", "_law_least", "_law_most"] := by
      refine' K80.dn_mk KX G ?a ?l ?c ?k K80.bd_law_f_valley
      (case a => k_is); (case l => k_is); (case c => k_is); (case k => k_is)
    have d_law_f_made : K80.DnX KX mg "_law_f_made" K80.s_law_f_made ["_law_stream", "_law_some"] := by
      refine' K80.dn_mk KX G ?a ?l ?c ?k K80.bd_law_f_made
      (case a => k_is); (case l => k_is); (case c => k_is); (case k => k_is)
    have d_law_f_parts : K80.DnX KX mg "_law_f_parts" K80.s_law_f_parts ["_law_some", "_law_evening"] := by
      refine' K80.dn_mk KX G ?a ?l ?c ?k K80.bd_law_f_parts
      (case a => k_is); (case l => k_is); (case c => k_is); (case k => k_is)
    have d_law_f_passed : K80.DnX KX mg "_law_f_passed" K80.s_law_f_passed ["_law_stream", "_law_evening"] := by
      refine' K80.dn_mk KX G ?a ?l ?c ?k K80.bd_law_f_passed
      (case a => k_is); (case l => k_is); (case c => k_is); (case k => k_is)
    have d_law_f_handed : K80.DnX KX mg "_law_f_handed" K80.s_law_f_handed ["_law_stream", "_law_known"] := by
      refine' K80.dn_mk KX G ?a ?l ?c ?k K80.bd_law_f_handed
      (case a => k_is); (case l => k_is); (case c => k_is); (case k => k_is)
    have d_law_f_low : K80.DnX KX mg "_law_f_low" K80.s_law_f_low ["_law_top", "_law_bottom"] := by
      refine' K80.dn_mk KX G ?a ?l ?c ?k K80.bd_law_f_low
      (case a => k_is); (case l => k_is); (case c => k_is); (case k => k_is)
    have d_law_f_odd_valleys : K80.DnX KX mg "_law_f_odd_valleys" K80.s_law_f_odd_valleys ["_law_some"] := by
      refine' K80.dn_mk KX G ?a ?l ?c ?k K80.bd_law_f_odd_valleys
      (case a => k_is); (case l => k_is); (case c => k_is); (case k => k_is)
    have d_law_f_odd_evenings : K80.DnX KX mg "_law_f_odd_evenings" K80.s_law_f_odd_evenings ["_law_some"] := by
      refine' K80.dn_mk KX G ?a ?l ?c ?k K80.bd_law_f_odd_evenings
      (case a => k_is); (case l => k_is); (case c => k_is); (case k => k_is)
    have d_law_f_odd_feasts : K80.DnX KX mg "_law_f_odd_feasts" K80.s_law_f_odd_feasts ["_law_feasts"] := by
      refine' K80.dn_mk KX G ?a ?l ?c ?k K80.bd_law_f_odd_feasts
      (case a => k_is); (case l => k_is); (case c => k_is); (case k => k_is)
    have d_law_f_in_turns : K80.DnX KX mg "_law_f_in_turns" K80.s_law_f_in_turns ["_law_stream", "_law_some", "_law_asks", "_law_things"] := by
      refine' K80.dn_mk KX G ?a ?l ?c ?k K80.bd_law_f_in_turns
      (case a => k_is); (case l => k_is); (case c => k_is); (case k => k_is)
    have d_law_f_copied : K80.DnX KX mg "_law_f_copied" K80.s_law_f_copied ["_law_thing"] := by
      refine' K80.dn_mk KX G ?a ?l ?c ?k K80.bd_law_f_copied
      (case a => k_is); (case l => k_is); (case c => k_is); (case k => k_is)
    have d_law_f_change : K80.DnX KX mg "_law_f_change" K80.s_law_f_change ["_law_held", "_law_other"] := by
      refine' K80.dn_mk KX G ?a ?l ?c ?k K80.bd_law_f_change
      (case a => k_is); (case l => k_is); (case c => k_is); (case k => k_is)
    have d_law_met : K80.DnX KX mg "_law_met" K80.s_law_met ["_law_ask"] := by
      refine' K80.dn_mk KX G ?a ?l ?c ?k K80.bd_law_met
      (case a => k_is); (case l => k_is); (case c => k_is); (case k => k_is)
    have d_law_left : K80.DnX KX mg "_law_left" K80.s_law_left ["_law_some", "_law_evening", "_law_heaps_here"] := by
      refine' K80.dn_mk KX G ?a ?l ?c ?k K80.bd_law_left
      (case a => k_is); (case l => k_is); (case c => k_is); (case k => k_is)
    have d_law_heaps : K80.DnX KX mg "_law_heaps" K80.s_law_heaps ["_law_stream", "_law_names"] := by
      refine' K80.dn_mk KX G ?a ?l ?c ?k K80.bd_law_heaps
      (case a => k_is); (case l => k_is); (case c => k_is); (case k => k_is)
    have d_law_one_right : K80.DnX KX mg "_law_one_right" K80.s_law_one_right ["_law_stream", "_law_some", "_law_valley", "_law_evening", "_law_heaps_here"] := by
      refine' K80.dn_mk KX G ?a ?l ?c ?k K80.bd_law_one_right
      (case a => k_is); (case l => k_is); (case c => k_is); (case k => k_is)
    have d_law_refused_right : K80.DnX KX mg "_law_refused_right" K80.s_law_refused_right ["_law_stream", "_law_some", "_law_valley", "_law_evening"] := by
      refine' K80.dn_mk KX G ?a ?l ?c ?k K80.bd_law_refused_right
      (case a => k_is); (case l => k_is); (case c => k_is); (case k => k_is)
    have d_law : K80.DnX KX mg "law" K80.s_law ["_law_script"] := by
      refine' K80.dn_mk KX G ?a ?l ?c ?k K80.bd_law
      (case a => k_is); (case l => k_is); (case c => k_is); (case k => k_is)
    have V : K80.VClsX KX mg := by
      refine' K80.vcls_mk KX G ?a ?pg ?hd ?po ?sa ?n_names ?n_ranks ?n_own_roads ?n_own_heads ?n_near ?n_places ?mk ?i ?fn ?kc ?l ?c ?kf ?k0 ?k1 ?k2 ?k3 ?k4 ?k5 ?k6 ?v1 ?v2 ?v3 ?v4
      (case a => k_is)
      (case pg => k_is)
      (case hd => k_is)
      (case po => k_is)
      (case sa => k_is)
      (case n_names => k_is)
      (case n_ranks => k_is)
      (case n_own_roads => k_is)
      (case n_own_heads => k_is)
      (case n_near => k_is)
      (case n_places => k_is)
      (case mk => k_is)
      (case i => k_is)
      (case fn => k_is)
      (case kc => k_is)
      (case l => k_is)
      (case c => k_is)
      (case kf => k_is)
      (case k0 => kernel_rfl)
      (case k1 => kernel_rfl)
      (case k2 => kernel_rfl)
      (case k3 => kernel_rfl)
      (case k4 => kernel_rfl)
      (case k5 => kernel_rfl)
      (case k6 => kernel_rfl)
      (case v1 => k_is)
      (case v2 => k_is)
      (case v3 => k_is)
      (case v4 => k_is)
    have E : K80.Er3X KX PySem.Challenge.rw_feasted_k80_whole_half_of_what_is_left.prog mg := by
      refine' K80.er3_mk KX G ?opq ?sup ?tops ?aV ?lkV ?veV ?suV ?stV ?nnV ?iV ?tiV ?tcV ?kcV ?svV ?scV ?xfV ?xiV ?lV ?ciV ?lcV ?flV ?feV ?ceV ?aE ?lkE ?veE ?suE ?stE ?nnE ?iE ?tiE ?tcE ?kcE ?svE ?scE ?xfE ?xiE ?lE ?ciE ?lcE ?flE ?feE ?ceE ?aH ?lkH ?veH ?suH ?stH ?nnH ?iH ?tiH ?tcH ?kcH ?svH ?scH ?xfH ?xiH ?lH ?ciH ?lcH ?flH ?feH ?ceH ?xVV ?xEV ?xEE ?xHV ?xHE ?xHH
      (case opq => k_is)
      (case sup => k_is)
      (case tops => decide +kernel)
      (case aV => k_is)
      (case lkV => k_is)
      (case veV => kernel_rfl)
      (case suV => kernel_rfl)
      (case stV => k_is)
      (case nnV => k_is)
      (case iV => k_is)
      (case tiV => k_is)
      (case tcV => k_is)
      (case kcV => k_is)
      (case svV => k_is)
      (case scV => k_is)
      (case xfV => kernel_rfl)
      (case xiV => kernel_rfl)
      (case lV => k_is)
      (case ciV => k_is)
      (case lcV => k_is)
      (case flV => rfl)
      (case feV => decide +kernel)
      (case ceV => k_is)
      (case aE => k_is)
      (case lkE => k_is)
      (case veE => kernel_rfl)
      (case suE => kernel_rfl)
      (case stE => k_is)
      (case nnE => k_is)
      (case iE => k_is)
      (case tiE => k_is)
      (case tcE => k_is)
      (case kcE => k_is)
      (case svE => k_is)
      (case scE => k_is)
      (case xfE => kernel_rfl)
      (case xiE => kernel_rfl)
      (case lE => k_is)
      (case ciE => k_is)
      (case lcE => k_is)
      (case flE => rfl)
      (case feE => decide +kernel)
      (case ceE => k_is)
      (case aH => k_is)
      (case lkH => k_is)
      (case veH => kernel_rfl)
      (case suH => kernel_rfl)
      (case stH => k_is)
      (case nnH => k_is)
      (case iH => k_is)
      (case tiH => k_is)
      (case tcH => k_is)
      (case kcH => k_is)
      (case svH => k_is)
      (case scH => k_is)
      (case xfH => kernel_rfl)
      (case xiH => kernel_rfl)
      (case lH => k_is)
      (case ciH => k_is)
      (case lcH => k_is)
      (case flH => rfl)
      (case feH => decide +kernel)
      (case ceH => k_is)
      (case xVV => kernel_rfl)
      (case xEV => kernel_rfl)
      (case xEE => kernel_rfl)
      (case xHV => kernel_rfl)
      (case xHE => kernel_rfl)
      (case xHH => kernel_rfl)
    have O : K80.OwnX KX mg := by
      refine' K80.ownX_mk (K80.own_mk KX G hT ?aR ?lR ?cdR ?lcR ?at11R ?hhR ?noR ?mR) (K80.own_mk KX G hT ?aL ?lL ?cdL ?lcL ?at11L ?hhL ?noL ?mL) ?ne
      (case aR => k_is)
      (case lR => k_is)
      (case cdR => k_is)
      (case lcR => k_is)
      (case at11R => rfl)
      (case hhR => kernel_rfl)
      (case noR => kernel_rfl)
      (case mR => decide)
      (case aL => k_is)
      (case lL => k_is)
      (case cdL => k_is)
      (case lcL => k_is)
      (case at11L => rfl)
      (case hhL => kernel_rfl)
      (case noL => kernel_rfl)
      (case mL => decide)
      (case ne => decide)
    obtain ⟨cR, pR, cL, pL, oR, oL, ne⟩ := O
    have n_len : mg "len" = none := PySem.W.mg_none_of KX G (by k_is)
    have n_isinstance : mg "isinstance" = none := PySem.W.mg_none_of KX G (by k_is)
    have n_int : mg "int" = none := PySem.W.mg_none_of KX G (by k_is)
    have n_str : mg "str" = none := PySem.W.mg_none_of KX G (by k_is)
    have n_list : mg "list" = none := PySem.W.mg_none_of KX G (by k_is)
    have n_tuple : mg "tuple" = none := PySem.W.mg_none_of KX G (by k_is)
    have n_dict : mg "dict" = none := PySem.W.mg_none_of KX G (by k_is)
    have n_bool : mg "bool" = none := PySem.W.mg_none_of KX G (by k_is)
    have n_all : mg "all" = none := PySem.W.mg_none_of KX G (by k_is)
    have n_any : mg "any" = none := PySem.W.mg_none_of KX G (by k_is)
    have n_max : mg "max" = none := PySem.W.mg_none_of KX G (by k_is)
    have n_min : mg "min" = none := PySem.W.mg_none_of KX G (by k_is)
    have n_sum : mg "sum" = none := PySem.W.mg_none_of KX G (by k_is)
    have n_zip : mg "zip" = none := PySem.W.mg_none_of KX G (by k_is)
    have n_enumerate : mg "enumerate" = none := PySem.W.mg_none_of KX G (by k_is)
    have n_range : mg "range" = none := PySem.W.mg_none_of KX G (by k_is)
    have n_repr : mg "repr" = none := PySem.W.mg_none_of KX G (by k_is)
    have n_sorted : mg "sorted" = none := PySem.W.mg_none_of KX G (by k_is)
    have hS : ∃ t, mg "SMALL" = some (.str "abcdefghijklmnopqrstuvwxyz" t) := by
      refine' K80.str_mk KX G ?a ?e
      (case a => k_is)
      (case e => decide +kernel)
    have hF : ∃ t, mg "FIGURES" = some (.str "0123456789" t) := by
      refine' K80.str_mk KX G ?a ?e
      (case a => k_is)
      (case e => decide +kernel)
    have hg : mg "gcd" = some (.builtin "math.gcd") := PySem.W.mg_of KX G (by k_is)
    obtain ⟨tS, hS⟩ := hS
    obtain ⟨tF, hF⟩ := hF
    exact K80.the_end V E (K80.txt_mk V d_is_list d_is_whole d_is_number d_is_positive d_is_name d_is_among d_lowest d_doubled d_checked_houses d_checked_roads d_checked_heads d_check_valley d_road_in d_known_evening d_checked_evening d_parts_by d_feasts_by d_checked_shares d_leavings d_left_together d_law_start d_law_draw d_law_pick d_law_mixed d_law_same d_law_loose d_law_f_names d_law_f_roads d_law_f_valley d_law_f_made d_law_f_parts d_law_f_passed d_law_f_handed d_law_f_low d_law_f_odd_valleys d_law_f_odd_evenings d_law_f_odd_feasts d_law_f_in_turns d_law_f_copied d_law_f_change d_law_met d_law_left d_law_heaps d_law_one_right d_law_refused_right d_law n_len n_isinstance n_int n_str n_list n_tuple n_dict n_bool n_all n_any n_max n_min n_sum n_zip n_enumerate n_range n_repr n_sorted hS hF hg) rfl oR oL ne hmg
