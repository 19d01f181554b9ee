import PyProof.Rows.All
import Wide.All
import OpenK.AllK
import Wide.FinOn
import HandS.ForMost
import HandS.Defaults
import HandS.HeadHook1
import HandS.HeadHook2
import HandS.Flow
import HandS.IsInst
import HandS.RevRange
import HandS.WideBits
import HandS.More
import HandS.Conv
import HandS.Zip
import PySem.Challenge.RW_topiary_k54_whole_edits_in_another_order
import HandS.HeadNt
import KE.KStateDown
import Lean
import HandS.Base
import HandS.Call
import HandS.Ends
import HandS.Words
import HandS.WordsExc
import HandS.Head0
import HandS.Head1
import HandS.Head2
import HandS.HeadEnd
import HandS.HeadHook4
import HandS.Walk
import HandS.Rev
import HandS.RevTup
import KE.KDictList
import HandS.Lambda
import KE.SortKeyHeap
import HandS.SetTxt0
import HandS.TupSets
import HandS.Strs
import HandS.EndTab
import HandS.HeadWalk
set_option Elab.async false
set_option linter.all false
set_option maxRecDepth 100000
set_option maxHeartbeats 4000000
namespace K5
open PySem PySem.Spec PyProof.Rows L2
/-! ### the text by places -/
def top (i : Nat) : Stmt := PySem.Challenge.pw_topiary_k54_whole_edits_in_another_order.main.body.getD i (.Pass ⟨0, 0, 0, 0⟩)
abbrev s_is_name : Stmt := top 16
abbrev s_is_character : Stmt := top 17
abbrev s_is_text : Stmt := top 18
abbrev s_is_string : Stmt := top 19
abbrev s_copied : Stmt := top 20
abbrev s_are_apart : Stmt := top 21
abbrev s_is_tree : Stmt := top 22
abbrev s_depth_within : Stmt := top 23
abbrev s_nodes_of : Stmt := top 24
abbrev s_has_right_size : Stmt := top 25
abbrev s_is_document : Stmt := top 26
abbrev s_ways_of : Stmt := top 27
abbrev s_node_at : Stmt := top 28
abbrev s_weight_of : Stmt := top 30
abbrev s_replaced : Stmt := top 31
abbrev s_check_kind : Stmt := top 32
abbrev s_check_given : Stmt := top 33
abbrev s_copied_edit : Stmt := top 34
abbrev s_edited : Stmt := top 35
abbrev s_with_edit : Stmt := top 36
abbrev s_spot_of : Stmt := top 37
abbrev s_taken_back : Stmt := top 38
abbrev s_Bits_init : Stmt := inClass (top 41) 0
abbrev s_Bits_row : Stmt := inClass (top 41) 1
abbrev s_Bits_at : Stmt := inClass (top 41) 2
abbrev s_Bits_rank : Stmt := inClass (top 41) 3
abbrev s_Bits_before_block : Stmt := inClass (top 41) 4
abbrev s_Bits_select : Stmt := inClass (top 41) 5
abbrev s_family_ends : Stmt := top 45
abbrev s_families : Stmt := top 46
abbrev s_first_row : Stmt := top 47
abbrev s_item_fault : Stmt := top 48
abbrev s_depths_of : Stmt := top 49
abbrev s_names_are_right : Stmt := top 50
abbrev s_text_fault : Stmt := top 51
abbrev s_fault : Stmt := top 52
abbrev s_Rows_init : Stmt := inClass (top 54) 0
abbrev s_names_in : Stmt := top 55
abbrev s_Gatherer_init : Stmt := inClass (top 56) 0
abbrev s_Gatherer_gather : Stmt := inClass (top 56) 1
abbrev s_rows_of : Stmt := top 57
abbrev s_Wave_init : Stmt := inClass (top 60) 0
abbrev s_Wave_row : Stmt := inClass (top 60) 1
abbrev s_Wave_at : Stmt := inClass (top 60) 2
abbrev s_Wave_digits_of : Stmt := inClass (top 60) 3
abbrev s_Wave_ends : Stmt := inClass (top 60) 4
abbrev s_Wave_rank : Stmt := inClass (top 60) 5
abbrev s_Wave_select : Stmt := inClass (top 60) 6
abbrev s_Wave_following : Stmt := inClass (top 60) 7
abbrev s_Wave_present : Stmt := inClass (top 60) 8
abbrev s_parted : Stmt := top 61
abbrev s_below : Stmt := top 62
abbrev s_Kept_init : Stmt := inClass (top 64) 0
abbrev s_Kept_rows : Stmt := inClass (top 64) 1
abbrev s_Kept_symbol : Stmt := inClass (top 64) 2
abbrev s_Kept_family_number : Stmt := inClass (top 64) 3
abbrev s_Kept_family_stretch : Stmt := inClass (top 64) 4
abbrev s_name : Stmt := top 65
abbrev s_text : Stmt := top 66
abbrev s_family : Stmt := top 67
abbrev s_weight : Stmt := top 68
abbrev s_subtree : Stmt := top 70
abbrev s_part_of : Stmt := top 72
abbrev s_View_init : Stmt := inClass (top 73) 0
abbrev s_View_word : Stmt := inClass (top 73) 1
abbrev s_View_string : Stmt := inClass (top 73) 2
abbrev s_View_children : Stmt := inClass (top 73) 3
abbrev s_View_weight : Stmt := inClass (top 73) 4
abbrev s_View_tree : Stmt := inClass (top 73) 5
abbrev s_View_numbered : Stmt := inClass (top 73) 6
abbrev s_View_way_to : Stmt := inClass (top 73) 7
abbrev s_View_at : Stmt := inClass (top 73) 8
abbrev s_View_changed : Stmt := inClass (top 73) 9
abbrev s_View_are_apart : Stmt := inClass (top 73) 10
abbrev s_Layers_init : Stmt := inClass (top 74) 0
abbrev s_Layers_place_of : Stmt := inClass (top 74) 1
abbrev s_Layers_grafted : Stmt := inClass (top 74) 2
abbrev s_Layers_without : Stmt := inClass (top 74) 3
abbrev s_Layers_lay : Stmt := inClass (top 74) 4
abbrev s_Layers_lift : Stmt := inClass (top 74) 5
abbrev s_Layers_edits : Stmt := inClass (top 74) 6
abbrev s_Layers_shown : Stmt := inClass (top 74) 7
abbrev s_Layers_rows : Stmt := inClass (top 74) 8
abbrev s_Layers_find : Stmt := inClass (top 74) 9
abbrev s_Layers_merge : Stmt := inClass (top 74) 10
abbrev s_Layers_below : Stmt := inClass (top 74) 11
abbrev s_law_draws : Stmt := top 76
abbrev s_law_take : Stmt := top 77
abbrev s_law_string : Stmt := top 78
abbrev s_law_tree : Stmt := top 79
abbrev s_law_names : Stmt := top 80
abbrev s_law_paths : Stmt := top 81
abbrev s_law_at : Stmt := top 82
abbrev s_law_put : Stmt := top 83
abbrev s_law_apart : Stmt := top 84
abbrev s_law_size : Stmt := top 85
abbrev s_law_edited : Stmt := top 86
abbrev s_law_is_tree : Stmt := top 87
abbrev s_law_edit : Stmt := top 88
abbrev s_law_moved : Stmt := top 89
abbrev s_law_inner : Stmt := top 90
abbrev s_law : Stmt := top 91
/-! ### attributes -/
theorem lk_hit {k : Str} {v : V} {l : List (Str × V)} : List.lookup k ((k, v) :: l) = some v := by simp
theorem lk_miss {f k : Str} {v : V} {l : List (Str × V)} (h : (f == k) = false) : List.lookup f ((k, v) :: l) = List.lookup f l := by
  rw [List.lookup_cons, h]
theorem pk_hit {k : Str} {v u : V} {l : List (Str × V)} : putF k v ((k, u) :: l) = (k, v) :: l := by
  show (if k = k then _ else _) = _
  rw [if_pos rfl]
theorem pk_miss {f k : Str} {v u : V} {l : List (Str × V)} (h : (k == f) = false) : putF f v ((k, u) :: l) = (k, u) :: putF f v l := by
  show (if k = f then _ else _) = _
  rw [if_neg (beq_eq_false_iff_ne.mp h)]
theorem putF_new {f : Str} {v : V} : ∀ {l : List (Str × V)}, (∀ p ∈ l, (p.1 == f) = false) → putF f v l = l ++ [(f, v)]
  | [], _ => rfl
  | (k, u) :: l, h => by
    rw [pk_miss (h _ (List.mem_cons_self ..)), putF_new fun p hp => h p (List.mem_cons_of_mem _ hp)]
    rfl
/-! ### the module's names: built-ins that it does not bind, its constants, its classes -/
structure Tx (K : PySem.W.Frag) (mg : Str → Option Value) : Prop where
  len : mg "len" = none
  all : mg "all" = none
  isinstance : mg "isinstance" = none
  any : mg "any" = none
  enumerate : mg "enumerate" = none
  list : mg "list" = none
  reversed : mg "reversed" = none
  max : mg "max" = none
  sum : mg "sum" = none
  range : mg "range" = none
  int : mg "int" = none
  min : mg "min" = none
  sorted : mg "sorted" = none
  set : mg "set" = none
  zip : mg "zip" = none
  abs : mg "abs" = none
  str : mg "str" = none
  MOST_LETTERS : ∃ t, mg "MOST_LETTERS" = some (.int 12 t)
  MOST_TEXT : ∃ t, mg "MOST_TEXT" = some (.int 200 t)
  MOST_NODES : ∃ t, mg "MOST_NODES" = some (.int 5000 t)
  MOST_DEPTH_plain : ∃ t, mg "MOST_DEPTH_plain" = some (.int 60 t)
  BLOCK : ∃ t, mg "BLOCK" = some (.int 32 t)
  MOST_ROWS : ∃ t, mg "MOST_ROWS" = some (.int 5000 t)
  MOST_DEPTH_judge : ∃ t, mg "MOST_DEPTH_judge" = some (.int 60 t)
  MOST_SYMBOLS : ∃ t, mg "MOST_SYMBOLS" = some (.int 65536 t)
  LETTERS : ∃ t, mg "LETTERS" = some (.str "abcdefghijklmnopqrstuvwxyz" t)
  cBits : Cls K (He.ga K "Bits")
  nBits__row : NoAttr K (He.ga K "Bits") "_row"
  nBits__before : NoAttr K (He.ga K "Bits") "_before"
  nBits_size : NoAttr K (He.ga K "Bits") "size"
  nBits_ones : NoAttr K (He.ga K "Bits") "ones"
  cRows : Cls K (He.ga K "Rows")
  nRows_names : NoAttr K (He.ga K "Rows") "names"
  nRows_labels : NoAttr K (He.ga K "Rows") "labels"
  nRows_lasts : NoAttr K (He.ga K "Rows") "lasts"
  nRows_fulls : NoAttr K (He.ga K "Rows") "fulls"
  nRows_texts : NoAttr K (He.ga K "Rows") "texts"
  cGatherer : Cls K (He.ga K "Gatherer")
  nGatherer_names : NoAttr K (He.ga K "Gatherer") "names"
  nGatherer_nodes : NoAttr K (He.ga K "Gatherer") "nodes"
  cWave : Cls K (He.ga K "Wave")
  nWave_size : NoAttr K (He.ga K "Wave") "size"
  nWave_length : NoAttr K (He.ga K "Wave") "length"
  nWave_levels : NoAttr K (He.ga K "Wave") "levels"
  cKept : Cls K (He.ga K "Kept")
  nKept_names : NoAttr K (He.ga K "Kept") "names"
  nKept_texts : NoAttr K (He.ga K "Kept") "texts"
  nKept_wave : NoAttr K (He.ga K "Kept") "wave"
  nKept_lasts : NoAttr K (He.ga K "Kept") "lasts"
  nKept_size : NoAttr K (He.ga K "Kept") "size"
  nKept_starts : NoAttr K (He.ga K "Kept") "starts"
  cView : Cls K (He.ga K "View")
  nView_kept : NoAttr K (He.ga K "View") "kept"
  cLayers : Cls K (He.ga K "Layers")
  nLayers_view : NoAttr K (He.ga K "Layers") "view"
  nLayers_laid : NoAttr K (He.ga K "Layers") "laid"
  nLayers_tops : NoAttr K (He.ga K "Layers") "tops"
/-! ### attributes by name -/
def fBits1 (x0 : V) : List (Str × V) := [("_row", x0)]
def fBits2 (x0 x1 : V) : List (Str × V) := [("_row", x0), ("_before", x1)]
def fBits3 (x0 x1 x2 : V) : List (Str × V) := [("_row", x0), ("_before", x1), ("size", x2)]
def fBits (x0 x1 x2 x3 : V) : List (Str × V) := [("_row", x0), ("_before", x1), ("size", x2), ("ones", x3)]
theorem pBits0 {y : V} : putF ("_row" : Str) y [] = fBits1 y := by
  rfl
theorem pBits1 {x0 y : V} : putF ("_before" : Str) y (fBits1 x0) = fBits2 x0 y := by
  unfold fBits1
  rw [pk_miss (by decide +kernel)]
  rfl
theorem pBits2 {x0 x1 y : V} : putF ("size" : Str) y (fBits2 x0 x1) = fBits3 x0 x1 y := by
  unfold fBits2
  rw [pk_miss (by decide +kernel), pk_miss (by decide +kernel)]
  rfl
theorem pBits3 {x0 x1 x2 y : V} : putF ("ones" : Str) y (fBits3 x0 x1 x2) = fBits x0 x1 x2 y := by
  unfold fBits3
  rw [pk_miss (by decide +kernel), pk_miss (by decide +kernel), pk_miss (by decide +kernel)]
  rfl
theorem lBits__row {x0 x1 x2 x3 : V} : (fBits x0 x1 x2 x3).lookup ("_row" : Str) = some x0 := by
  unfold fBits
  rw [lk_hit]
theorem sBits__row {x0 x1 x2 x3 y : V} : putF ("_row" : Str) y (fBits x0 x1 x2 x3) = fBits y x1 x2 x3 := by
  unfold fBits
  rw [pk_hit]
theorem lBits__before {x0 x1 x2 x3 : V} : (fBits x0 x1 x2 x3).lookup ("_before" : Str) = some x1 := by
  unfold fBits
  rw [lk_miss (by decide +kernel), lk_hit]
theorem sBits__before {x0 x1 x2 x3 y : V} : putF ("_before" : Str) y (fBits x0 x1 x2 x3) = fBits x0 y x2 x3 := by
  unfold fBits
  rw [pk_miss (by decide +kernel), pk_hit]
theorem lBits_size {x0 x1 x2 x3 : V} : (fBits x0 x1 x2 x3).lookup ("size" : Str) = some x2 := by
  unfold fBits
  rw [lk_miss (by decide +kernel), lk_miss (by decide +kernel), lk_hit]
theorem sBits_size {x0 x1 x2 x3 y : V} : putF ("size" : Str) y (fBits x0 x1 x2 x3) = fBits x0 x1 y x3 := by
  unfold fBits
  rw [pk_miss (by decide +kernel), pk_miss (by decide +kernel), pk_hit]
theorem lBits_ones {x0 x1 x2 x3 : V} : (fBits x0 x1 x2 x3).lookup ("ones" : Str) = some x3 := by
  unfold fBits
  rw [lk_miss (by decide +kernel), lk_miss (by decide +kernel), lk_miss (by decide +kernel), lk_hit]
theorem sBits_ones {x0 x1 x2 x3 y : V} : putF ("ones" : Str) y (fBits x0 x1 x2 x3) = fBits x0 x1 x2 y := by
  unfold fBits
  rw [pk_miss (by decide +kernel), pk_miss (by decide +kernel), pk_miss (by decide +kernel), pk_hit]
theorem lBits1__row {x0 : V} : (fBits1 x0).lookup ("_row" : Str) = some x0 := by
  unfold fBits1
  rw [lk_hit]
theorem lBits2__row {x0 x1 : V} : (fBits2 x0 x1).lookup ("_row" : Str) = some x0 := by
  unfold fBits2
  rw [lk_hit]
theorem lBits2__before {x0 x1 : V} : (fBits2 x0 x1).lookup ("_before" : Str) = some x1 := by
  unfold fBits2
  rw [lk_miss (by decide +kernel), lk_hit]
theorem lBits3__row {x0 x1 x2 : V} : (fBits3 x0 x1 x2).lookup ("_row" : Str) = some x0 := by
  unfold fBits3
  rw [lk_hit]
theorem lBits3__before {x0 x1 x2 : V} : (fBits3 x0 x1 x2).lookup ("_before" : Str) = some x1 := by
  unfold fBits3
  rw [lk_miss (by decide +kernel), lk_hit]
theorem lBits3_size {x0 x1 x2 : V} : (fBits3 x0 x1 x2).lookup ("size" : Str) = some x2 := by
  unfold fBits3
  rw [lk_miss (by decide +kernel), lk_miss (by decide +kernel), lk_hit]
theorem lBits_no_init {x0 x1 x2 x3 : V} : (fBits x0 x1 x2 x3).lookup ("__init__" : Str) = none := by
  unfold fBits
  rw [lk_miss (by decide +kernel), lk_miss (by decide +kernel), lk_miss (by decide +kernel), lk_miss (by decide +kernel), List.lookup_nil]
theorem lBits_no_row {x0 x1 x2 x3 : V} : (fBits x0 x1 x2 x3).lookup ("row" : Str) = none := by
  unfold fBits
  rw [lk_miss (by decide +kernel), lk_miss (by decide +kernel), lk_miss (by decide +kernel), lk_miss (by decide +kernel), List.lookup_nil]
theorem lBits_no_at {x0 x1 x2 x3 : V} : (fBits x0 x1 x2 x3).lookup ("at" : Str) = none := by
  unfold fBits
  rw [lk_miss (by decide +kernel), lk_miss (by decide +kernel), lk_miss (by decide +kernel), lk_miss (by decide +kernel), List.lookup_nil]
theorem lBits_no_rank {x0 x1 x2 x3 : V} : (fBits x0 x1 x2 x3).lookup ("rank" : Str) = none := by
  unfold fBits
  rw [lk_miss (by decide +kernel), lk_miss (by decide +kernel), lk_miss (by decide +kernel), lk_miss (by decide +kernel), List.lookup_nil]
theorem lBits_no_before_block {x0 x1 x2 x3 : V} : (fBits x0 x1 x2 x3).lookup ("before_block" : Str) = none := by
  unfold fBits
  rw [lk_miss (by decide +kernel), lk_miss (by decide +kernel), lk_miss (by decide +kernel), lk_miss (by decide +kernel), List.lookup_nil]
theorem lBits_no_select {x0 x1 x2 x3 : V} : (fBits x0 x1 x2 x3).lookup ("select" : Str) = none := by
  unfold fBits
  rw [lk_miss (by decide +kernel), lk_miss (by decide +kernel), lk_miss (by decide +kernel), lk_miss (by decide +kernel), List.lookup_nil]
def fRows1 (x0 : V) : List (Str × V) := [("names", x0)]
def fRows2 (x0 x1 : V) : List (Str × V) := [("names", x0), ("labels", x1)]
def fRows3 (x0 x1 x2 : V) : List (Str × V) := [("names", x0), ("labels", x1), ("lasts", x2)]
def fRows4 (x0 x1 x2 x3 : V) : List (Str × V) := [("names", x0), ("labels", x1), ("lasts", x2), ("fulls", x3)]
def fRows (x0 x1 x2 x3 x4 : V) : List (Str × V) := [("names", x0), ("labels", x1), ("lasts", x2), ("fulls", x3), ("texts", x4)]
theorem pRows0 {y : V} : putF ("names" : Str) y [] = fRows1 y := by
  rfl
theorem pRows1 {x0 y : V} : putF ("labels" : Str) y (fRows1 x0) = fRows2 x0 y := by
  unfold fRows1
  rw [pk_miss (by decide +kernel)]
  rfl
theorem pRows2 {x0 x1 y : V} : putF ("lasts" : Str) y (fRows2 x0 x1) = fRows3 x0 x1 y := by
  unfold fRows2
  rw [pk_miss (by decide +kernel), pk_miss (by decide +kernel)]
  rfl
theorem pRows3 {x0 x1 x2 y : V} : putF ("fulls" : Str) y (fRows3 x0 x1 x2) = fRows4 x0 x1 x2 y := by
  unfold fRows3
  rw [pk_miss (by decide +kernel), pk_miss (by decide +kernel), pk_miss (by decide +kernel)]
  rfl
theorem pRows4 {x0 x1 x2 x3 y : V} : putF ("texts" : Str) y (fRows4 x0 x1 x2 x3) = fRows x0 x1 x2 x3 y := by
  unfold fRows4
  rw [pk_miss (by decide +kernel), pk_miss (by decide +kernel), pk_miss (by decide +kernel), pk_miss (by decide +kernel)]
  rfl
theorem lRows_names {x0 x1 x2 x3 x4 : V} : (fRows x0 x1 x2 x3 x4).lookup ("names" : Str) = some x0 := by
  unfold fRows
  rw [lk_hit]
theorem sRows_names {x0 x1 x2 x3 x4 y : V} : putF ("names" : Str) y (fRows x0 x1 x2 x3 x4) = fRows y x1 x2 x3 x4 := by
  unfold fRows
  rw [pk_hit]
theorem lRows_labels {x0 x1 x2 x3 x4 : V} : (fRows x0 x1 x2 x3 x4).lookup ("labels" : Str) = some x1 := by
  unfold fRows
  rw [lk_miss (by decide +kernel), lk_hit]
theorem sRows_labels {x0 x1 x2 x3 x4 y : V} : putF ("labels" : Str) y (fRows x0 x1 x2 x3 x4) = fRows x0 y x2 x3 x4 := by
  unfold fRows
  rw [pk_miss (by decide +kernel), pk_hit]
theorem lRows_lasts {x0 x1 x2 x3 x4 : V} : (fRows x0 x1 x2 x3 x4).lookup ("lasts" : Str) = some x2 := by
  unfold fRows
  rw [lk_miss (by decide +kernel), lk_miss (by decide +kernel), lk_hit]
theorem sRows_lasts {x0 x1 x2 x3 x4 y : V} : putF ("lasts" : Str) y (fRows x0 x1 x2 x3 x4) = fRows x0 x1 y x3 x4 := by
  unfold fRows
  rw [pk_miss (by decide +kernel), pk_miss (by decide +kernel), pk_hit]
theorem lRows_fulls {x0 x1 x2 x3 x4 : V} : (fRows x0 x1 x2 x3 x4).lookup ("fulls" : Str) = some x3 := by
  unfold fRows
  rw [lk_miss (by decide +kernel), lk_miss (by decide +kernel), lk_miss (by decide +kernel), lk_hit]
theorem sRows_fulls {x0 x1 x2 x3 x4 y : V} : putF ("fulls" : Str) y (fRows x0 x1 x2 x3 x4) = fRows x0 x1 x2 y x4 := by
  unfold fRows
  rw [pk_miss (by decide +kernel), pk_miss (by decide +kernel), pk_miss (by decide +kernel), pk_hit]
theorem lRows_texts {x0 x1 x2 x3 x4 : V} : (fRows x0 x1 x2 x3 x4).lookup ("texts" : Str) = some x4 := by
  unfold fRows
  rw [lk_miss (by decide +kernel), lk_miss (by decide +kernel), lk_miss (by decide +kernel), lk_miss (by decide +kernel), lk_hit]
theorem sRows_texts {x0 x1 x2 x3 x4 y : V} : putF ("texts" : Str) y (fRows x0 x1 x2 x3 x4) = fRows x0 x1 x2 x3 y := by
  unfold fRows
  rw [pk_miss (by decide +kernel), pk_miss (by decide +kernel), pk_miss (by decide +kernel), pk_miss (by decide +kernel), pk_hit]
theorem lRows1_names {x0 : V} : (fRows1 x0).lookup ("names" : Str) = some x0 := by
  unfold fRows1
  rw [lk_hit]
theorem lRows2_names {x0 x1 : V} : (fRows2 x0 x1).lookup ("names" : Str) = some x0 := by
  unfold fRows2
  rw [lk_hit]
theorem lRows2_labels {x0 x1 : V} : (fRows2 x0 x1).lookup ("labels" : Str) = some x1 := by
  unfold fRows2
  rw [lk_miss (by decide +kernel), lk_hit]
theorem lRows3_names {x0 x1 x2 : V} : (fRows3 x0 x1 x2).lookup ("names" : Str) = some x0 := by
  unfold fRows3
  rw [lk_hit]
theorem lRows3_labels {x0 x1 x2 : V} : (fRows3 x0 x1 x2).lookup ("labels" : Str) = some x1 := by
  unfold fRows3
  rw [lk_miss (by decide +kernel), lk_hit]
theorem lRows3_lasts {x0 x1 x2 : V} : (fRows3 x0 x1 x2).lookup ("lasts" : Str) = some x2 := by
  unfold fRows3
  rw [lk_miss (by decide +kernel), lk_miss (by decide +kernel), lk_hit]
theorem lRows4_names {x0 x1 x2 x3 : V} : (fRows4 x0 x1 x2 x3).lookup ("names" : Str) = some x0 := by
  unfold fRows4
  rw [lk_hit]
theorem lRows4_labels {x0 x1 x2 x3 : V} : (fRows4 x0 x1 x2 x3).lookup ("labels" : Str) = some x1 := by
  unfold fRows4
  rw [lk_miss (by decide +kernel), lk_hit]
theorem lRows4_lasts {x0 x1 x2 x3 : V} : (fRows4 x0 x1 x2 x3).lookup ("lasts" : Str) = some x2 := by
  unfold fRows4
  rw [lk_miss (by decide +kernel), lk_miss (by decide +kernel), lk_hit]
theorem lRows4_fulls {x0 x1 x2 x3 : V} : (fRows4 x0 x1 x2 x3).lookup ("fulls" : Str) = some x3 := by
  unfold fRows4
  rw [lk_miss (by decide +kernel), lk_miss (by decide +kernel), lk_miss (by decide +kernel), lk_hit]
theorem lRows_no_init {x0 x1 x2 x3 x4 : V} : (fRows x0 x1 x2 x3 x4).lookup ("__init__" : Str) = none := by
  unfold fRows
  rw [lk_miss (by decide +kernel), lk_miss (by decide +kernel), lk_miss (by decide +kernel), lk_miss (by decide +kernel), lk_miss (by decide +kernel), List.lookup_nil]
def fGatherer1 (x0 : V) : List (Str × V) := [("names", x0)]
def fGatherer (x0 x1 : V) : List (Str × V) := [("names", x0), ("nodes", x1)]
theorem pGatherer0 {y : V} : putF ("names" : Str) y [] = fGatherer1 y := by
  rfl
theorem pGatherer1 {x0 y : V} : putF ("nodes" : Str) y (fGatherer1 x0) = fGatherer x0 y := by
  unfold fGatherer1
  rw [pk_miss (by decide +kernel)]
  rfl
theorem lGatherer_names {x0 x1 : V} : (fGatherer x0 x1).lookup ("names" : Str) = some x0 := by
  unfold fGatherer
  rw [lk_hit]
theorem sGatherer_names {x0 x1 y : V} : putF ("names" : Str) y (fGatherer x0 x1) = fGatherer y x1 := by
  unfold fGatherer
  rw [pk_hit]
theorem lGatherer_nodes {x0 x1 : V} : (fGatherer x0 x1).lookup ("nodes" : Str) = some x1 := by
  unfold fGatherer
  rw [lk_miss (by decide +kernel), lk_hit]
theorem sGatherer_nodes {x0 x1 y : V} : putF ("nodes" : Str) y (fGatherer x0 x1) = fGatherer x0 y := by
  unfold fGatherer
  rw [pk_miss (by decide +kernel), pk_hit]
theorem lGatherer1_names {x0 : V} : (fGatherer1 x0).lookup ("names" : Str) = some x0 := by
  unfold fGatherer1
  rw [lk_hit]
theorem lGatherer_no_init {x0 x1 : V} : (fGatherer x0 x1).lookup ("__init__" : Str) = none := by
  unfold fGatherer
  rw [lk_miss (by decide +kernel), lk_miss (by decide +kernel), List.lookup_nil]
theorem lGatherer_no_gather {x0 x1 : V} : (fGatherer x0 x1).lookup ("gather" : Str) = none := by
  unfold fGatherer
  rw [lk_miss (by decide +kernel), lk_miss (by decide +kernel), List.lookup_nil]
def fWave1 (x0 : V) : List (Str × V) := [("size", x0)]
def fWave2 (x0 x1 : V) : List (Str × V) := [("size", x0), ("length", x1)]
def fWave (x0 x1 x2 : V) : List (Str × V) := [("size", x0), ("length", x1), ("levels", x2)]
theorem pWave0 {y : V} : putF ("size" : Str) y [] = fWave1 y := by
  rfl
theorem pWave1 {x0 y : V} : putF ("length" : Str) y (fWave1 x0) = fWave2 x0 y := by
  unfold fWave1
  rw [pk_miss (by decide +kernel)]
  rfl
theorem pWave2 {x0 x1 y : V} : putF ("levels" : Str) y (fWave2 x0 x1) = fWave x0 x1 y := by
  unfold fWave2
  rw [pk_miss (by decide +kernel), pk_miss (by decide +kernel)]
  rfl
theorem lWave_size {x0 x1 x2 : V} : (fWave x0 x1 x2).lookup ("size" : Str) = some x0 := by
  unfold fWave
  rw [lk_hit]
theorem sWave_size {x0 x1 x2 y : V} : putF ("size" : Str) y (fWave x0 x1 x2) = fWave y x1 x2 := by
  unfold fWave
  rw [pk_hit]
theorem lWave_length {x0 x1 x2 : V} : (fWave x0 x1 x2).lookup ("length" : Str) = some x1 := by
  unfold fWave
  rw [lk_miss (by decide +kernel), lk_hit]
theorem sWave_length {x0 x1 x2 y : V} : putF ("length" : Str) y (fWave x0 x1 x2) = fWave x0 y x2 := by
  unfold fWave
  rw [pk_miss (by decide +kernel), pk_hit]
theorem lWave_levels {x0 x1 x2 : V} : (fWave x0 x1 x2).lookup ("levels" : Str) = some x2 := by
  unfold fWave
  rw [lk_miss (by decide +kernel), lk_miss (by decide +kernel), lk_hit]
theorem sWave_levels {x0 x1 x2 y : V} : putF ("levels" : Str) y (fWave x0 x1 x2) = fWave x0 x1 y := by
  unfold fWave
  rw [pk_miss (by decide +kernel), pk_miss (by decide +kernel), pk_hit]
theorem lWave1_size {x0 : V} : (fWave1 x0).lookup ("size" : Str) = some x0 := by
  unfold fWave1
  rw [lk_hit]
theorem lWave2_size {x0 x1 : V} : (fWave2 x0 x1).lookup ("size" : Str) = some x0 := by
  unfold fWave2
  rw [lk_hit]
theorem lWave2_length {x0 x1 : V} : (fWave2 x0 x1).lookup ("length" : Str) = some x1 := by
  unfold fWave2
  rw [lk_miss (by decide +kernel), lk_hit]
theorem lWave_no_init {x0 x1 x2 : V} : (fWave x0 x1 x2).lookup ("__init__" : Str) = none := by
  unfold fWave
  rw [lk_miss (by decide +kernel), lk_miss (by decide +kernel), lk_miss (by decide +kernel), List.lookup_nil]
theorem lWave_no_row {x0 x1 x2 : V} : (fWave x0 x1 x2).lookup ("row" : Str) = none := by
  unfold fWave
  rw [lk_miss (by decide +kernel), lk_miss (by decide +kernel), lk_miss (by decide +kernel), List.lookup_nil]
theorem lWave_no_at {x0 x1 x2 : V} : (fWave x0 x1 x2).lookup ("at" : Str) = none := by
  unfold fWave
  rw [lk_miss (by decide +kernel), lk_miss (by decide +kernel), lk_miss (by decide +kernel), List.lookup_nil]
theorem lWave_no_digits_of {x0 x1 x2 : V} : (fWave x0 x1 x2).lookup ("digits_of" : Str) = none := by
  unfold fWave
  rw [lk_miss (by decide +kernel), lk_miss (by decide +kernel), lk_miss (by decide +kernel), List.lookup_nil]
theorem lWave_no_ends {x0 x1 x2 : V} : (fWave x0 x1 x2).lookup ("ends" : Str) = none := by
  unfold fWave
  rw [lk_miss (by decide +kernel), lk_miss (by decide +kernel), lk_miss (by decide +kernel), List.lookup_nil]
theorem lWave_no_rank {x0 x1 x2 : V} : (fWave x0 x1 x2).lookup ("rank" : Str) = none := by
  unfold fWave
  rw [lk_miss (by decide +kernel), lk_miss (by decide +kernel), lk_miss (by decide +kernel), List.lookup_nil]
theorem lWave_no_select {x0 x1 x2 : V} : (fWave x0 x1 x2).lookup ("select" : Str) = none := by
  unfold fWave
  rw [lk_miss (by decide +kernel), lk_miss (by decide +kernel), lk_miss (by decide +kernel), List.lookup_nil]
theorem lWave_no_following {x0 x1 x2 : V} : (fWave x0 x1 x2).lookup ("following" : Str) = none := by
  unfold fWave
  rw [lk_miss (by decide +kernel), lk_miss (by decide +kernel), lk_miss (by decide +kernel), List.lookup_nil]
theorem lWave_no_present {x0 x1 x2 : V} : (fWave x0 x1 x2).lookup ("present" : Str) = none := by
  unfold fWave
  rw [lk_miss (by decide +kernel), lk_miss (by decide +kernel), lk_miss (by decide +kernel), List.lookup_nil]
def fKept1 (x0 : V) : List (Str × V) := [("names", x0)]
def fKept2 (x0 x1 : V) : List (Str × V) := [("names", x0), ("texts", x1)]
def fKept3 (x0 x1 x2 : V) : List (Str × V) := [("names", x0), ("texts", x1), ("wave", x2)]
def fKept4 (x0 x1 x2 x3 : V) : List (Str × V) := [("names", x0), ("texts", x1), ("wave", x2), ("lasts", x3)]
def fKept5 (x0 x1 x2 x3 x4 : V) : List (Str × V) := [("names", x0), ("texts", x1), ("wave", x2), ("lasts", x3), ("size", x4)]
def fKept (x0 x1 x2 x3 x4 x5 : V) : List (Str × V) := [("names", x0), ("texts", x1), ("wave", x2), ("lasts", x3), ("size", x4), ("starts", x5)]
theorem pKept0 {y : V} : putF ("names" : Str) y [] = fKept1 y := by
  rfl
theorem pKept1 {x0 y : V} : putF ("texts" : Str) y (fKept1 x0) = fKept2 x0 y := by
  unfold fKept1
  rw [pk_miss (by decide +kernel)]
  rfl
theorem pKept2 {x0 x1 y : V} : putF ("wave" : Str) y (fKept2 x0 x1) = fKept3 x0 x1 y := by
  unfold fKept2
  rw [pk_miss (by decide +kernel), pk_miss (by decide +kernel)]
  rfl
theorem pKept3 {x0 x1 x2 y : V} : putF ("lasts" : Str) y (fKept3 x0 x1 x2) = fKept4 x0 x1 x2 y := by
  unfold fKept3
  rw [pk_miss (by decide +kernel), pk_miss (by decide +kernel), pk_miss (by decide +kernel)]
  rfl
theorem pKept4 {x0 x1 x2 x3 y : V} : putF ("size" : Str) y (fKept4 x0 x1 x2 x3) = fKept5 x0 x1 x2 x3 y := by
  unfold fKept4
  rw [pk_miss (by decide +kernel), pk_miss (by decide +kernel), pk_miss (by decide +kernel), pk_miss (by decide +kernel)]
  rfl
theorem pKept5 {x0 x1 x2 x3 x4 y : V} : putF ("starts" : Str) y (fKept5 x0 x1 x2 x3 x4) = fKept x0 x1 x2 x3 x4 y := by
  unfold fKept5
  rw [pk_miss (by decide +kernel), pk_miss (by decide +kernel), pk_miss (by decide +kernel), pk_miss (by decide +kernel), pk_miss (by decide +kernel)]
  rfl
theorem lKept_names {x0 x1 x2 x3 x4 x5 : V} : (fKept x0 x1 x2 x3 x4 x5).lookup ("names" : Str) = some x0 := by
  unfold fKept
  rw [lk_hit]
theorem sKept_names {x0 x1 x2 x3 x4 x5 y : V} : putF ("names" : Str) y (fKept x0 x1 x2 x3 x4 x5) = fKept y x1 x2 x3 x4 x5 := by
  unfold fKept
  rw [pk_hit]
theorem lKept_texts {x0 x1 x2 x3 x4 x5 : V} : (fKept x0 x1 x2 x3 x4 x5).lookup ("texts" : Str) = some x1 := by
  unfold fKept
  rw [lk_miss (by decide +kernel), lk_hit]
theorem sKept_texts {x0 x1 x2 x3 x4 x5 y : V} : putF ("texts" : Str) y (fKept x0 x1 x2 x3 x4 x5) = fKept x0 y x2 x3 x4 x5 := by
  unfold fKept
  rw [pk_miss (by decide +kernel), pk_hit]
theorem lKept_wave {x0 x1 x2 x3 x4 x5 : V} : (fKept x0 x1 x2 x3 x4 x5).lookup ("wave" : Str) = some x2 := by
  unfold fKept
  rw [lk_miss (by decide +kernel), lk_miss (by decide +kernel), lk_hit]
theorem sKept_wave {x0 x1 x2 x3 x4 x5 y : V} : putF ("wave" : Str) y (fKept x0 x1 x2 x3 x4 x5) = fKept x0 x1 y x3 x4 x5 := by
  unfold fKept
  rw [pk_miss (by decide +kernel), pk_miss (by decide +kernel), pk_hit]
theorem lKept_lasts {x0 x1 x2 x3 x4 x5 : V} : (fKept x0 x1 x2 x3 x4 x5).lookup ("lasts" : Str) = some x3 := by
  unfold fKept
  rw [lk_miss (by decide +kernel), lk_miss (by decide +kernel), lk_miss (by decide +kernel), lk_hit]
theorem sKept_lasts {x0 x1 x2 x3 x4 x5 y : V} : putF ("lasts" : Str) y (fKept x0 x1 x2 x3 x4 x5) = fKept x0 x1 x2 y x4 x5 := by
  unfold fKept
  rw [pk_miss (by decide +kernel), pk_miss (by decide +kernel), pk_miss (by decide +kernel), pk_hit]
theorem lKept_size {x0 x1 x2 x3 x4 x5 : V} : (fKept x0 x1 x2 x3 x4 x5).lookup ("size" : Str) = some x4 := by
  unfold fKept
  rw [lk_miss (by decide +kernel), lk_miss (by decide +kernel), lk_miss (by decide +kernel), lk_miss (by decide +kernel), lk_hit]
theorem sKept_size {x0 x1 x2 x3 x4 x5 y : V} : putF ("size" : Str) y (fKept x0 x1 x2 x3 x4 x5) = fKept x0 x1 x2 x3 y x5 := by
  unfold fKept
  rw [pk_miss (by decide +kernel), pk_miss (by decide +kernel), pk_miss (by decide +kernel), pk_miss (by decide +kernel), pk_hit]
theorem lKept_starts {x0 x1 x2 x3 x4 x5 : V} : (fKept x0 x1 x2 x3 x4 x5).lookup ("starts" : Str) = some x5 := by
  unfold fKept
  rw [lk_miss (by decide +kernel), lk_miss (by decide +kernel), lk_miss (by decide +kernel), lk_miss (by decide +kernel), lk_miss (by decide +kernel), lk_hit]
theorem sKept_starts {x0 x1 x2 x3 x4 x5 y : V} : putF ("starts" : Str) y (fKept x0 x1 x2 x3 x4 x5) = fKept x0 x1 x2 x3 x4 y := by
  unfold fKept
  rw [pk_miss (by decide +kernel), pk_miss (by decide +kernel), pk_miss (by decide +kernel), pk_miss (by decide +kernel), pk_miss (by decide +kernel), pk_hit]
theorem lKept1_names {x0 : V} : (fKept1 x0).lookup ("names" : Str) = some x0 := by
  unfold fKept1
  rw [lk_hit]
theorem lKept2_names {x0 x1 : V} : (fKept2 x0 x1).lookup ("names" : Str) = some x0 := by
  unfold fKept2
  rw [lk_hit]
theorem lKept2_texts {x0 x1 : V} : (fKept2 x0 x1).lookup ("texts" : Str) = some x1 := by
  unfold fKept2
  rw [lk_miss (by decide +kernel), lk_hit]
theorem lKept3_names {x0 x1 x2 : V} : (fKept3 x0 x1 x2).lookup ("names" : Str) = some x0 := by
  unfold fKept3
  rw [lk_hit]
theorem lKept3_texts {x0 x1 x2 : V} : (fKept3 x0 x1 x2).lookup ("texts" : Str) = some x1 := by
  unfold fKept3
  rw [lk_miss (by decide +kernel), lk_hit]
theorem lKept3_wave {x0 x1 x2 : V} : (fKept3 x0 x1 x2).lookup ("wave" : Str) = some x2 := by
  unfold fKept3
  rw [lk_miss (by decide +kernel), lk_miss (by decide +kernel), lk_hit]
theorem lKept4_names {x0 x1 x2 x3 : V} : (fKept4 x0 x1 x2 x3).lookup ("names" : Str) = some x0 := by
  unfold fKept4
  rw [lk_hit]
theorem lKept4_texts {x0 x1 x2 x3 : V} : (fKept4 x0 x1 x2 x3).lookup ("texts" : Str) = some x1 := by
  unfold fKept4
  rw [lk_miss (by decide +kernel), lk_hit]
theorem lKept4_wave {x0 x1 x2 x3 : V} : (fKept4 x0 x1 x2 x3).lookup ("wave" : Str) = some x2 := by
  unfold fKept4
  rw [lk_miss (by decide +kernel), lk_miss (by decide +kernel), lk_hit]
theorem lKept4_lasts {x0 x1 x2 x3 : V} : (fKept4 x0 x1 x2 x3).lookup ("lasts" : Str) = some x3 := by
  unfold fKept4
  rw [lk_miss (by decide +kernel), lk_miss (by decide +kernel), lk_miss (by decide +kernel), lk_hit]
theorem lKept5_names {x0 x1 x2 x3 x4 : V} : (fKept5 x0 x1 x2 x3 x4).lookup ("names" : Str) = some x0 := by
  unfold fKept5
  rw [lk_hit]
theorem lKept5_texts {x0 x1 x2 x3 x4 : V} : (fKept5 x0 x1 x2 x3 x4).lookup ("texts" : Str) = some x1 := by
  unfold fKept5
  rw [lk_miss (by decide +kernel), lk_hit]
theorem lKept5_wave {x0 x1 x2 x3 x4 : V} : (fKept5 x0 x1 x2 x3 x4).lookup ("wave" : Str) = some x2 := by
  unfold fKept5
  rw [lk_miss (by decide +kernel), lk_miss (by decide +kernel), lk_hit]
theorem lKept5_lasts {x0 x1 x2 x3 x4 : V} : (fKept5 x0 x1 x2 x3 x4).lookup ("lasts" : Str) = some x3 := by
  unfold fKept5
  rw [lk_miss (by decide +kernel), lk_miss (by decide +kernel), lk_miss (by decide +kernel), lk_hit]
theorem lKept5_size {x0 x1 x2 x3 x4 : V} : (fKept5 x0 x1 x2 x3 x4).lookup ("size" : Str) = some x4 := by
  unfold fKept5
  rw [lk_miss (by decide +kernel), lk_miss (by decide +kernel), lk_miss (by decide +kernel), lk_miss (by decide +kernel), lk_hit]
theorem lKept_no_init {x0 x1 x2 x3 x4 x5 : V} : (fKept x0 x1 x2 x3 x4 x5).lookup ("__init__" : Str) = none := by
  unfold fKept
  rw [lk_miss (by decide +kernel), lk_miss (by decide +kernel), lk_miss (by decide +kernel), lk_miss (by decide +kernel), lk_miss (by decide +kernel), lk_miss (by decide +kernel), List.lookup_nil]
theorem lKept_no_rows {x0 x1 x2 x3 x4 x5 : V} : (fKept x0 x1 x2 x3 x4 x5).lookup ("rows" : Str) = none := by
  unfold fKept
  rw [lk_miss (by decide +kernel), lk_miss (by decide +kernel), lk_miss (by decide +kernel), lk_miss (by decide +kernel), lk_miss (by decide +kernel), lk_miss (by decide +kernel), List.lookup_nil]
theorem lKept_no_symbol {x0 x1 x2 x3 x4 x5 : V} : (fKept x0 x1 x2 x3 x4 x5).lookup ("symbol" : Str) = none := by
  unfold fKept
  rw [lk_miss (by decide +kernel), lk_miss (by decide +kernel), lk_miss (by decide +kernel), lk_miss (by decide +kernel), lk_miss (by decide +kernel), lk_miss (by decide +kernel), List.lookup_nil]
theorem lKept_no_family_number {x0 x1 x2 x3 x4 x5 : V} : (fKept x0 x1 x2 x3 x4 x5).lookup ("family_number" : Str) = none := by
  unfold fKept
  rw [lk_miss (by decide +kernel), lk_miss (by decide +kernel), lk_miss (by decide +kernel), lk_miss (by decide +kernel), lk_miss (by decide +kernel), lk_miss (by decide +kernel), List.lookup_nil]
theorem lKept_no_family_stretch {x0 x1 x2 x3 x4 x5 : V} : (fKept x0 x1 x2 x3 x4 x5).lookup ("family_stretch" : Str) = none := by
  unfold fKept
  rw [lk_miss (by decide +kernel), lk_miss (by decide +kernel), lk_miss (by decide +kernel), lk_miss (by decide +kernel), lk_miss (by decide +kernel), lk_miss (by decide +kernel), List.lookup_nil]
def fView (x0 : V) : List (Str × V) := [("kept", x0)]
theorem pView0 {y : V} : putF ("kept" : Str) y [] = fView y := by
  rfl
theorem lView_kept {x0 : V} : (fView x0).lookup ("kept" : Str) = some x0 := by
  unfold fView
  rw [lk_hit]
theorem sView_kept {x0 y : V} : putF ("kept" : Str) y (fView x0) = fView y := by
  unfold fView
  rw [pk_hit]
theorem lView_no_init {x0 : V} : (fView x0).lookup ("__init__" : Str) = none := by
  unfold fView
  rw [lk_miss (by decide +kernel), List.lookup_nil]
theorem lView_no_word {x0 : V} : (fView x0).lookup ("word" : Str) = none := by
  unfold fView
  rw [lk_miss (by decide +kernel), List.lookup_nil]
theorem lView_no_string {x0 : V} : (fView x0).lookup ("string" : Str) = none := by
  unfold fView
  rw [lk_miss (by decide +kernel), List.lookup_nil]
theorem lView_no_children {x0 : V} : (fView x0).lookup ("children" : Str) = none := by
  unfold fView
  rw [lk_miss (by decide +kernel), List.lookup_nil]
theorem lView_no_weight {x0 : V} : (fView x0).lookup ("weight" : Str) = none := by
  unfold fView
  rw [lk_miss (by decide +kernel), List.lookup_nil]
theorem lView_no_tree {x0 : V} : (fView x0).lookup ("tree" : Str) = none := by
  unfold fView
  rw [lk_miss (by decide +kernel), List.lookup_nil]
theorem lView_no_numbered {x0 : V} : (fView x0).lookup ("numbered" : Str) = none := by
  unfold fView
  rw [lk_miss (by decide +kernel), List.lookup_nil]
theorem lView_no_way_to {x0 : V} : (fView x0).lookup ("way_to" : Str) = none := by
  unfold fView
  rw [lk_miss (by decide +kernel), List.lookup_nil]
theorem lView_no_at {x0 : V} : (fView x0).lookup ("at" : Str) = none := by
  unfold fView
  rw [lk_miss (by decide +kernel), List.lookup_nil]
theorem lView_no_changed {x0 : V} : (fView x0).lookup ("changed" : Str) = none := by
  unfold fView
  rw [lk_miss (by decide +kernel), List.lookup_nil]
theorem lView_no_are_apart {x0 : V} : (fView x0).lookup ("are_apart" : Str) = none := by
  unfold fView
  rw [lk_miss (by decide +kernel), List.lookup_nil]
def fLayers1 (x0 : V) : List (Str × V) := [("view", x0)]
def fLayers2 (x0 x1 : V) : List (Str × V) := [("view", x0), ("laid", x1)]
def fLayers (x0 x1 x2 : V) : List (Str × V) := [("view", x0), ("laid", x1), ("tops", x2)]
theorem pLayers0 {y : V} : putF ("view" : Str) y [] = fLayers1 y := by
  rfl
theorem pLayers1 {x0 y : V} : putF ("laid" : Str) y (fLayers1 x0) = fLayers2 x0 y := by
  unfold fLayers1
  rw [pk_miss (by decide +kernel)]
  rfl
theorem pLayers2 {x0 x1 y : V} : putF ("tops" : Str) y (fLayers2 x0 x1) = fLayers x0 x1 y := by
  unfold fLayers2
  rw [pk_miss (by decide +kernel), pk_miss (by decide +kernel)]
  rfl
theorem lLayers_view {x0 x1 x2 : V} : (fLayers x0 x1 x2).lookup ("view" : Str) = some x0 := by
  unfold fLayers
  rw [lk_hit]
theorem sLayers_view {x0 x1 x2 y : V} : putF ("view" : Str) y (fLayers x0 x1 x2) = fLayers y x1 x2 := by
  unfold fLayers
  rw [pk_hit]
theorem lLayers_laid {x0 x1 x2 : V} : (fLayers x0 x1 x2).lookup ("laid" : Str) = some x1 := by
  unfold fLayers
  rw [lk_miss (by decide +kernel), lk_hit]
theorem sLayers_laid {x0 x1 x2 y : V} : putF ("laid" : Str) y (fLayers x0 x1 x2) = fLayers x0 y x2 := by
  unfold fLayers
  rw [pk_miss (by decide +kernel), pk_hit]
theorem lLayers_tops {x0 x1 x2 : V} : (fLayers x0 x1 x2).lookup ("tops" : Str) = some x2 := by
  unfold fLayers
  rw [lk_miss (by decide +kernel), lk_miss (by decide +kernel), lk_hit]
theorem sLayers_tops {x0 x1 x2 y : V} : putF ("tops" : Str) y (fLayers x0 x1 x2) = fLayers x0 x1 y := by
  unfold fLayers
  rw [pk_miss (by decide +kernel), pk_miss (by decide +kernel), pk_hit]
theorem lLayers1_view {x0 : V} : (fLayers1 x0).lookup ("view" : Str) = some x0 := by
  unfold fLayers1
  rw [lk_hit]
theorem lLayers2_view {x0 x1 : V} : (fLayers2 x0 x1).lookup ("view" : Str) = some x0 := by
  unfold fLayers2
  rw [lk_hit]
theorem lLayers2_laid {x0 x1 : V} : (fLayers2 x0 x1).lookup ("laid" : Str) = some x1 := by
  unfold fLayers2
  rw [lk_miss (by decide +kernel), lk_hit]
theorem lLayers_no_init {x0 x1 x2 : V} : (fLayers x0 x1 x2).lookup ("__init__" : Str) = none := by
  unfold fLayers
  rw [lk_miss (by decide +kernel), lk_miss (by decide +kernel), lk_miss (by decide +kernel), List.lookup_nil]
theorem lLayers_no_place_of {x0 x1 x2 : V} : (fLayers x0 x1 x2).lookup ("place_of" : Str) = none := by
  unfold fLayers
  rw [lk_miss (by decide +kernel), lk_miss (by decide +kernel), lk_miss (by decide +kernel), List.lookup_nil]
theorem lLayers_no_grafted {x0 x1 x2 : V} : (fLayers x0 x1 x2).lookup ("grafted" : Str) = none := by
  unfold fLayers
  rw [lk_miss (by decide +kernel), lk_miss (by decide +kernel), lk_miss (by decide +kernel), List.lookup_nil]
theorem lLayers_no_without {x0 x1 x2 : V} : (fLayers x0 x1 x2).lookup ("without" : Str) = none := by
  unfold fLayers
  rw [lk_miss (by decide +kernel), lk_miss (by decide +kernel), lk_miss (by decide +kernel), List.lookup_nil]
theorem lLayers_no_lay {x0 x1 x2 : V} : (fLayers x0 x1 x2).lookup ("lay" : Str) = none := by
  unfold fLayers
  rw [lk_miss (by decide +kernel), lk_miss (by decide +kernel), lk_miss (by decide +kernel), List.lookup_nil]
theorem lLayers_no_lift {x0 x1 x2 : V} : (fLayers x0 x1 x2).lookup ("lift" : Str) = none := by
  unfold fLayers
  rw [lk_miss (by decide +kernel), lk_miss (by decide +kernel), lk_miss (by decide +kernel), List.lookup_nil]
theorem lLayers_no_edits {x0 x1 x2 : V} : (fLayers x0 x1 x2).lookup ("edits" : Str) = none := by
  unfold fLayers
  rw [lk_miss (by decide +kernel), lk_miss (by decide +kernel), lk_miss (by decide +kernel), List.lookup_nil]
theorem lLayers_no_shown {x0 x1 x2 : V} : (fLayers x0 x1 x2).lookup ("shown" : Str) = none := by
  unfold fLayers
  rw [lk_miss (by decide +kernel), lk_miss (by decide +kernel), lk_miss (by decide +kernel), List.lookup_nil]
theorem lLayers_no_rows {x0 x1 x2 : V} : (fLayers x0 x1 x2).lookup ("rows" : Str) = none := by
  unfold fLayers
  rw [lk_miss (by decide +kernel), lk_miss (by decide +kernel), lk_miss (by decide +kernel), List.lookup_nil]
theorem lLayers_no_find {x0 x1 x2 : V} : (fLayers x0 x1 x2).lookup ("find" : Str) = none := by
  unfold fLayers
  rw [lk_miss (by decide +kernel), lk_miss (by decide +kernel), lk_miss (by decide +kernel), List.lookup_nil]
theorem lLayers_no_merge {x0 x1 x2 : V} : (fLayers x0 x1 x2).lookup ("merge" : Str) = none := by
  unfold fLayers
  rw [lk_miss (by decide +kernel), lk_miss (by decide +kernel), lk_miss (by decide +kernel), List.lookup_nil]
theorem lLayers_no_below {x0 x1 x2 : V} : (fLayers x0 x1 x2).lookup ("below" : Str) = none := by
  unfold fLayers
  rw [lk_miss (by decide +kernel), lk_miss (by decide +kernel), lk_miss (by decide +kernel), List.lookup_nil]
/-! ### a def of the text and its promise, by name -/
section
variable (P : Program) (w : World) (K : PySem.W.Frag) (mg : Str → Option Value) (base : Heap)
/-- the module's def x keeps the promise sp with k calls -/
structure Hd (x : Str) (ps : List Str) (k : Nat) (sp : Sp) : Prop where
  ex : ∃ (f : Addr) (fd : FuncData), mg x = some (.ref f) ∧ PySem.W.keepIn K (.ref f) = true ∧ Binds K fd ps [] ∧ FnOk P w K mg base CX0 k f fd ps sp
/-- the method m of the class at C; dvs: the values that fill up -/
structure Md (C : Addr) (m : Str) (ps : List Str) (dvs : List V) (k : Nat) (sp : Sp) : Prop where
  ex : ∃ (f : Addr) (fd : FuncData) (ds : List Value), Meth K C m f ∧ Vals dvs ds ∧ Binds K fd ps ds ∧ FnOk P w K mg base CX0 k f fd ps sp
/-- the class x, made by its __init__ -/
structure Mkd (x : Str) (C : Addr) (ps : List Str) (k : Nat) (sp : Sp) : Prop where
  ex : ∃ (f : Addr) (fd : FuncData) (j : Nat), mg x = some (.ref C) ∧ Mk K C f ∧ Binds K fd ps [] ∧ FnOk P w K mg base CX0 j f fd ps sp ∧ j + 1 ≤ k
end
section
variable (K : PySem.W.Frag) (mg : Str → Option Value)
/-- the text's def st is the module's x -/
structure Df (x : Str) (st : Stmt) : Prop where
  ex : ∃ (f : Addr) (fd : FuncData), Fun K x x st f fd ∧ mg x = some (.ref f)
/-- the text's def st is the method m of the class at C -/
structure Dm (C : Addr) (m qual : Str) (st : Stmt) : Prop where
  ex : ∃ (f : Addr) (fd : FuncData), Fun K m qual st f fd ∧ Meth K C m f
/-- the same with one default -/
structure Dn (C : Addr) (m qual : Str) (st : Stmt) (d : V) : Prop where
  ex : ∃ (f : Addr) (fd : FuncData), FunD K m qual (defArgs st) (defBody st) (defScope st) [d] [] f fd ∧ Meth K C m f
structure Di (x : Str) (C : Addr) (qual : Str) (st : Stmt) : Prop where
  ex : ∃ (f : Addr) (fd : FuncData), Fun K "__init__" qual st f fd ∧ Mk K C f ∧ mg x = some (.ref C)
end
section
variable {P : Program} {w : World} {K : PySem.W.Frag} {mg : Str → Option Value} {base : Heap} {x m qual : Str} {C : Addr} {st : Stmt} {ps N : List Str} {dvs : List V} {j k : Nat} {sp sp' : Sp}
theorem Hd.mono (h : Hd P w K mg base x ps j sp) (le : j ≤ k) : Hd P w K mg base x ps k sp := by
  obtain ⟨f, fd, a, b, c, F⟩ := h.ex
  exact ⟨f, fd, a, b, c, F.mono le⟩
theorem Md.mono (h : Md P w K mg base C m ps dvs j sp) (le : j ≤ k) : Md P w K mg base C m ps dvs k sp := by
  obtain ⟨f, fd, ds, a, b, c, F⟩ := h.ex
  exact ⟨f, fd, ds, a, b, c, F.mono le⟩
theorem Mkd.mono (h : Mkd P w K mg base x C ps j sp) (le : j ≤ k) : Mkd P w K mg base x C ps k sp := by
  obtain ⟨f, fd, i, a, b, c, F, l⟩ := h.ex
  exact ⟨f, fd, i, a, b, c, F, Nat.le_trans l le⟩
/-- THE RULE for a def of the module -/
theorem hd_mk (D : Df K mg x st) (S : FnScope N ps (defScope st))
    (hb : ∀ (kV doc pm : Value) (an : Option Addr) (cdv ct : Value) (us : List Value), us.length = ps.length → bindArgs (PySem.W.fnOf x x (defArgs st) (defBody st) (defScope st) .none kV doc pm an cdv ct) ⟨us, []⟩ = pure (ps.zip us))
    (len : ∀ vs H Q E, sp vs H Q E → vs.length = ps.length)
    (hbody : ∀ (f : Addr) (cdv : Value) (A : Around) (outer : List Env) (s : Shared) (H : Hp) (vs : List V) (Q : VK) (E : XK), Room k (A.deeper (envOfC x (defScope st) s.heap.objs.size f cdv)) → sp vs H Q E →
      ∃ t, PSs (cxOf CX0 P w K mg base N x (defScope st) f cdv A outer s H E).nox (defBody st) t ∧ t { nx := fun _ H' => Q .non H', rt := Q } (start N vs) H) : Hd P w K mg base x ps (k + 1) sp := by
  obtain ⟨f, fd, F, a⟩ := D.ex
  exact ⟨f, fd, a, F.kp, F.binds hb, F.ok S len (hbody f)⟩
theorem md_mk (D : Dm K C m qual st) (S : FnScope N ps (defScope st))
    (hb : ∀ (kV doc pm : Value) (an : Option Addr) (cdv ct : Value) (us : List Value), us.length = ps.length → bindArgs (PySem.W.fnOf m qual (defArgs st) (defBody st) (defScope st) .none kV doc pm an cdv ct) ⟨us, []⟩ = pure (ps.zip us))
    (len : ∀ vs H Q E, sp vs H Q E → vs.length = ps.length)
    (hbody : ∀ (f : Addr) (cdv : Value) (A : Around) (outer : List Env) (s : Shared) (H : Hp) (vs : List V) (Q : VK) (E : XK), Room k (A.deeper (envOfC qual (defScope st) s.heap.objs.size f cdv)) → sp vs H Q E →
      ∃ t, PSs (cxOf CX0 P w K mg base N qual (defScope st) f cdv A outer s H E).nox (defBody st) t ∧ t { nx := fun _ H' => Q .non H', rt := Q } (start N vs) H) : Md P w K mg base C m ps [] (k + 1) sp := by
  obtain ⟨f, fd, F, a⟩ := D.ex
  exact ⟨f, fd, [], a, .nil, F.binds hb, F.ok S len (hbody f)⟩
theorem mkd_mk (D : Di K mg x C qual st) (S : FnScope N ps (defScope st))
    (hb : ∀ (kV doc pm : Value) (an : Option Addr) (cdv ct : Value) (us : List Value), us.length = ps.length → bindArgs (PySem.W.fnOf "__init__" qual (defArgs st) (defBody st) (defScope st) .none kV doc pm an cdv ct) ⟨us, []⟩ = pure (ps.zip us))
    (len : ∀ vs H Q E, sp vs H Q E → vs.length = ps.length)
    (hbody : ∀ (f : Addr) (cdv : Value) (A : Around) (outer : List Env) (s : Shared) (H : Hp) (vs : List V) (Q : VK) (E : XK), Room k (A.deeper (envOfC qual (defScope st) s.heap.objs.size f cdv)) → sp vs H Q E →
      ∃ t, PSs (cxOf CX0 P w K mg base N qual (defScope st) f cdv A outer s H E).nox (defBody st) t ∧ t { nx := fun _ H' => Q .non H', rt := Q } (start N vs) H) : Mkd P w K mg base x C ps (k + 2) sp := by
  obtain ⟨f, fd, F, M, a⟩ := D.ex
  exact ⟨f, fd, k + 1, a, M, F.binds hb, F.ok S len (hbody f), Nat.le_refl _⟩
end
section
variable {X : Cx} {k : Nat} {C : Addr} {ps : List Str} {sp : Sp} {dvs : List V} {x m : Str} {p pos apos : Pos} {e o : Expr} {es : List Expr} {ta : TE} {t : TA}
theorem pe_hd (h : Hd X.prog X.w X.K X.mg X.base x ps k sp) (hr : Room k X.A) (hg : Gl X x) (ha : PA X (e :: es) t) (hdb : (x == ("__debug__" : Str)) = false := by decide) (he : starEach (e :: es) X.env = (false, eval e X.env) :: starEach es X.env := by rfl)
    (hpl : (backTo pos (starEach es X.env)).any (·.1) = false := by rfl) : PE X (.Call (.Name x p) (e :: es) [] pos) (tCall sp [] E0 t) := by
  obtain ⟨f, fd, hm, hk, hb, F⟩ := h.ex
  exact pe_call F hr hg hm hk hb .nil pass0 ha hdb he hpl
theorem pe_md {pl : Sem Bool} (h : Md X.prog X.w X.K X.mg X.base C m ps dvs k sp) (c : Cls X.K C) (hr : Room k X.A) (ho : PE X o ta) (ha : PA X (e :: es) t)
    (hst : starEach (e :: es) X.env = (false, eval e X.env) :: starEach es X.env := by rfl) (hpl : (backTo pos (starEach es X.env)).any (·.1) = false := by rfl)
    (ht : eval (.Call (.Attribute o m apos) (e :: es) [] pos) X.env = (do
      let ov ← eval o X.env
      standAt apos.atName
      let (f, first) ← holding [ov] (getMethod ov m pl)
      callWith pos f first (backTo pos (starEach (e :: es) X.env)) (backToKw pos (keywordEach [] X.env))) := by rfl) : PE X (.Call (.Attribute o m apos) (e :: es) [] pos) (tMeth C m sp dvs E0 ta t) := by
  obtain ⟨f, fd, ds, hm, hd, hb, F⟩ := h.ex
  exact pe_meth ho c hm F hr hb hd pass0 ha hst hpl ht
theorem pe_md0 {pl : Sem Bool} (h : Md X.prog X.w X.K X.mg X.base C m ps dvs k sp) (c : Cls X.K C) (hr : Room k X.A) (ho : PE X o ta)
    (ht : eval (.Call (.Attribute o m apos) [] [] pos) X.env = (do
      let ov ← eval o X.env
      standAt apos.atName
      let (f, first) ← holding [ov] (getMethod ov m pl)
      callWith pos f first (backTo pos (starEach [] X.env)) (backToKw pos (keywordEach [] X.env))) := by rfl) : PE X (.Call (.Attribute o m apos) [] [] pos) (tMeth C m sp dvs E0 ta tNil) := by
  obtain ⟨f, fd, ds, hm, hd, hb, F⟩ := h.ex
  exact pe_meth0 ho c hm F hr hb hd pass0 ht
theorem pe_mkd (h : Mkd X.prog X.w X.K X.mg X.base x C ps k sp) (hr : Room k X.A) (hg : Gl X x) (ha : PA X (e :: es) t) (hdb : (x == ("__debug__" : Str)) = false := by decide) (he : starEach (e :: es) X.env = (false, eval e X.env) :: starEach es X.env := by rfl)
    (hpl : (backTo pos (starEach es X.env)).any (·.1) = false := by rfl) : PE X (.Call (.Name x p) (e :: es) [] pos) (tMake C sp [] E0 t) := by
  obtain ⟨f, fd, j, hm, M, hb, F, le⟩ := h.ex
  exact pe_make M F (hr.mono le) hg hm hb .nil pass0 ha hdb he hpl
end
section
variable {X : Cx} {x : Str} {pos : Pos} {i : Int} {z : Str}
theorem pe_gi (hg : Gl X x) (h : ∃ t, X.mg x = some (.int i t)) (hd : (x == ("__debug__" : Str)) = false := by decide) : PE X (.Name x pos) (tC (.int i)) := by
  obtain ⟨t, e⟩ := h
  exact pe_glob hg e ⟨t, rfl⟩ hd
theorem pe_gs (hg : Gl X x) (h : ∃ t, X.mg x = some (.str z t)) (hd : (x == ("__debug__" : Str)) = false := by decide) : PE X (.Name x pos) (tC (.str z)) := by
  obtain ⟨t, e⟩ := h
  exact pe_glob hg e ⟨t, rfl⟩ hd
end
/-! ### rules within a comprehension's block: the written part told by name -/
section
variable {X : Cx} {o : Expr} {ta : TE} {f : Str} {pos : Pos}
theorem ixl (K : PySem.W.Frag) (h : X.K = K := by rfl) : IxR X (rIxL K) := h ▸ ix_list
theorem ixt (K : PySem.W.Frag) (h : X.K = K := by rfl) : IxR X (rIxT K) := h ▸ ix_tup
theorem sll (K : PySem.W.Frag) (h : X.K = K := by rfl) : SlR X (rSlL K) := h ▸ sl_list
theorem clen (K : PySem.W.Frag) (h : X.K = K := by rfl) : CallR X (.builtin "len") (fun xs H Q => ∃ p ys, xs = [.ref p] ∧ (SqL K H p ys ∨ SqT K H p ys) ∧ Q (.int ys.length) H) := h ▸ call_len_seq
theorem cisi (K : PySem.W.Frag) (h : X.K = K := by rfl) : CallR X (.builtin "isinstance") (rIsi K) := h ▸ call_isi
theorem oin (K : PySem.W.Frag) (h : X.K = K := by rfl) : OpR X (compareOp .In) (rIn K false) := h ▸ op_in_seq
theorem onin (K : PySem.W.Frag) (h : X.K = K := by rfl) : OpR X (compareOp .NotIn) (rIn K true) := h ▸ op_notIn_seq
theorem pe_fldK (K : PySem.W.Frag) (ho : PE X o ta) (hb : attributeBase o f X.env (eval o X.env) = eval o X.env) (h : X.K = K := by rfl) : PE X (.Attribute o f pos) (tFld K ta f) := h ▸ pe_fld ho hb
end
/-! ### how the heap grows: G what is frozen, H the heap; W what may be written -/
abbrev W0 : Addr → Prop := fun _ => False
structure Gr (W : Addr → Prop) (G H G' H' : Hp) : Prop where
  keep : ∀ b o, H b = some o → ¬ W b → H' b = some o
  dom : ∀ b, H' b = none → H b = none
  ext : Same G G'
  sub : Same G' H'
  new : ∀ b o, G' b = some o → G b = some o ∨ H b = none
section
variable {W W' : Addr → Prop} {G H G1 H1 G2 H2 : Hp} {b p : Addr} {o o' : HO}
theorem Gr.refl (s : Same G H) : Gr W G H G H := ⟨fun _ _ h _ => h, fun _ h => h, Same.refl G, s, fun _ _ h => .inl h⟩
theorem Gr.trans (a : Gr W G H G1 H1) (c : Gr W G1 H1 G2 H2) : Gr W G H G2 H2 where
  keep := fun b o h n => c.keep b o (a.keep b o h n) n
  dom := fun b h => a.dom b (c.dom b h)
  ext := a.ext.trans c.ext
  sub := c.sub
  new := fun b o h => by
    rcases c.new b o h with q | q
    · exact a.new b o q
    · exact .inr (a.dom b q)
/-- fewer are written, of those that stood -/
theorem Gr.drop (a : Gr W G H G1 H1) (h : ∀ b, W b → W' b ∨ H b = none) : Gr W' G H G1 H1 where
  keep := fun b o e n => a.keep b o e fun z => by
    rcases h b z with q | q
    · exact n q
    · rw [q] at e; cases e
  dom := a.dom
  ext := a.ext
  sub := a.sub
  new := a.new
theorem Gr.mono (a : Gr W0 G H G1 H1) : Gr W G H G1 H1 := ⟨fun b o e _ => a.keep b o e fun z => z, a.dom, a.ext, a.sub, a.new⟩
theorem Gr.same (a : Gr W0 G H G1 H1) : Same H H1 := fun b o e => a.keep b o e fun z => z
theorem Gr.sub0 (a : Gr W G H G1 H1) : Same G H1 := a.ext.trans a.sub
theorem Gr.free (a : Gr W G H G1 H1) (g : G b = none) (h : H b = some o) : G1 b = none := by
  cases q : G1 b with
  | none => rfl
  | some u =>
    rcases a.new b u q with z | z
    · rw [g] at z; cases z
    · rw [h] at z; cases z
/-- a new object, not frozen -/
theorem Gr.alloc (s : Same G H) (n : H p = none) : Gr W G H G (upd H p o) where
  keep := fun b u h _ => by rw [upd_ne (ne_of_none h n)]; exact h
  dom := fun b h => by
    by_cases e : b = p
    · rw [e]; exact n
    · rw [upd_ne e] at h; exact h
  ext := Same.refl G
  sub := fun b u h => by rw [upd_ne (ne_of_none (s b u h) n)]; exact s b u h
  new := fun _ _ h => .inl h
/-- one that stands is written -/
theorem Gr.put (s : Same G H) (w : W p) (g : G p = none) (h : H p = some o') : Gr W G H G (upd H p o) where
  keep := fun b u e n => by rw [upd_ne (fun z => n (by rw [z]; exact w))]; exact e
  dom := fun b e => by
    by_cases q : b = p
    · rw [q, upd_same] at e; cases e
    · rw [upd_ne q] at e; exact e
  ext := Same.refl G
  sub := fun b u e => by rw [upd_ne (ne_of_none e g)]; exact s b u e
  new := fun _ _ h => .inl h
/-- one that is new is frozen -/
theorem Gr.frz (a : Gr W G H G1 H1) (n : H p = none) (h : H1 p = some o) : Gr W G H (upd G1 p o) H1 where
  keep := a.keep
  dom := a.dom
  ext := fun b u e => by
    have q := a.ext b u e
    by_cases z : b = p
    · rw [z] at q ⊢
      rw [upd_same, ← h]
      exact (a.sub p u q).symm ▸ rfl
    · rw [upd_ne z]; exact q
  sub := fun b u e => by
    by_cases z : b = p
    · rw [z, upd_same] at e
      rw [z, h]; exact e
    · rw [upd_ne z] at e; exact a.sub b u e
  new := fun b u e => by
    by_cases z : b = p
    · rw [z]; exact .inr n
    · rw [upd_ne z] at e; exact a.new b u e
theorem same_frz (s : Same G1 H1) (h : H1 p = some o) : Same G1 (upd G1 p o) := fun b u e => by
  by_cases z : b = p
  · rw [z] at e ⊢
    rw [upd_same, ← h]
    exact (s p u e).symm ▸ rfl
  · rw [upd_ne z]; exact e
theorem Gr.at_ (a : Gr W G H G1 H1) (h : H b = some o) (n : ¬ W b) : H1 b = some o := a.keep b o h n
theorem Gr.fresh (a : Gr W G H G1 H1) (h : H1 b = none) : H b = none := a.dom b h
end
theorem small {n : Nat} (h : n ≤ 1000000) : n ≤ sizeLine := Nat.le_trans h (by decide)
theorem smallT {n : Nat} (h : n ≤ 1000000) : n < sizeLine := Nat.lt_of_le_of_lt h (by decide)
end K5
set_option Elab.async false
set_option linter.all false
set_option maxRecDepth 100000
set_option maxHeartbeats 0
namespace Hd
open PySem PySem.Spec PyProof.Rows L2 K5
def d_is_name : He.DefD := ⟨("is_name", none), "is_name", "is_name", defArgs s_is_name, defBody s_is_name, defScope s_is_name, [], []⟩
def d_is_character : He.DefD := ⟨("is_character", none), "is_character", "is_character", defArgs s_is_character, defBody s_is_character, defScope s_is_character, [], []⟩
def d_is_text : He.DefD := ⟨("is_text", none), "is_text", "is_text", defArgs s_is_text, defBody s_is_text, defScope s_is_text, [], []⟩
def d_is_string : He.DefD := ⟨("is_string", none), "is_string", "is_string", defArgs s_is_string, defBody s_is_string, defScope s_is_string, [], []⟩
def d_copied : He.DefD := ⟨("copied", none), "copied", "copied", defArgs s_copied, defBody s_copied, defScope s_copied, [], []⟩
def d_are_apart : He.DefD := ⟨("are_apart", none), "are_apart", "are_apart", defArgs s_are_apart, defBody s_are_apart, defScope s_are_apart, [], []⟩
def d_is_tree : He.DefD := ⟨("is_tree", none), "is_tree", "is_tree", defArgs s_is_tree, defBody s_is_tree, defScope s_is_tree, [], []⟩
def d_depth_within : He.DefD := ⟨("depth_within", none), "depth_within", "depth_within", defArgs s_depth_within, defBody s_depth_within, defScope s_depth_within, [], []⟩
def d_nodes_of : He.DefD := ⟨("nodes_of", none), "nodes_of", "nodes_of", defArgs s_nodes_of, defBody s_nodes_of, defScope s_nodes_of, [], []⟩
def d_has_right_size : He.DefD := ⟨("has_right_size", none), "has_right_size", "has_right_size", defArgs s_has_right_size, defBody s_has_right_size, defScope s_has_right_size, [], []⟩
def d_is_document : He.DefD := ⟨("is_document", none), "is_document", "is_document", defArgs s_is_document, defBody s_is_document, defScope s_is_document, [], []⟩
def d_ways_of : He.DefD := ⟨("ways_of", none), "ways_of", "ways_of", defArgs s_ways_of, defBody s_ways_of, defScope s_ways_of, [], []⟩
def d_node_at : He.DefD := ⟨("node_at", none), "node_at", "node_at", defArgs s_node_at, defBody s_node_at, defScope s_node_at, [], []⟩
def d_weight_of : He.DefD := ⟨("weight_of", none), "weight_of", "weight_of", defArgs s_weight_of, defBody s_weight_of, defScope s_weight_of, [], []⟩
def d_replaced : He.DefD := ⟨("replaced", none), "replaced", "replaced", defArgs s_replaced, defBody s_replaced, defScope s_replaced, [], []⟩
def d_check_kind : He.DefD := ⟨("check_kind", none), "check_kind", "check_kind", defArgs s_check_kind, defBody s_check_kind, defScope s_check_kind, [], []⟩
def d_check_given : He.DefD := ⟨("check_given", none), "check_given", "check_given", defArgs s_check_given, defBody s_check_given, defScope s_check_given, [], []⟩
def d_copied_edit : He.DefD := ⟨("copied_edit", none), "copied_edit", "copied_edit", defArgs s_copied_edit, defBody s_copied_edit, defScope s_copied_edit, [], []⟩
def d_edited : He.DefD := ⟨("edited", none), "edited", "edited", defArgs s_edited, defBody s_edited, defScope s_edited, [], []⟩
def d_with_edit : He.DefD := ⟨("with_edit", none), "with_edit", "with_edit", defArgs s_with_edit, defBody s_with_edit, defScope s_with_edit, [], []⟩
def d_spot_of : He.DefD := ⟨("spot_of", none), "spot_of", "spot_of", defArgs s_spot_of, defBody s_spot_of, defScope s_spot_of, [], []⟩
def d_taken_back : He.DefD := ⟨("taken_back", none), "taken_back", "taken_back", defArgs s_taken_back, defBody s_taken_back, defScope s_taken_back, [], []⟩
def d_Bits_init : He.DefD := ⟨("Bits", some "__init__"), "__init__", "Bits.__init__", defArgs s_Bits_init, defBody s_Bits_init, defScope s_Bits_init, [], []⟩
def d_Bits_row : He.DefD := ⟨("Bits", some "row"), "row", "Bits.row", defArgs s_Bits_row, defBody s_Bits_row, defScope s_Bits_row, [], []⟩
def d_Bits_at : He.DefD := ⟨("Bits", some "at"), "at", "Bits.at", defArgs s_Bits_at, defBody s_Bits_at, defScope s_Bits_at, [], []⟩
def d_Bits_rank : He.DefD := ⟨("Bits", some "rank"), "rank", "Bits.rank", defArgs s_Bits_rank, defBody s_Bits_rank, defScope s_Bits_rank, [.int 1], []⟩
def d_Bits_before_block : He.DefD := ⟨("Bits", some "before_block"), "before_block", "Bits.before_block", defArgs s_Bits_before_block, defBody s_Bits_before_block, defScope s_Bits_before_block, [], []⟩
def d_Bits_select : He.DefD := ⟨("Bits", some "select"), "select", "Bits.select", defArgs s_Bits_select, defBody s_Bits_select, defScope s_Bits_select, [.int 1], []⟩
def d_family_ends : He.DefD := ⟨("family_ends", none), "family_ends", "family_ends", defArgs s_family_ends, defBody s_family_ends, defScope s_family_ends, [], []⟩
def d_families : He.DefD := ⟨("families", none), "families", "families", defArgs s_families, defBody s_families, defScope s_families, [], []⟩
def d_first_row : He.DefD := ⟨("first_row", none), "first_row", "first_row", defArgs s_first_row, defBody s_first_row, defScope s_first_row, [], []⟩
def d_item_fault : He.DefD := ⟨("item_fault", none), "item_fault", "item_fault", defArgs s_item_fault, defBody s_item_fault, defScope s_item_fault, [], []⟩
def d_depths_of : He.DefD := ⟨("depths_of", none), "depths_of", "depths_of", defArgs s_depths_of, defBody s_depths_of, defScope s_depths_of, [], []⟩
def d_names_are_right : He.DefD := ⟨("names_are_right", none), "names_are_right", "names_are_right", defArgs s_names_are_right, defBody s_names_are_right, defScope s_names_are_right, [], []⟩
def d_text_fault : He.DefD := ⟨("text_fault", none), "text_fault", "text_fault", defArgs s_text_fault, defBody s_text_fault, defScope s_text_fault, [], []⟩
def d_fault : He.DefD := ⟨("fault", none), "fault", "fault", defArgs s_fault, defBody s_fault, defScope s_fault, [], []⟩
def d_Rows_init : He.DefD := ⟨("Rows", some "__init__"), "__init__", "Rows.__init__", defArgs s_Rows_init, defBody s_Rows_init, defScope s_Rows_init, [], []⟩
def d_names_in : He.DefD := ⟨("names_in", none), "names_in", "names_in", defArgs s_names_in, defBody s_names_in, defScope s_names_in, [], []⟩
def d_Gatherer_init : He.DefD := ⟨("Gatherer", some "__init__"), "__init__", "Gatherer.__init__", defArgs s_Gatherer_init, defBody s_Gatherer_init, defScope s_Gatherer_init, [], []⟩
def d_Gatherer_gather : He.DefD := ⟨("Gatherer", some "gather"), "gather", "Gatherer.gather", defArgs s_Gatherer_gather, defBody s_Gatherer_gather, defScope s_Gatherer_gather, [], []⟩
def d_rows_of : He.DefD := ⟨("rows_of", none), "rows_of", "rows_of", defArgs s_rows_of, defBody s_rows_of, defScope s_rows_of, [], []⟩
def d_Wave_init : He.DefD := ⟨("Wave", some "__init__"), "__init__", "Wave.__init__", defArgs s_Wave_init, defBody s_Wave_init, defScope s_Wave_init, [], []⟩
def d_Wave_row : He.DefD := ⟨("Wave", some "row"), "row", "Wave.row", defArgs s_Wave_row, defBody s_Wave_row, defScope s_Wave_row, [], []⟩
def d_Wave_at : He.DefD := ⟨("Wave", some "at"), "at", "Wave.at", defArgs s_Wave_at, defBody s_Wave_at, defScope s_Wave_at, [], []⟩
def d_Wave_digits_of : He.DefD := ⟨("Wave", some "digits_of"), "digits_of", "Wave.digits_of", defArgs s_Wave_digits_of, defBody s_Wave_digits_of, defScope s_Wave_digits_of, [], []⟩
def d_Wave_ends : He.DefD := ⟨("Wave", some "ends"), "ends", "Wave.ends", defArgs s_Wave_ends, defBody s_Wave_ends, defScope s_Wave_ends, [], []⟩
def d_Wave_rank : He.DefD := ⟨("Wave", some "rank"), "rank", "Wave.rank", defArgs s_Wave_rank, defBody s_Wave_rank, defScope s_Wave_rank, [], []⟩
def d_Wave_select : He.DefD := ⟨("Wave", some "select"), "select", "Wave.select", defArgs s_Wave_select, defBody s_Wave_select, defScope s_Wave_select, [], []⟩
def d_Wave_following : He.DefD := ⟨("Wave", some "following"), "following", "Wave.following", defArgs s_Wave_following, defBody s_Wave_following, defScope s_Wave_following, [], []⟩
def d_Wave_present : He.DefD := ⟨("Wave", some "present"), "present", "Wave.present", defArgs s_Wave_present, defBody s_Wave_present, defScope s_Wave_present, [], []⟩
def d_parted : He.DefD := ⟨("parted", none), "parted", "parted", defArgs s_parted, defBody s_parted, defScope s_parted, [], []⟩
def d_below : He.DefD := ⟨("below", none), "below", "below", defArgs s_below, defBody s_below, defScope s_below, [], []⟩
def d_Kept_init : He.DefD := ⟨("Kept", some "__init__"), "__init__", "Kept.__init__", defArgs s_Kept_init, defBody s_Kept_init, defScope s_Kept_init, [], []⟩
def d_Kept_rows : He.DefD := ⟨("Kept", some "rows"), "rows", "Kept.rows", defArgs s_Kept_rows, defBody s_Kept_rows, defScope s_Kept_rows, [], []⟩
def d_Kept_symbol : He.DefD := ⟨("Kept", some "symbol"), "symbol", "Kept.symbol", defArgs s_Kept_symbol, defBody s_Kept_symbol, defScope s_Kept_symbol, [], []⟩
def d_Kept_family_number : He.DefD := ⟨("Kept", some "family_number"), "family_number", "Kept.family_number", defArgs s_Kept_family_number, defBody s_Kept_family_number, defScope s_Kept_family_number, [], []⟩
def d_Kept_family_stretch : He.DefD := ⟨("Kept", some "family_stretch"), "family_stretch", "Kept.family_stretch", defArgs s_Kept_family_stretch, defBody s_Kept_family_stretch, defScope s_Kept_family_stretch, [], []⟩
def d_name : He.DefD := ⟨("name", none), "name", "name", defArgs s_name, defBody s_name, defScope s_name, [], []⟩
def d_text : He.DefD := ⟨("text", none), "text", "text", defArgs s_text, defBody s_text, defScope s_text, [], []⟩
def d_family : He.DefD := ⟨("family", none), "family", "family", defArgs s_family, defBody s_family, defScope s_family, [], []⟩
def d_weight : He.DefD := ⟨("weight", none), "weight", "weight", defArgs s_weight, defBody s_weight, defScope s_weight, [], []⟩
def d_subtree : He.DefD := ⟨("subtree", none), "subtree", "subtree", defArgs s_subtree, defBody s_subtree, defScope s_subtree, [], []⟩
def d_part_of : He.DefD := ⟨("part_of", none), "part_of", "part_of", defArgs s_part_of, defBody s_part_of, defScope s_part_of, [], []⟩
def d_View_init : He.DefD := ⟨("View", some "__init__"), "__init__", "View.__init__", defArgs s_View_init, defBody s_View_init, defScope s_View_init, [], []⟩
def d_View_word : He.DefD := ⟨("View", some "word"), "word", "View.word", defArgs s_View_word, defBody s_View_word, defScope s_View_word, [], []⟩
def d_View_string : He.DefD := ⟨("View", some "string"), "string", "View.string", defArgs s_View_string, defBody s_View_string, defScope s_View_string, [], []⟩
def d_View_children : He.DefD := ⟨("View", some "children"), "children", "View.children", defArgs s_View_children, defBody s_View_children, defScope s_View_children, [], []⟩
def d_View_weight : He.DefD := ⟨("View", some "weight"), "weight", "View.weight", defArgs s_View_weight, defBody s_View_weight, defScope s_View_weight, [], []⟩
def d_View_tree : He.DefD := ⟨("View", some "tree"), "tree", "View.tree", defArgs s_View_tree, defBody s_View_tree, defScope s_View_tree, [], []⟩
def d_View_numbered : He.DefD := ⟨("View", some "numbered"), "numbered", "View.numbered", defArgs s_View_numbered, defBody s_View_numbered, defScope s_View_numbered, [], []⟩
def d_View_way_to : He.DefD := ⟨("View", some "way_to"), "way_to", "View.way_to", defArgs s_View_way_to, defBody s_View_way_to, defScope s_View_way_to, [], []⟩
def d_View_at : He.DefD := ⟨("View", some "at"), "at", "View.at", defArgs s_View_at, defBody s_View_at, defScope s_View_at, [], []⟩
def d_View_changed : He.DefD := ⟨("View", some "changed"), "changed", "View.changed", defArgs s_View_changed, defBody s_View_changed, defScope s_View_changed, [], []⟩
def d_View_are_apart : He.DefD := ⟨("View", some "are_apart"), "are_apart", "View.are_apart", defArgs s_View_are_apart, defBody s_View_are_apart, defScope s_View_are_apart, [], []⟩
def d_Layers_init : He.DefD := ⟨("Layers", some "__init__"), "__init__", "Layers.__init__", defArgs s_Layers_init, defBody s_Layers_init, defScope s_Layers_init, [], []⟩
def d_Layers_place_of : He.DefD := ⟨("Layers", some "place_of"), "place_of", "Layers.place_of", defArgs s_Layers_place_of, defBody s_Layers_place_of, defScope s_Layers_place_of, [], []⟩
def d_Layers_grafted : He.DefD := ⟨("Layers", some "grafted"), "grafted", "Layers.grafted", defArgs s_Layers_grafted, defBody s_Layers_grafted, defScope s_Layers_grafted, [], []⟩
def d_Layers_without : He.DefD := ⟨("Layers", some "without"), "without", "Layers.without", defArgs s_Layers_without, defBody s_Layers_without, defScope s_Layers_without, [], []⟩
def d_Layers_lay : He.DefD := ⟨("Layers", some "lay"), "lay", "Layers.lay", defArgs s_Layers_lay, defBody s_Layers_lay, defScope s_Layers_lay, [], []⟩
def d_Layers_lift : He.DefD := ⟨("Layers", some "lift"), "lift", "Layers.lift", defArgs s_Layers_lift, defBody s_Layers_lift, defScope s_Layers_lift, [], []⟩
def d_Layers_edits : He.DefD := ⟨("Layers", some "edits"), "edits", "Layers.edits", defArgs s_Layers_edits, defBody s_Layers_edits, defScope s_Layers_edits, [], []⟩
def d_Layers_shown : He.DefD := ⟨("Layers", some "shown"), "shown", "Layers.shown", defArgs s_Layers_shown, defBody s_Layers_shown, defScope s_Layers_shown, [], []⟩
def d_Layers_rows : He.DefD := ⟨("Layers", some "rows"), "rows", "Layers.rows", defArgs s_Layers_rows, defBody s_Layers_rows, defScope s_Layers_rows, [], []⟩
def d_Layers_find : He.DefD := ⟨("Layers", some "find"), "find", "Layers.find", defArgs s_Layers_find, defBody s_Layers_find, defScope s_Layers_find, [], []⟩
def d_Layers_merge : He.DefD := ⟨("Layers", some "merge"), "merge", "Layers.merge", defArgs s_Layers_merge, defBody s_Layers_merge, defScope s_Layers_merge, [], []⟩
def d_Layers_below : He.DefD := ⟨("Layers", some "below"), "below", "Layers.below", defArgs s_Layers_below, defBody s_Layers_below, defScope s_Layers_below, [], []⟩
def d_law_draws : He.DefD := ⟨("_law_draws", none), "_law_draws", "_law_draws", defArgs s_law_draws, defBody s_law_draws, defScope s_law_draws, [], []⟩
def d_law_take : He.DefD := ⟨("_law_take", none), "_law_take", "_law_take", defArgs s_law_take, defBody s_law_take, defScope s_law_take, [], []⟩
def d_law_string : He.DefD := ⟨("_law_string", none), "_law_string", "_law_string", defArgs s_law_string, defBody s_law_string, defScope s_law_string, [], []⟩
def d_law_tree : He.DefD := ⟨("_law_tree", none), "_law_tree", "_law_tree", defArgs s_law_tree, defBody s_law_tree, defScope s_law_tree, [], []⟩
def d_law_names : He.DefD := ⟨("_law_names", none), "_law_names", "_law_names", defArgs s_law_names, defBody s_law_names, defScope s_law_names, [], []⟩
def d_law_paths : He.DefD := ⟨("_law_paths", none), "_law_paths", "_law_paths", defArgs s_law_paths, defBody s_law_paths, defScope s_law_paths, [], []⟩
def d_law_at : He.DefD := ⟨("_law_at", none), "_law_at", "_law_at", defArgs s_law_at, defBody s_law_at, defScope s_law_at, [], []⟩
def d_law_put : He.DefD := ⟨("_law_put", none), "_law_put", "_law_put", defArgs s_law_put, defBody s_law_put, defScope s_law_put, [], []⟩
def d_law_apart : He.DefD := ⟨("_law_apart", none), "_law_apart", "_law_apart", defArgs s_law_apart, defBody s_law_apart, defScope s_law_apart, [], []⟩
def d_law_size : He.DefD := ⟨("_law_size", none), "_law_size", "_law_size", defArgs s_law_size, defBody s_law_size, defScope s_law_size, [], []⟩
def d_law_edited : He.DefD := ⟨("_law_edited", none), "_law_edited", "_law_edited", defArgs s_law_edited, defBody s_law_edited, defScope s_law_edited, [], []⟩
def d_law_is_tree : He.DefD := ⟨("_law_is_tree", none), "_law_is_tree", "_law_is_tree", defArgs s_law_is_tree, defBody s_law_is_tree, defScope s_law_is_tree, [], []⟩
def d_law_edit : He.DefD := ⟨("_law_edit", none), "_law_edit", "_law_edit", defArgs s_law_edit, defBody s_law_edit, defScope s_law_edit, [], []⟩
def d_law_moved : He.DefD := ⟨("_law_moved", none), "_law_moved", "_law_moved", defArgs s_law_moved, defBody s_law_moved, defScope s_law_moved, [], []⟩
def d_law_inner : He.DefD := ⟨("_law_inner", none), "_law_inner", "_law_inner", defArgs s_law_inner, defBody s_law_inner, defScope s_law_inner, [], []⟩
def d_law : He.DefD := ⟨("law", none), "law", "law", defArgs s_law, defBody s_law, defScope s_law, [], []⟩
def fn : List He.DefD := [d_is_name, d_is_character, d_is_text, d_is_string, d_copied, d_are_apart, d_is_tree, d_depth_within, d_nodes_of, d_has_right_size, d_is_document, d_ways_of, d_node_at, d_weight_of, d_replaced, d_check_kind, d_check_given, d_copied_edit, d_edited, d_with_edit, d_spot_of, d_taken_back, d_Bits_init, d_Bits_row, d_Bits_at, d_Bits_rank, d_Bits_before_block, d_Bits_select, d_family_ends, d_families, d_first_row, d_item_fault, d_depths_of, d_names_are_right, d_text_fault, d_fault, d_Rows_init, d_names_in, d_Gatherer_init, d_Gatherer_gather, d_rows_of, d_Wave_init, d_Wave_row, d_Wave_at, d_Wave_digits_of, d_Wave_ends, d_Wave_rank, d_Wave_select, d_Wave_following, d_Wave_present, d_parted, d_below, d_Kept_init, d_Kept_rows, d_Kept_symbol, d_Kept_family_number, d_Kept_family_stretch, d_name, d_text, d_family, d_weight, d_subtree, d_part_of, d_View_init, d_View_word, d_View_string, d_View_children, d_View_weight, d_View_tree, d_View_numbered, d_View_way_to, d_View_at, d_View_changed, d_View_are_apart, d_Layers_init, d_Layers_place_of, d_Layers_grafted, d_Layers_without, d_Layers_lay, d_Layers_lift, d_Layers_edits, d_Layers_shown, d_Layers_rows, d_Layers_find, d_Layers_merge, d_Layers_below, d_law_draws, d_law_take, d_law_string, d_law_tree, d_law_names, d_law_paths, d_law_at, d_law_put, d_law_apart, d_law_size, d_law_edited, d_law_is_tree, d_law_edit, d_law_moved, d_law_inner, d_law]
def fa : List He.Fa := [.glo "is_name", .glo "is_character", .glo "is_text", .glo "is_string", .glo "copied", .glo "are_apart", .glo "is_tree", .glo "depth_within", .glo "nodes_of", .glo "has_right_size", .glo "is_document", .glo "ways_of", .glo "node_at", .glo "weight_of", .glo "replaced", .glo "check_kind", .glo "check_given", .glo "copied_edit", .glo "edited", .glo "with_edit", .glo "spot_of", .glo "taken_back", .glo "family_ends", .glo "families", .glo "first_row", .glo "item_fault", .glo "depths_of", .glo "names_are_right", .glo "text_fault", .glo "fault", .glo "names_in", .glo "rows_of", .glo "parted", .glo "below", .glo "name", .glo "text", .glo "family", .glo "weight", .glo "subtree", .glo "part_of", .glo "_law_draws", .glo "_law_take", .glo "_law_string", .glo "_law_tree", .glo "_law_names", .glo "_law_paths", .glo "_law_at", .glo "_law_put", .glo "_law_apart", .glo "_law_size", .glo "_law_edited", .glo "_law_is_tree", .glo "_law_edit", .glo "_law_moved", .glo "_law_inner", .glo "law", .glo "weight_moves", .free "len", .free "all", .free "isinstance", .free "any", .free "enumerate", .free "list", .free "reversed", .free "max", .free "sum", .free "range", .free "int", .free "min", .free "sorted", .free "set", .free "zip", .free "abs", .free "str", .int "MOST_LETTERS" 12, .int "MOST_TEXT" 200, .int "MOST_NODES" 5000, .int "MOST_DEPTH_plain" 60, .int "BLOCK" 32, .int "MOST_ROWS" 5000, .int "MOST_DEPTH_judge" 60, .int "MOST_SYMBOLS" 65536, .str "LETTERS" "abcdefghijklmnopqrstuvwxyz", .glo "Bits", .cls "Bits", .mkr "Bits", .noat "Bits" "_row", .noat "Bits" "_before", .noat "Bits" "size", .noat "Bits" "ones", .meth "Bits" "__init__", .meth "Bits" "row", .meth "Bits" "at", .meth "Bits" "rank", .meth "Bits" "before_block", .meth "Bits" "select", .glo "Rows", .cls "Rows", .mkr "Rows", .noat "Rows" "names", .noat "Rows" "labels", .noat "Rows" "lasts", .noat "Rows" "fulls", .noat "Rows" "texts", .meth "Rows" "__init__", .glo "Gatherer", .cls "Gatherer", .mkr "Gatherer", .noat "Gatherer" "names", .noat "Gatherer" "nodes", .meth "Gatherer" "__init__", .meth "Gatherer" "gather", .glo "Wave", .cls "Wave", .mkr "Wave", .noat "Wave" "size", .noat "Wave" "length", .noat "Wave" "levels", .meth "Wave" "__init__", .meth "Wave" "row", .meth "Wave" "at", .meth "Wave" "digits_of", .meth "Wave" "ends", .meth "Wave" "rank", .meth "Wave" "select", .meth "Wave" "following", .meth "Wave" "present", .glo "Kept", .cls "Kept", .mkr "Kept", .noat "Kept" "names", .noat "Kept" "texts", .noat "Kept" "wave", .noat "Kept" "lasts", .noat "Kept" "size", .noat "Kept" "starts", .meth "Kept" "__init__", .meth "Kept" "rows", .meth "Kept" "symbol", .meth "Kept" "family_number", .meth "Kept" "family_stretch", .glo "View", .cls "View", .mkr "View", .noat "View" "kept", .meth "View" "__init__", .meth "View" "word", .meth "View" "string", .meth "View" "children", .meth "View" "weight", .meth "View" "tree", .meth "View" "numbered", .meth "View" "way_to", .meth "View" "at", .meth "View" "changed", .meth "View" "are_apart", .glo "Layers", .cls "Layers", .mkr "Layers", .noat "Layers" "view", .noat "Layers" "laid", .noat "Layers" "tops", .meth "Layers" "__init__", .meth "Layers" "place_of", .meth "Layers" "grafted", .meth "Layers" "without", .meth "Layers" "lay", .meth "Layers" "lift", .meth "Layers" "edits", .meth "Layers" "shown", .meth "Layers" "rows", .meth "Layers" "find", .meth "Layers" "merge", .meth "Layers" "below"]
-- 174 facts, 102 defs
/-! ### what is looked at: the module's names, the classes' tables, the defs, their code objects -/
def dRefs : Option Obj → List Addr
  | some ⟨_, _, .dict es _, _⟩ => es.toList.flatMap fun e => He.refV e.val
  | _ => []
def fRefs : Option Obj → List Addr
  | some ⟨_, _, .func fd, _⟩ => He.refV fd.code ++ He.refV fd.defaults
  | _ => []
def nRefs : Option Obj → List Addr
  | some ⟨_, _, .cls cd, _⟩ => [cd.ns]
  | _ => []
def as2 (g : Addr → Option Obj) (gs ns : List Addr) : List Addr :=
  mainGlobals :: (ns ++ (gs ++ (gs.flatMap (fun a => fRefs (g a)) ++ ns.flatMap fun a => dRefs (g a) ++ (dRefs (g a)).flatMap fun b => fRefs (g b))))
def as1 (g : Addr → Option Obj) (gs : List Addr) : List Addr := as2 g gs (gs.flatMap fun a => nRefs (g a))
def asM (g : Addr → Option Obj) : List Addr := as1 g (dRefs (g mainGlobals))
def tf : List He.Defn := [("rows_of", none)]
abbrev AlM : Type := He.AlD × Bool
def obsM (g : Addr → Option Obj) : AlM := (He.obsD fa fn (He.frT g (asM g)), He.tabsB g tf (He.frT g (asM g)) && decide (He.ga (He.frT g (asM g)) "weight_moves" = He.ga (He.frT g (asM g)) "weight"))
def valM : AlM := (He.valD fn, true)
structure SaysM (h : Heap) (K : PySem.W.Frag) : Prop where
  d : He.SaysD fa fn K
  hd : ∀ p ∈ tf, PySem.W.codeHdIn K (He.cT K p).1 (He.cT K p).2 = true
  out : ∀ p ∈ tf, K.lookup (He.cT K p).2 = none
  al : He.ga K "weight_moves" = He.ga K "weight"
  empty : ∀ p ∈ tf, h.get? (He.cT K p).2 = some { cls := .none, data := .fields #[] }
theorem saysM_of {h : Heap} (e : obsM h.get? = valM) : SaysM h (He.frT h.get? (asM h.get?)) := by
  have e1 : He.obsD fa fn (He.frT h.get? (asM h.get?)) = He.valD fn := congrArg (fun z : AlM => z.1) e
  obtain ⟨h2, h5⟩ := He.ba (show (He.tabsB h.get? tf (He.frT h.get? (asM h.get?)) && decide (He.ga (He.frT h.get? (asM h.get?)) "weight_moves" = He.ga (He.frT h.get? (asM h.get?)) "weight")) = true from congrArg (fun z : AlM => z.2) e)
  have key : ∀ p ∈ tf, PySem.W.codeHdIn (He.frT h.get? (asM h.get?)) (He.cT (He.frT h.get? (asM h.get?)) p).1 (He.cT (He.frT h.get? (asM h.get?)) p).2 = true ∧ ∃ o, h.get? (He.cT (He.frT h.get? (asM h.get?)) p).2 = some o ∧ He.emptyTab o = true := fun p hp => by
    obtain ⟨h3, h4⟩ := He.ba (List.all_eq_true.mp h2 p hp)
    refine ⟨h3, ?_⟩
    cases q : h.get? (He.cT (He.frT h.get? (asM h.get?)) p).2 with
    | none =>
      rw [q] at h4
      cases h4
    | some o =>
      rw [q] at h4
      exact ⟨o, rfl, h4⟩
  exact ⟨e1, fun p hp => (key p hp).1, fun p hp => by
    obtain ⟨_, o, q, z⟩ := key p hp
    exact He.frT_none q z, of_decide_eq_true h5, fun p hp => by
    obtain ⟨_, o, q, z⟩ := key p hp
    rw [q, He.emptyTab_eq z]⟩
def hk : PySem.W.Hook where
  α := AlM
  obs := fun s => obsM s.heap.get?
  val := fun _ => valM
  says := fun _ h => ∃ K : PySem.W.Frag, K.In h ∧ SaysM h K
  of := fun _ _ e => ⟨_, He.frT_in, saysM_of e⟩
  keeps := fun _ _ _ ⟨K, hK, c⟩ k => ⟨K, PySem.W.Frag.In.keeps hK k, ⟨c.d, c.hd, c.out, c.al, fun p hp => k _ _ (c.empty p hp)⟩⟩
abbrev R : PySem.W.OpenRow := PySem.W.OpenLaw.row PySem.Challenge.rw_topiary_k54_whole_edits_in_another_order
def ob (s : PySem.W.SharedT) : AlM := obsM (HandSHeadRun.getT s)
theorem ob_eq (s : PySem.W.SharedT) : ob s = hk.obs s.abs := by
  have e : HandSHeadRun.getT s = s.abs.heap.get? := funext (HandSHeadRun.getT_eq s)
  unfold ob
  rw [e] <;> rfl
def names0 : List PySem.Str := ["_wall", "TopiaryError", "InvalidRows", "InvalidEdit", "InvalidRow", "InvalidPlace", "InvalidSize", "InvalidSymbol", "InvalidDocument", "LETTERS", "MOST_LETTERS", "MOST_TEXT", "MOST_NODES", "MOST_DEPTH_plain", "is_name", "is_character", "is_text", "is_string", "copied", "are_apart", "is_tree", "depth_within", "nodes_of", "has_right_size", "is_document", "ways_of", "node_at", "weight_of", "replaced", "check_kind"]
def names1 : List PySem.Str := ["check_given", "copied_edit", "edited", "with_edit", "spot_of", "taken_back", "BLOCK", "Bits", "MOST_ROWS", "MOST_DEPTH_judge", "family_ends", "families", "first_row", "item_fault", "depths_of", "names_are_right", "text_fault", "fault", "Rows", "names_in", "Gatherer", "rows_of", "MOST_SYMBOLS", "Wave", "parted", "below", "Kept", "name", "text", "family"]
def names2 : List PySem.Str := ["weight", "weight_moves", "subtree", "part_of", "View", "Layers", "_law_draws", "_law_take", "_law_string", "_law_tree", "_law_names", "_law_paths", "_law_at", "_law_put", "_law_apart", "_law_size", "_law_edited", "_law_is_tree", "_law_edit", "_law_moved", "_law_inner"]
def names : List PySem.Str := names0 ++ names1 ++ names2
-- law at 91
theorem run (w : World) : HandSHeadRun.RunEq R (PySem.W.view R.prog [91]) hk ob 16000 names w := by
  intro os
  kernel_rfl
end Hd
set_option Elab.async false
set_option linter.all false
set_option maxRecDepth 100000
set_option maxHeartbeats 4000000
namespace K5
open PySem PySem.Spec PyProof.Rows L2
/-! ### trees -/
inductive Tr where
  | tx (s : Str)
  | el (n : Str) (cs : List Tr)
def Tr.isTx : Tr → Bool
  | .tx _ => true
  | .el _ _ => false
mutual
def Tr.size : Tr → Nat
  | .tx _ => 1
  | .el _ cs => 1 + Tr.sizes cs
def Tr.sizes : List Tr → Nat
  | [] => 0
  | t :: ts => t.size + Tr.sizes ts
end
mutual
def Tr.depth : Tr → Nat
  | .tx _ => 1
  | .el _ cs => 1 + Tr.depths cs
def Tr.depths : List Tr → Nat
  | [] => 0
  | t :: ts => max t.depth (Tr.depths ts)
end
mutual
def Tr.nodes : Tr → List Tr
  | .tx s => [.tx s]
  | .el n cs => .el n cs :: Tr.nodess cs
def Tr.nodess : List Tr → List Tr
  | [] => []
  | t :: ts => t.nodes ++ Tr.nodess ts
end
mutual
/-- the tree t stands in G at the value v -/
def IsT (G : Hp) : Tr → V → Prop
  | .tx s, v => v = .str s
  | .el n cs, v => ∃ (a l : Addr) (vs : List V), v = .ref a ∧ G a = some (.tup [.str n, .ref l]) ∧ G l = some (.lst vs) ∧ IsTs G cs vs
def IsTs (G : Hp) : List Tr → List V → Prop
  | [], vs => vs = []
  | t :: ts, vs => ∃ (v : V) (r : List V), vs = v :: r ∧ IsT G t v ∧ IsTs G ts r
end
mutual
theorem IsT.mono {G G' : Hp} (s : Same G G') : ∀ {t : Tr} {v : V}, IsT G t v → IsT G' t v
  | .tx _, _, h => h
  | .el n cs, v, h => by
    obtain ⟨a, l, vs, e, h1, h2, h3⟩ := h
    exact ⟨a, l, vs, e, s _ _ h1, s _ _ h2, IsTs.mono s h3⟩
theorem IsTs.mono {G G' : Hp} (s : Same G G') : ∀ {ts : List Tr} {vs : List V}, IsTs G ts vs → IsTs G' ts vs
  | [], _, h => h
  | t :: ts, vs, h => by
    obtain ⟨v, r, e, h1, h2⟩ := h
    exact ⟨v, r, e, IsT.mono s h1, IsTs.mono s h2⟩
end
theorem IsTs.len {G : Hp} : ∀ {ts : List Tr} {vs : List V}, IsTs G ts vs → vs.length = ts.length
  | [], _, h => by rw [show _ = [] from h]; rfl
  | t :: ts, vs, h => by
    obtain ⟨v, r, rfl, _, h2⟩ := h
    rw [List.length_cons, List.length_cons, IsTs.len h2]
theorem IsTs.get {G : Hp} : ∀ {ts : List Tr} {vs : List V} {i : Nat} {t : Tr}, IsTs G ts vs → ts[i]? = some t → ∃ v, vs[i]? = some v ∧ IsT G t v
  | [], _, i, t, _, e => by simp at e
  | t :: ts, vs, 0, u, h, e => by
    obtain ⟨v, r, rfl, h1, _⟩ := h
    cases (Option.some.inj e)
    exact ⟨v, rfl, h1⟩
  | t :: ts, vs, i + 1, u, h, e => by
    obtain ⟨v, r, rfl, _, h2⟩ := h
    obtain ⟨w, e1, e2⟩ := IsTs.get (i := i) h2 (by simpa using e)
    exact ⟨w, by simpa using e1, e2⟩
theorem IsTs.at_ {G : Hp} : ∀ {ts : List Tr} {vs : List V} {i : Nat} {v : V}, IsTs G ts vs → vs[i]? = some v → ∃ t, ts[i]? = some t ∧ IsT G t v := fun {ts vs i v} h e => by
  have hi : i < vs.length := (List.getElem?_eq_some_iff.mp e).1
  rw [h.len] at hi
  obtain ⟨w, e1, e2⟩ := h.get (List.getElem?_eq_getElem hi)
  rw [e] at e1
  cases e1
  exact ⟨_, List.getElem?_eq_getElem hi, e2⟩
theorem IsTs.app {G : Hp} : ∀ {ts us : List Tr} {vs ws : List V}, IsTs G ts vs → IsTs G us ws → IsTs G (ts ++ us) (vs ++ ws)
  | [], _, _, _, h, k => by rw [show _ = [] from h]; exact k
  | t :: ts, us, vs, ws, h, k => by
    obtain ⟨v, r, rfl, h1, h2⟩ := h
    exact ⟨v, r ++ ws, rfl, h1, IsTs.app h2 k⟩
theorem IsTs.one {G : Hp} {t : Tr} {v : V} (h : IsT G t v) : IsTs G [t] [v] := ⟨v, [], rfl, h, rfl⟩
theorem IsTs.snoc {G : Hp} {ts : List Tr} {vs : List V} {t : Tr} {v : V} (h : IsTs G ts vs) (k : IsT G t v) : IsTs G (ts ++ [t]) (vs ++ [v]) := h.app (.one k)
theorem IsTs.take {G : Hp} : ∀ {ts : List Tr} {vs : List V} (n : Nat), IsTs G ts vs → IsTs G (ts.take n) (vs.take n)
  | _, _, 0, _ => rfl
  | [], vs, n + 1, h => by rw [show vs = [] from h]; rfl
  | t :: ts, vs, n + 1, h => by
    obtain ⟨v, r, rfl, h1, h2⟩ := h
    exact ⟨v, r.take n, rfl, h1, IsTs.take n h2⟩
theorem IsTs.drop {G : Hp} : ∀ {ts : List Tr} {vs : List V} (n : Nat), IsTs G ts vs → IsTs G (ts.drop n) (vs.drop n)
  | _, _, 0, h => h
  | [], vs, n + 1, h => by rw [show vs = [] from h]; rfl
  | t :: ts, vs, n + 1, h => by
    obtain ⟨v, r, rfl, h1, h2⟩ := h
    exact IsTs.drop n h2
theorem IsTs.reverse {G : Hp} : ∀ {ts : List Tr} {vs : List V}, IsTs G ts vs → IsTs G ts.reverse vs.reverse
  | [], vs, h => by rw [show vs = [] from h]; rfl
  | t :: ts, vs, h => by
    obtain ⟨v, r, rfl, h1, h2⟩ := h
    rw [List.reverse_cons, List.reverse_cons]
    exact (IsTs.reverse h2).snoc h1
theorem IsTs.set {G : Hp} : ∀ {ts : List Tr} {vs : List V} {t : Tr} {v : V} (i : Nat), IsTs G ts vs → IsT G t v → IsTs G (ts.set i t) (vs.set i v)
  | [], vs, _, _, i, h, k => by rw [show vs = [] from h]; rfl
  | t :: ts, vs, u, w, 0, h, k => by
    obtain ⟨v, r, rfl, h1, h2⟩ := h
    exact ⟨w, r, rfl, k, h2⟩
  | t :: ts, vs, u, w, i + 1, h, k => by
    obtain ⟨v, r, rfl, h1, h2⟩ := h
    exact ⟨v, r.set i w, rfl, h1, IsTs.set i h2 k⟩
/-- its type, for isinstance -/
theorem IsT.ty {K : PySem.W.Frag} {G H : Hp} {t : Tr} {v : V} (s : Same G H) (h : IsT G t v) : ∃ y, TyX K H v y ∧ PySem.W.kitOne K y (.type "str") = some t.isTx := by
  cases t with
  | tx x =>
    cases (show v = .str x from h)
    exact ⟨_, .base (.str _), kit_ty (show kitB "str" "str" = some true by decide +kernel)⟩
  | el n cs =>
    obtain ⟨a, l, vs, rfl, h1, _⟩ := h
    exact ⟨_, .base (.tup (s _ _ h1)), kit_ty (show kitB "tuple" "str" = some false by decide +kernel)⟩
/-- a new element: its list and its tuple are frozen -/
theorem Gr.elem {W : Addr → Prop} {G H G1 H1 : Hp} {a l : Addr} {n : Str} {vs : List V} {cs : List Tr} (g : Gr W G H G1 H1) (na : H a = none) (nl : H l = none) (ha : H1 a = some (.tup [.str n, .ref l])) (hl : H1 l = some (.lst vs)) (hc : IsTs G1 cs vs) :
    ∃ G2, Gr W G H G2 H1 ∧ IsT G2 (.el n cs) (.ref a) ∧ Same G1 G2 := by
  have g1 := g.frz nl hl
  have g2 := g1.frz na ha
  have s1 : Same G1 (upd G1 l (.lst vs)) := same_frz g.sub hl
  have s2 := same_frz g1.sub ha
  exact ⟨_, g2, ⟨a, l, vs, rfl, upd_same, s2 _ _ upd_same, hc.mono (s1.trans s2)⟩, s1.trans s2⟩
end K5
set_option Elab.async false
set_option linter.all false
set_option maxRecDepth 100000
set_option maxHeartbeats 4000000
namespace K5
open PySem PySem.Spec PyProof.Rows L2
section
variable {prog : Program} {w : World} {A : Around} {E : Value → Shared → Prop} {s : Shared}
/-- the list at S grows by what a reversed iterator still gives -/
theorem ext_rev {R : Result → Shared → Prop} {it l S : Addr} {items : Array Value} {c0 : Nat} (hh : A.handled = none) (hit : s.heap.IsRevIter it l ((items.size : Int) - 1)) (hl : s.heap.IsList l items) (hne : l ≠ it) (hn : items.size ≤ sizeLine)
    (hSi : S ≠ it) (hSl : S ≠ l) (res : Value) (hS : s.heap.get? S = some { cls := .type "list", data := .seq #[] c0 })
    (hR : ∀ (h' : Heap) (tk : Nat) (acc : Array Value) (c : Nat), (∀ b o, b ≠ S → b ≠ it → s.heap.get? b = some o → h'.get? b = some o) → h'.get? S = some { cls := .type "list", dict := none, data := .seq acc c, slots := #[] } →
      ItemsOf (fun i v => items[items.size - 1 - i]? = some v) acc items.size → R (.ok (.ret res)) { s with heap := h', toks := tk }) :
    wpAny (model prog w) A.in1 (Builtin.List.listExtendWith (.ref S) (.ref it) res)
      (fun fin s' => match fin with | .done f => R (.ok f) s' | .again c' => c'.quiet = true ∧ codeAny (model prog w) A c' R s') (fun e s' => R (.error e) s') s := by
  have Wk := (Walks.listRev (prog := prog) (w := w) (A := A.in1) hh it l hne items).toS
  have hT : s.TypeIs (.ref it) "list_reverseiterator" := hit.typeIs
  have hSf : S ∉ [it, l] := by simp [hSi, hSl]
  have hsr : Builtin.List.listSameRef (.ref S) (.ref it) = false := by simp [Builtin.List.listSameRef, hSi]
  unfold Builtin.List.listExtendWith
  refine wpAny_bind (wpAny_typeOf hT ?_)
  rw [if_neg (by rw [hsr]; decide)]
  refine wpAny_bind (wpAny_pyIter_revIter hit ?_)
  refine wpAny_bind (wpAny_holding ?_)
  unfold Builtin.List.listLengthHint
  refine wpAny_bind (wpAny_specialOf hT RT.nolen_lri ?_)
  show wpAny _ A.in1 (specialOf (Value.ref it) (Str.ofString "__length_hint__") >>= _) _ _ _
  refine wpAny_bind (wpAny_specialOf hT RT.hint_lri ?_)
  generalize hid : ("list_reverseiterator.__length_hint__" : String) = id0
  wp_delta
  rw [show splitId id0 = some ("list_reverseiterator", "__length_hint__") from by subst hid; decide +kernel]
  subst hid
  refine wpAny_bind (wpAny_isInstance (b := true) hT (by rw [isSubtype_type]; kernel_rfl) ?_)
  refine wpAny_pure ?_
  rw [if_neg (by decide)]
  have e0 : ((items.size : Nat) : Int) - 1 - ((0 : Nat) : Int) = (items.size : Int) - 1 := by omega
  refine wpAny_pure ⟨plainId_quiet F.plain_extend_loop _, codeAny_extend_loopS Wk hn _ hSf _ items.size 0 _ _ _ rfl (Nat.zero_le _) ⟨Nat.zero_le _, by rw [e0]; exact hit, hl⟩ hS (ItemsOf.nil _) fun s' acc' c' hm hS' hacc => ?_⟩
  rw [Moved.eq_with hm]
  refine hR s'.heap s'.toks acc' c' (fun b o hb hi e => hm.heap b o (fun hmem => ?_) e) hS' hacc
  rcases List.mem_cons.mp hmem with e' | hmem
  · exact hb e'
  · exact hi (List.mem_singleton.mp hmem)
theorem call_list_rev {Q : Value → Shared → Prop} {it l : Addr} {items : Array Value} (hh : A.handled = none) (hit : s.heap.IsRevIter it l ((items.size : Int) - 1)) (hl : s.heap.IsList l items) (hne : l ≠ it) (hn : items.size ≤ sizeLine)
    (hQ : ∀ (h' : Heap) (tk : Nat) (acc : Array Value) (c : Nat), (∀ b o, b ≠ it → s.heap.get? b = some o → h'.get? b = some o) → h'.get? s.heap.objs.size = some { cls := .type "list", dict := none, data := .seq acc c, slots := #[] } →
      ItemsOf (fun i v => items[items.size - 1 - i]? = some v) acc items.size → Q (.ref s.heap.objs.size) { s with heap := h', toks := tk }) :
    wpAny (model prog w) A (call (.type "list") [.ref it]) Q E s := by
  refine callType_codes (Q₁ := fun obj s1 => obj = .ref s.heap.objs.size ∧ s1 = { s with heap := s.heap.push { cls := .type "list", data := .seq #[] } }) PySem.F.called_list (PySem.F.typeCall_list_1 _) PySem.F.entry_list_init
    (code_list_new _ ⟨rfl, rfl⟩) fun obj s1 h1 => ?_
  obtain ⟨rfl, rfl⟩ := h1
  obtain ⟨oi, hoi, _⟩ := id hit
  obtain ⟨ol, hol, _⟩ := id hl
  have ni : s.heap.objs.size ≠ it := Nat.ne_of_gt (Heap.lt_size hoi)
  have nl : s.heap.objs.size ≠ l := Nat.ne_of_gt (Heap.lt_size hol)
  have hS : (s.heap.push { cls := .type "list", data := .seq #[] }).get? s.heap.objs.size = some { cls := .type "list", data := .seq #[] } := Heap.get?_push_size _ rfl
  refine ⟨⟨_, hS, rfl⟩, PySem.F.args_list_init_2 _ _, ?_⟩
  show wpAny _ _ (do let old ← Builtin.List.listItems (.ref s.heap.objs.size); Builtin.List.listUpdate (.ref s.heap.objs.size) (fun _ => #[]); letGo old.toList.reverse; Builtin.List.listExtendWith (.ref s.heap.objs.size) (.ref it) .none) _ _ _
  refine wpAny_bind ?_
  unfold Builtin.List.listItems
  refine wpAny_bind (wpAny_seqItems hS rfl (wpAny_pure ?_))
  show wpAny _ _ (updateSeq s.heap.objs.size (fun _ => #[]) >>= fun _ => letGo (#[] : Array Value).toList.reverse >>= fun _ => Builtin.List.listExtendWith (.ref s.heap.objs.size) (.ref it) .none) _ _ _
  refine wpAny_bind (wpAny_updateSeq hS rfl ?_)
  have hS2 := Heap.get?_update_self (Obj.mapSeq (fun _ => (#[] : Array Value))) hS rfl
  have oth : ∀ b o, b ≠ s.heap.objs.size → s.heap.get? b = some o → ((s.heap.push { cls := .type "list", data := .seq #[] }).update s.heap.objs.size (Obj.mapSeq (fun _ => (#[] : Array Value)))).get? b = some o :=
    fun b o hb e => (Heap.get?_update_other _ _ (Ne.symm hb)).trans (Heap.get?_push_of_some _ e)
  refine wpAny_bind (wpAny_letGo ?_)
  refine ext_rev (A := A.in1) hh (hit.at fun o e => oth _ _ ni.symm e) ?_ hne hn ni nl .none hS2 fun h' tk acc c hk hS' hacc => ?_
  · exact hl.at fun o e => oth _ _ nl.symm e
  · exact ⟨rfl, hQ h' tk acc c (fun b o hb e => hk b o (Nat.ne_of_lt (Heap.lt_size e)) hb (oth b o (Nat.ne_of_lt (Heap.lt_size e)) e)) hS' hacc⟩
end
/-- list(reversed(x)), x a list: a new list -/
def tListRev (K : PySem.W.Frag) (te : TE) : TE := fun σ H Q => te σ H fun v H1 => ∃ (a : Addr) (xs : List V), v = .ref a ∧ SqL K H1 a xs ∧ ∀ q, H1 q = none → Q (.ref q) (upd H1 q (.lst xs.reverse))
theorem pe_listRev {X : Cx} {e : Expr} {te : TE} {p p2 pos pos2 : Pos} (hg : Gl X "list") (hg2 : Gl X "reversed") (hm : X.mg "list" = none) (hm2 : X.mg "reversed" = none) (he : PE X e te) (hc : X.calm = true := by rfl)
    (hs : starEach [e] X.env = (false, eval e X.env) :: starEach [] X.env := by rfl)
    (hs2 : starEach [.Call (.Name "reversed" p2) [e] [] pos2] X.env = (false, eval (.Call (.Name "reversed" p2) [e] [] pos2) X.env) :: starEach [] X.env := by rfl) :
    PE X (.Call (.Name "list" p) [.Call (.Name "reversed" p2) [e] [] pos2] [] pos) (tListRev X.K te) := by
  refine ⟨fun pins s σ H Q I h => ?_⟩
  refine Call_ (ld_blt I hg hm (by decide +kernel : bootBuiltins "list" = some (.type "list")) (PyProof.Rows.callWith_type1 (args_cons (Call_ (ld_blt I hg2 hm2 PyProof.Rows.boot_reversed (PyProof.Rows.callWith_type1 (args_cons (thn (he.run pins s σ H _ I h) fun u s1 ⟨v, H1, I1, r1, q1⟩ => args_nil ?_) hs) hs rfl))) hs2) hs2 rfl))
  obtain ⟨a, xs, rfl, hq, q⟩ := q1
  obtain rfl : u = Value.ref a := r1
  obtain ⟨its, rv, p', hz⟩ := I1.list hq
  have hl := p'.isList
  refine call_reversed_list hl (args_nil ?_)
  obtain ⟨ol, hol, _⟩ := id hl
  have hne : a ≠ s1.heap.objs.size := Nat.ne_of_lt (Heap.lt_size hol)
  have hn : its.toArray.size ≤ sizeLine := by rw [List.size_toArray, ← rv.length]; exact hz
  refine call_list_rev (s := { s1 with heap := s1.heap.push (revObj a ((its.toArray.size : Int) - 1)) }) (I1.ok.hd hc) ⟨_, Heap.get?_push_size _ rfl, rfl, rfl⟩ (hl.push _) hne hn fun h' tk acc c hk hD hi => ?_
  have k1 : ∀ b o, s1.heap.get? b = some o → h'.get? b = some o := fun b o z => hk b o (Nat.ne_of_lt (Heap.lt_size z)) (Heap.get?_push_of_some _ z)
  have hle : s1.heap.objs.size ≤ (s1.heap.push (revObj a ((its.toArray.size : Int) - 1))).objs.size := by rw [Heap.size_push]; omega
  refine ⟨.ref (s1.heap.push (revObj a ((its.toArray.size : Int) - 1))).objs.size, upd H1 _ (.lst xs.reverse), I1.laid (t' := tk) k1 hle (show ObjOk X.prog X.w _ _ _ (.lst xs.reverse) from ⟨by rw [List.length_reverse]; exact hz, acc.toList, c, RT.vals_rev rv hi, ?_⟩), rfl, q _ (I1.hok.fresh hle)⟩
  rw [Array.toArray_toList]
  exact hD
end K5
set_option Elab.async false
set_option linter.all false
set_option maxRecDepth 100000
set_option maxHeartbeats 4000000
namespace K5
open PySem PySem.Spec PyProof.Rows L2
section
variable {W : Addr → Prop} {G H G1 H1 G2 H2 : Hp} {b p : Addr} {o o' : HO}
/-- what is new, or may be written, is written -/
theorem Gr.wr (a : Gr W G H G1 H1) (n : H p = none ∨ W p) (g : G1 p = none) (h : H1 p = some o') : Gr W G H G1 (upd H1 p o) where
  keep := fun b u e nw => by
    have hb : b ≠ p := fun z => by
      subst z
      rcases n with q | q
      · rw [e] at q; cases q
      · exact nw q
    rw [upd_ne hb]; exact a.keep b u e nw
  dom := fun b e => by
    by_cases q : b = p
    · rw [q, upd_same] at e; cases e
    · rw [upd_ne q] at e; exact a.dom b e
  ext := a.ext
  sub := fun b u e => by rw [upd_ne (ne_of_none e g)]; exact a.sub b u e
  new := a.new
theorem Gr.al (a : Gr W G H G1 H1) (n : H1 p = none) : Gr W G H G1 (upd H1 p o) := a.trans (.alloc a.sub n)
theorem Gr.g0 (a : Gr W G H G1 H1) (n : H1 p = none) : G1 p = none := by
  cases q : G1 p with
  | none => rfl
  | some u => rw [a.sub p u q] at n; cases n
theorem same_none (s : Same G H) (n : H p = none) : G p = none := s.free n
end
/-- a comprehension whose i-th item stands in Rel i -/
theorem lc_rel {J : It} {n : Nat} {Gd : Hp → Prop} {Y : Nat → Hp → V → Hp → Prop} (w : Walk J n Gd Y) {g : TG} {tt : TT} {te : TE} {vs : List Nat} {σ : L2.St} {G0 H1 : Hp} {D : Addr} {Qd : Hp → Prop} (hD : H1 D = none) (s0 : Same G0 H1)
    (hG : ∀ G H, Gr W0 G0 H1 G H → Gd H) (Rel : Nat → Hp → V → Prop) (mono : ∀ i G G' y, Same G G' → Rel i G y → Rel i G' y) (hn : n ≤ 1000000)
    (hs : ∀ i x G H H' (K : VK) (Z : Hp → Prop), i < n → Gr W0 G0 H1 G H → G D = none → (∃ ys, H D = some (.lst ys) ∧ ys.length = i) → Y i H x H' → (∀ G' H4 y, Gr W0 G H G' H4 → Rel i G' y → K y H4) →
      g x (wipe σ vs) H' fun σ2 H2 => wipe σ2 vs = wipe σ vs ∧ tt σ2 H2 fun b H3 => if b = true then te σ2 H3 K else Z H3)
    (hd : ∀ G H ys, Gr W0 G0 H1 G H → H D = some (.lst ys) → G D = none → ys.length = n → (∀ i y, ys[i]? = some y → Rel i G y) → Qd H) :
    ∃ W : Nat → Nat → Hp → Prop, (∃ m, W 0 m (upd H1 D (.lst []))) ∧ ∀ i m H, W i m H →
      (J.stop i H ∧ Qd H) ∨ (J.go i H ∧ ∃ Nx : Hp → Prop, (∀ H', Nx H' → ∃ m', m' < m ∧ W (i + 1) m' H') ∧ ∀ x H', J.yld i H x H' → g x (wipe σ vs) H' fun σ2 H2 => wipe σ2 vs = wipe σ vs ∧ tt σ2 H2 fun b H3 =>
        if b = true then te σ2 H3 fun y H4 => ∃ acc, H4 D = some (.lst acc) ∧ acc.length < sizeLine ∧ Nx (upd H4 D (.lst (acc ++ [y]))) else Nx H3) := by
  refine lc_it w (fun i H => ∃ G ys, Gr W0 G0 H1 G H ∧ H D = some (.lst ys) ∧ G D = none ∧ ys.length = i ∧ ∀ j y, ys[j]? = some y → Rel j G y)
    ⟨G0, [], Gr.alloc s0 hD, upd_same, same_none s0 hD, rfl, fun j y e => by simp at e⟩ (fun i H _ ⟨G, ys, gr, _⟩ => hG G H gr) ?_ ?_
  · rintro i x H H' hi ⟨G, ys, gr, hy, gD, hl, hr⟩ y
    refine hs i x G H H' _ _ hi gr gD ⟨ys, hy, hl⟩ y fun G' H4 v g2 r => ?_
    have h4 : H4 D = some (.lst ys) := g2.same D _ hy
    refine ⟨ys, h4, smallT (by omega), G', ys ++ [v], (gr.trans g2).wr (.inl hD) (g2.free gD hy) h4, upd_same, g2.free gD hy, by rw [List.length_append]; exact congrArg (· + 1) hl, fun j u e => ?_⟩
    rcases Nat.lt_or_ge j ys.length with h | h
    · rw [List.getElem?_append_left h] at e
      exact mono j G G' u g2.ext (hr j u e)
    · rw [List.getElem?_append_right h] at e
      have hj : j = i := by
        have := (List.getElem?_eq_some_iff.mp e).1
        simp at this
        omega
      subst hj
      rw [← hl, Nat.sub_self] at e
      cases (Option.some.inj e)
      exact r
  · rintro H ⟨G, ys, gr, hy, gD, hl, hr⟩
    exact hd G H ys gr hy gD hl hr
/-- a turn without a test -/
theorem ty_yes {te : TE} {σ : L2.St} {H : Hp} {K : VK} {Z : Hp → Prop} (h : te σ H K) : tYes σ H (fun b H3 => if b = true then te σ H3 K else Z H3) := by
  show if true = true then te σ H K else Z H
  rw [if_pos rfl]
  exact h
theorem flt_snoc {p : Nat → Bool} {v : Nat → V} {i : Nat} : ((List.range (i + 1)).filter p).map v = ((List.range i).filter p).map v ++ (if p i = true then [v i] else []) := by
  rw [List.range_succ, List.filter_append, List.map_append]
  cases h : p i <;> simp [h]
/-- a comprehension with a test: the i-th item v i where p i -/
theorem lc_flt {J : It} {n : Nat} {Gd : Hp → Prop} {Y : Nat → Hp → V → Hp → Prop} (w : Walk J n Gd Y) {g : TG} {tt : TT} {te : TE} {vs : List Nat} {σ : L2.St} {G0 H1 : Hp} {D : Addr} {Qd : Hp → Prop} (hD : H1 D = none) (s0 : Same G0 H1)
    (hG : ∀ G H, Gr W0 G0 H1 G H → Gd H) (p : Nat → Bool) (v : Nat → V) (hn : n ≤ 1000000)
    (hs : ∀ i x G H H' (K : VK) (Z : Hp → Prop), i < n → Gr W0 G0 H1 G H → G D = none → Y i H x H' → (∀ G' H4, p i = true → Gr W0 G H G' H4 → K (v i) H4) → (∀ G' H4, p i = false → Gr W0 G H G' H4 → Z H4) →
      g x (wipe σ vs) H' fun σ2 H2 => wipe σ2 vs = wipe σ vs ∧ tt σ2 H2 fun b H3 => if b = true then te σ2 H3 K else Z H3)
    (hd : ∀ G H, Gr W0 G0 H1 G H → H D = some (.lst (((List.range n).filter p).map v)) → G D = none → Qd H) :
    ∃ W : Nat → Nat → Hp → Prop, (∃ m, W 0 m (upd H1 D (.lst []))) ∧ ∀ i m H, W i m H →
      (J.stop i H ∧ Qd H) ∨ (J.go i H ∧ ∃ Nx : Hp → Prop, (∀ H', Nx H' → ∃ m', m' < m ∧ W (i + 1) m' H') ∧ ∀ x H', J.yld i H x H' → g x (wipe σ vs) H' fun σ2 H2 => wipe σ2 vs = wipe σ vs ∧ tt σ2 H2 fun b H3 =>
        if b = true then te σ2 H3 fun y H4 => ∃ acc, H4 D = some (.lst acc) ∧ acc.length < sizeLine ∧ Nx (upd H4 D (.lst (acc ++ [y]))) else Nx H3) := by
  refine lc_it w (fun i H => i ≤ n ∧ ∃ G, Gr W0 G0 H1 G H ∧ H D = some (.lst (((List.range i).filter p).map v)) ∧ G D = none)
    ⟨Nat.zero_le _, G0, Gr.alloc s0 hD, upd_same, same_none s0 hD⟩ (fun i H _ ⟨_, G, gr, _⟩ => hG G H gr) ?_ ?_
  · rintro i x H H' hi ⟨_, G, gr, hy, gD⟩ y
    refine hs i x G H H' _ _ hi gr gD y (fun G' H4 hp g2 => ?_) (fun G' H4 hp g2 => ?_)
    · have h4 := g2.same D _ hy
      refine ⟨_, h4, smallT ?_, hi, G', (gr.trans g2).wr (.inl hD) (g2.free gD hy) h4, ?_, g2.free gD hy⟩
      · rw [List.length_map]
        have := List.length_filter_le p (List.range i)
        rw [List.length_range] at this
        omega
      · rw [upd_same, flt_snoc, hp, if_pos rfl]
    · have h4 := g2.same D _ hy
      refine ⟨hi, G', gr.trans g2, ?_, g2.free gD hy⟩
      rw [h4, flt_snoc, hp, if_neg Bool.false_ne_true, List.append_nil]
  · rintro H ⟨_, G, gr, hy, gD⟩
    exact hd G H gr hy gD
end K5
set_option Elab.async false
set_option linter.all false
set_option maxRecDepth 100000
set_option maxHeartbeats 4000000
namespace K5
open PySem PySem.Spec PyProof.Rows L2
theorem Gr.of {G H H' : Hp} (s : Same G H) (k : Same H H') : Gr W0 G H G H' := ⟨fun b o h _ => k b o h, fun b h => k.free h, Same.refl G, s.trans k, fun _ _ h => .inl h⟩
/-! ### signs, names, texts -/
def isCh (c : Nat) : Bool := decide (c = 10) || (decide (32 ≤ c) && decide (c ≤ 126))
abbrev letters : Str := "abcdefghijklmnopqrstuvwxyz"
def isNm (s : Str) : Bool := (decide (1 ≤ (s.length : Int)) && decide ((s.length : Int) ≤ 12)) && (s.cps.toList.map fun c => decide (c ∈ letters.cps.toList)).all id
def isTxt (s : Str) : Bool := (decide (1 ≤ (s.length : Int)) && decide ((s.length : Int) ≤ 200)) && (s.cps.toList.map isCh).all id
theorem lt_one {a b : Nat} : decide ([a] < [b]) = decide (a < b) := by
  congr 1
  simp [List.cons_lt_cons_iff]
def spCh : Sp := fun vs H Q _ => ∃ c : Nat, vs = [.str ⟨#[c]⟩] ∧ Q (.bl (isCh c)) H
def spNm : Sp := fun vs H Q _ => ∃ s : Str, vs = [.str s] ∧ s.length ≤ 1000000 ∧ ∀ H', Same H H' → Q (.bl (isNm s)) H'
def spTxt : Sp := fun vs H Q _ => ∃ s : Str, vs = [.str s] ∧ s.length ≤ 1000000 ∧ ∀ H', Same H H' → Q (.bl (isTxt s)) H'
def spIsS : Sp := fun vs H Q _ => ∃ (G : Hp) (t : Tr) (v : V), vs = [v] ∧ Same G H ∧ IsT G t v ∧ Q (.bl t.isTx) H
section
variable {P : Program} {w : World} {K : PySem.W.Frag} {mg : Str → Option Value} {base : Heap} {k : Nat}
theorem sc_is_character : FnScope ["letter"] ["letter"] (defScope s_is_character) := ⟨rfl, rfl, rfl, by decide +kernel, rfl, by decide +kernel, by decide +kernel⟩
theorem hd_is_character (D : Df K mg "is_character" s_is_character) : Hd P w K mg base "is_character" ["letter"] (k + 1) spCh := by
  refine hd_mk D sc_is_character (fun _ _ _ _ _ _ us hl => match us, hl with | [_], _ => rfl) (fun vs H Q E h => ?_) (fun f cdv A outer s H vs Q E hr h => ?_)
  · obtain ⟨c, rfl, _⟩ := h; rfl
  obtain ⟨c, rfl, q⟩ := h
  refine ⟨_, (pss_one (ps_ret (pe_or (pe_cmpR op_eq (pv 0) pe_str (nomark _)) (pe_one (pe_chain op_le_str op_le_str pe_str (pv 0) pe_str))))), ?_⟩
  refine ⟨_, rfl, rfl, _, rfl, ?_⟩
  have e10 : decide (V.str ⟨#[c]⟩ = V.str ("\n" : Str)) = decide (c = 10) := by
    congr 1
    rw [show ("\n" : Str) = ⟨#[10]⟩ by decide +kernel]
    simp
  rw [e10]
  unfold isCh at q
  refine ite2 (fun c1 => ?_) (fun c1 => ?_)
  · rw [c1, Bool.true_or] at q
    exact q
  · rw [Bool.eq_false_iff.mpr c1, Bool.false_or] at q
    refine ⟨_, rfl, _, _, rfl, rfl, _, rfl, ?_⟩
    have a1 : (!decide ((⟨#[c]⟩ : Str).cps.toList < (" " : Str).cps.toList)) = decide (32 ≤ c) := by
      rw [show (" " : Str).cps.toList = [32] by decide +kernel]
      show (!decide ([c] < [32])) = _
      rw [lt_one, Bool.eq_iff_iff]
      simp
    have a2 : (!decide (("~" : Str).cps.toList < (⟨#[c]⟩ : Str).cps.toList)) = decide (c ≤ 126) := by
      rw [show ("~" : Str).cps.toList = [126] by decide +kernel]
      show (!decide ([126] < [c])) = _
      rw [lt_one, Bool.eq_iff_iff]
      simp
    rw [a1]
    refine ite2 (fun c2 => ?_) (fun c2 => ?_)
    · rw [c2, Bool.true_and, ← a2] at q
      exact ⟨_, _, rfl, rfl, q⟩
    · rw [Bool.eq_false_iff.mpr c2, Bool.false_and] at q
      exact q
theorem sc_is_string : FnScope ["tree"] ["tree"] (defScope s_is_string) := ⟨rfl, rfl, rfl, by decide +kernel, rfl, by decide +kernel, by decide +kernel⟩
theorem hd_is_string (D : Df K mg "is_string" s_is_string) (T : Tx K mg) : Hd P w K mg base "is_string" ["tree"] (k + 1) spIsS := by
  refine hd_mk D sc_is_string (fun _ _ _ _ _ _ us hl => match us, hl with | [_], _ => rfl) (fun vs H Q E h => ?_) (fun f cdv A outer s H vs Q E hr h => ?_)
  · obtain ⟨G, t, v, rfl, _⟩ := h; rfl
  obtain ⟨G, t, v, rfl, sg, ht, q⟩ := h
  obtain ⟨y, ty, kt⟩ := ht.ty sg (K := K)
  refine ⟨_, (pss_one (ps_ret (pe_callB call_isi (by rfl) T.isinstance (by decide +kernel) (pa_cons (pv 0) (pa_cons (pe_bltn (v := .ty "str") (by rfl) T.str (by decide +kernel) rfl) pa_nil))))), ?_⟩
  exact ⟨_, rfl, _, _, _, _, _, rfl, .ty "str", ty, kt, q⟩
theorem map_of {α : Type} {xs : List α} {ys : List V} {f : α → V} (hl : ys.length = xs.length) (h : ∀ (i : Nat) (y : V), ys[i]? = some y → ∃ c, xs[i]? = some c ∧ y = f c) : ys = xs.map f := by
  apply List.ext_getElem?
  intro i
  rw [List.getElem?_map]
  cases e : ys[i]? with
  | none =>
    have : xs[i]? = none := by
      rw [List.getElem?_eq_none_iff] at e ⊢
      omega
    rw [this]; rfl
  | some y =>
    obtain ⟨c, hc, rfl⟩ := h i y e
    rw [hc]; rfl
abbrev Hn : Hp := fun _ => none
theorem same_n {H : Hp} : Same Hn H := fun _ _ h => nomatch h
theorem sc_is_name : FnScope ["word", "letter"] ["word"] (defScope s_is_name) := ⟨rfl, rfl, rfl, by decide +kernel, rfl, by decide +kernel, by decide +kernel⟩
theorem hd_is_name (D : Df K mg "is_name" s_is_name) (T : Tx K mg) : Hd P w K mg base "is_name" ["word"] (k + 1) spNm := by
  refine hd_mk D sc_is_name (fun _ _ _ _ _ _ us hl => match us, hl with | [_], _ => rfl) (fun vs H Q E h => ?_) (fun f cdv A outer s H vs Q E hr h => ?_)
  · obtain ⟨s, rfl, _⟩ := h; rfl
  obtain ⟨s, rfl, hs, q⟩ := h
  refine ⟨_, (pss_one (ps_ret (pe_and (pe_chain op_le op_le pe_int (pe_callB call_len_str (by rfl) T.len (by decide +kernel) (pa_cons (pv 0) pa_nil)) (pe_gi rfl T.MOST_LETTERS)) (pe_one (pe_callB (cr_all rfl) (by rfl) T.all (by decide +kernel) (pa_cons (pe_lc (own := [("letter", 1)]) (g := gName 1) (tt := tYes) rfl sc_is_name.nd (pi_str (pv 0)) (blkOk_by (own := [("letter", 1)]) (N := ["word", "letter"]) (sc := defScope s_is_name) (by decide +kernel)) (fun _ _ _ _ _ => (pg_name (i := 1) sc_is_name.nd rfl (Or.inl rfl))) (fun _ _ _ _ _ => pts_nil) (fun _ _ _ _ _ => (pe_cmpR op_in_sign (pv 1) (pe_gs rfl T.LETTERS) (by rfl)))) pa_nil)))))), ?_⟩
  have e0 : isNm s = ((decide (1 ≤ (s.length : Int)) && decide ((s.length : Int) ≤ 12)) && (s.cps.toList.map fun c => decide (c ∈ letters.cps.toList)).all id) := rfl
  refine ⟨_, rfl, s, rfl, small hs, _, _, rfl, rfl, _, rfl, ite2 (fun c1 => ?_) fun c1 => ?_⟩
  · refine ⟨_, _, rfl, rfl, _, rfl, ite2 (fun c2 => ?_) fun c2 => ?_⟩
    · refine ⟨_, rfl, s, rfl, fun D hD => lc_rel walk_str hD same_n (fun _ _ _ => trivial) (fun i G y => ∃ c, s.cps.toList[i]? = some c ∧ y = .bl (decide (c ∈ letters.cps.toList))) (fun _ _ _ _ _ h => h) hs ?_ ?_⟩
      · rintro i x G H1 H2 K' Z hi gr gD _ ⟨rfl, c, hc, rfl⟩ hK
        exact ⟨rfl, ty_yes ⟨_, rfl, c, letters, rfl, rfl, hK G _ _ (.refl gr.sub) ⟨c, by rw [← hc]; simp, rfl⟩⟩⟩
      · intro G H1 ys gr hy gD hl hr
        have e : ys = (s.cps.toList.map fun c => decide (c ∈ letters.cps.toList)).map V.bl := by
          rw [List.map_map]
          exact map_of (by rw [hl]; simp) hr
        refine ⟨D, _, rfl, SqL.of (by rw [hy, e]), ?_⟩
        have := q H1 gr.same
        rw [e0, c1, c2] at this
        exact this
    · have := q H (Same.refl H)
      rw [e0, c1, Bool.eq_false_iff.mpr c2] at this
      exact this
  · refine ⟨_, rfl, iteF ?_⟩
    have := q H (Same.refl H)
    rw [e0, Bool.eq_false_iff.mpr c1] at this
    exact this
theorem sc_is_text : FnScope ["string", "letter"] ["string"] (defScope s_is_text) := ⟨rfl, rfl, rfl, by decide +kernel, rfl, by decide +kernel, by decide +kernel⟩
theorem hd_is_text (D : Df K mg "is_text" s_is_text) (T : Tx K mg) (h_is_character : Hd P w K mg base "is_character" ["letter"] k spCh) : Hd P w K mg base "is_text" ["string"] (k + 1) spTxt := by
  refine hd_mk D sc_is_text (fun _ _ _ _ _ _ us hl => match us, hl with | [_], _ => rfl) (fun vs H Q E h => ?_) (fun f cdv A outer s H vs Q E hr h => ?_)
  · obtain ⟨s, rfl, _⟩ := h; rfl
  obtain ⟨s, rfl, hs, q⟩ := h
  refine ⟨_, (pss_one (ps_ret (pe_and (pe_chain op_le op_le pe_int (pe_callB call_len_str (by rfl) T.len (by decide +kernel) (pa_cons (pv 0) pa_nil)) (pe_gi rfl T.MOST_TEXT)) (pe_one (pe_callB (cr_all rfl) (by rfl) T.all (by decide +kernel) (pa_cons (pe_lc (own := [("letter", 1)]) (g := gName 1) (tt := tYes) rfl sc_is_text.nd (pi_str (pv 0)) (blkOk_by (own := [("letter", 1)]) (N := ["string", "letter"]) (sc := defScope s_is_text) (by decide +kernel)) (fun _ _ _ _ _ => (pg_name (i := 1) sc_is_text.nd rfl (Or.inl rfl))) (fun _ _ _ _ _ => pts_nil) (fun _ _ _ _ _ => (pe_hd h_is_character hr rfl (pa_cons (pv 1) pa_nil)))) pa_nil)))))), ?_⟩
  have e0 : isTxt s = ((decide (1 ≤ (s.length : Int)) && decide ((s.length : Int) ≤ 200)) && (s.cps.toList.map isCh).all id) := rfl
  refine ⟨_, rfl, s, rfl, small hs, _, _, rfl, rfl, _, rfl, ite2 (fun c1 => ?_) fun c1 => ?_⟩
  · refine ⟨_, _, rfl, rfl, _, rfl, ite2 (fun c2 => ?_) fun c2 => ?_⟩
    · refine ⟨_, rfl, s, rfl, fun D hD => lc_rel walk_str hD same_n (fun _ _ _ => trivial) (fun i G y => ∃ c, s.cps.toList[i]? = some c ∧ y = .bl (isCh c)) (fun _ _ _ _ _ h => h) hs ?_ ?_⟩
      · rintro i x G H1 H2 K' Z hi gr gD _ ⟨rfl, c, hc, rfl⟩ hK
        exact ⟨rfl, ty_yes ⟨_, rfl, c, rfl, hK G _ _ (.refl gr.sub) ⟨c, by rw [← hc]; simp, rfl⟩⟩⟩
      · intro G H1 ys gr hy gD hl hr
        have e : ys = (s.cps.toList.map isCh).map V.bl := by
          rw [List.map_map]
          exact map_of (by rw [hl]; simp) hr
        refine ⟨D, _, rfl, SqL.of (by rw [hy, e]), ?_⟩
        have := q H1 gr.same
        rw [e0, c1, c2] at this
        exact this
    · have := q H (Same.refl H)
      rw [e0, c1, Bool.eq_false_iff.mpr c2] at this
      exact this
  · refine ⟨_, rfl, iteF ?_⟩
    have := q H (Same.refl H)
    rw [e0, Bool.eq_false_iff.mpr c1] at this
    exact this
end
end K5
set_option Elab.async false
set_option linter.all false
set_option maxRecDepth 100000
set_option maxHeartbeats 4000000
namespace K5
open PySem PySem.Spec PyProof.Rows L2
/-! ### sizes, depths -/
theorem Tr.size_pos : ∀ t : Tr, 1 ≤ t.size
  | .tx _ => by simp [Tr.size]
  | .el _ _ => by simp [Tr.size]
theorem Tr.depth_pos : ∀ t : Tr, 1 ≤ t.depth
  | .tx _ => by simp [Tr.depth]
  | .el _ _ => by simp [Tr.depth]
theorem sizes_get : ∀ {cs : List Tr} {i : Nat} {t : Tr}, cs[i]? = some t → t.size ≤ Tr.sizes cs
  | [], i, t, h => by simp at h
  | c :: cs, 0, t, h => by
    cases (Option.some.inj h)
    simp [Tr.sizes]
  | c :: cs, i + 1, t, h => by
    have := sizes_get (cs := cs) (i := i) (t := t) (by simpa using h)
    simp only [Tr.sizes]
    omega
theorem depths_get : ∀ {cs : List Tr} {i : Nat} {t : Tr}, cs[i]? = some t → t.depth ≤ Tr.depths cs
  | [], i, t, h => by simp at h
  | c :: cs, 0, t, h => by
    cases (Option.some.inj h)
    simp only [Tr.depths]
    omega
  | c :: cs, i + 1, t, h => by
    have := depths_get (cs := cs) (i := i) (t := t) (by simpa using h)
    simp only [Tr.depths]
    omega
theorem sizes_len : ∀ cs : List Tr, cs.length ≤ Tr.sizes cs
  | [] => by simp
  | c :: cs => by
    have := sizes_len cs
    have := c.size_pos
    simp only [Tr.sizes, List.length_cons]
    omega
theorem sizes_app : ∀ (cs ds : List Tr), Tr.sizes (cs ++ ds) = Tr.sizes cs + Tr.sizes ds
  | [], ds => by simp [Tr.sizes]
  | c :: cs, ds => by
    simp only [List.cons_append, Tr.sizes, sizes_app cs ds]
    omega
theorem IsTs.of {G : Hp} : ∀ {cs : List Tr} {ys : List V}, ys.length = cs.length → (∀ (i : Nat) (y : V), ys[i]? = some y → ∃ c, cs[i]? = some c ∧ IsT G c y) → IsTs G cs ys
  | [], [], _, _ => rfl
  | [], _ :: _, h, _ => by simp at h
  | _ :: _, [], h, _ => by simp at h
  | c :: cs, y :: ys, hl, h => by
    obtain ⟨d, hd, k⟩ := h 0 y rfl
    cases (Option.some.inj hd)
    exact ⟨y, ys, rfl, k, IsTs.of (by simpa using hl) fun i z e => by simpa using h (i + 1) z (by simpa using e)⟩
/-! ### slices -/
theorem cut_from {xs : List V} {j : Nat} (h : j ≤ xs.length) : cutV xs (some (j : Int)) none = xs.drop j := by
  unfold cutV
  rw [HT.sIx_nat, HT.sIx_none, Nat.min_eq_left h]
  exact List.take_of_length_le (by rw [List.length_drop]; exact Nat.le_refl _)
theorem cut_from0 {xs : List V} {j : Nat} (h : xs.length ≤ j) : cutV xs (some (j : Int)) none = [] := by
  unfold cutV
  rw [HT.sIx_nat, HT.sIx_none, Nat.min_eq_right h, Nat.sub_self, List.take_zero]
theorem cut_to {xs : List V} {j : Nat} (h : j ≤ xs.length) : cutV xs none (some (j : Int)) = xs.take j := by
  unfold cutV
  rw [HT.sIx_nat, HT.sIx_none, Nat.min_eq_left h, Nat.sub_zero, List.drop_zero]
theorem cut_mid {xs : List V} {i j : Nat} (hi : i ≤ xs.length) (h : j ≤ xs.length) : cutV xs (some (i : Int)) (some (j : Int)) = (xs.drop i).take (j - i) := by
  unfold cutV
  rw [HT.sIx_nat, HT.sIx_nat, Nat.min_eq_left h, Nat.min_eq_left hi]
theorem cut_1 (xs : List V) : cutV xs (some 1) none = xs.drop 1 := by
  rcases Nat.lt_or_ge xs.length 1 with h | h
  · have : xs = [] := List.length_eq_zero_iff.mp (by omega)
    subst this
    rfl
  · exact cut_from (j := 1) h
theorem atI_n {α : Type} {xs : List α} {j : Nat} {z : Int} {v : α} (e : z = (j : Int)) (h : xs[j]? = some v) : atI xs z = some v := by
  rw [e]; exact atI_nat h
/-! ### texts side by side -/
def adj (cs : List Tr) : List Bool := (List.range (cs.length - 1)).map fun i => (cs.getD (i + 1) (.tx Str.empty)).isTx && (cs.getD i (.tx Str.empty)).isTx
def apart (cs : List Tr) : Bool := !(adj cs).any id
def spApart : Sp := fun vs H Q _ => ∃ (G : Hp) (cs : List Tr) (l : Addr) (ws : List V), vs = [.ref l] ∧ Same G H ∧ H l = some (.lst ws) ∧ IsTs G cs ws ∧ cs.length ≤ 100000 ∧ ∀ H', Same H H' → Q (.bl (apart cs)) H'
def spCopy (n : Nat) : Sp := fun vs H Q _ => ∃ (G : Hp) (t : Tr) (v : V), vs = [v] ∧ Same G H ∧ IsT G t v ∧ t.depth ≤ n ∧ t.size ≤ 100000 ∧ ∀ G' v' H', Gr W0 G H G' H' → IsT G' t v' → Q v' H'
section
variable {P : Program} {w : World} {K : PySem.W.Frag} {mg : Str → Option Value} {base : Heap} {k : Nat}
/-- a promise that asks what can't be -/
theorem hd_vac {x : Str} {st : Stmt} {ps : List Str} {sp : Sp} (D : Df K mg x st)
    (hb : ∀ (kV doc pm : Value) (an : Option Addr) (cdv ct : Value) (us : List Value), us.length = ps.length → bindArgs (PySem.W.fnOf x x (defArgs st) (defBody st) (defScope st) .none kV doc pm an cdv ct) ⟨us, []⟩ = pure (ps.zip us))
    (no : ∀ vs H Q E, ¬ sp vs H Q E) : Hd P w K mg base x ps k sp := by
  obtain ⟨f, fd, F, a⟩ := D.ex
  exact ⟨f, fd, a, F.kp, F.binds hb, fun vs H Q E h => absurd h (no vs H Q E), fun A outer s H args us vs Q E _ _ _ _ h => absurd h (no vs H Q E)⟩
theorem md_vac {C : Addr} {m qual : Str} {st : Stmt} {ps : List Str} {sp : Sp} (D : Dm K C m qual st)
    (hb : ∀ (kV doc pm : Value) (an : Option Addr) (cdv ct : Value) (us : List Value), us.length = ps.length → bindArgs (PySem.W.fnOf m qual (defArgs st) (defBody st) (defScope st) .none kV doc pm an cdv ct) ⟨us, []⟩ = pure (ps.zip us))
    (no : ∀ vs H Q E, ¬ sp vs H Q E) : Md P w K mg base C m ps [] k sp := by
  obtain ⟨f, fd, F, a⟩ := D.ex
  exact ⟨f, fd, [], a, .nil, F.binds hb, fun vs H Q E h => absurd h (no vs H Q E), fun A outer s H args us vs Q E _ _ _ _ h => absurd h (no vs H Q E)⟩
theorem sc_copied : FnScope ["tree", "child"] ["tree"] (defScope s_copied) := ⟨rfl, rfl, rfl, by decide +kernel, rfl, by decide +kernel, by decide +kernel⟩
theorem hd_copied (D : Df K mg "copied" s_copied) (h_is_string : Hd P w K mg base "is_string" ["tree"] k spIsS) : ∀ n : Nat, Hd P w K mg base "copied" ["tree"] (k + n) (spCopy n)
  | 0 => by
    refine hd_vac D (fun _ _ _ _ _ _ us hl => match us, hl with | [_], _ => rfl) fun vs H Q E h => ?_
    obtain ⟨G, t, v, _, _, _, hd, _⟩ := h
    have := t.depth_pos
    omega
  | n + 1 => by
    have h_copied := hd_copied D h_is_string n
    have h_is_string := h_is_string.mono (Nat.le_add_right k n)
    refine hd_mk (k := k + n) D sc_copied (fun _ _ _ _ _ _ us hl => match us, hl with | [_], _ => rfl) (fun vs H Q E h => ?_) (fun f cdv A outer s H vs Q E hr h => ?_)
    · obtain ⟨G, t, v, rfl, _⟩ := h; rfl
    obtain ⟨G, t, v, rfl, sg, ht, hd, hz, q⟩ := h
    refine ⟨_, (pss_cons (ps_if (pt_val (pe_hd h_is_string hr rfl (pa_cons (pv 0) pa_nil)))
      (pss_one (ps_ret (pv 0)))
      pss_nil)
    (pss_one (ps_ret (pe_tup (pa_cons (pe_ix ix_tup (pv 0) pe_int (fun _ _ => rfl)) (pa_cons (pe_lc (own := [("child", 1)]) (g := gName 1) (tt := tYes) rfl sc_copied.nd (pi_list (pe_ix ix_tup (pv 0) pe_int (fun _ _ => rfl))) (blkOk_by (own := [("child", 1)]) (N := ["tree", "child"]) (sc := defScope s_copied) (by decide +kernel)) (fun _ _ _ _ _ => (pg_name (i := 1) sc_copied.nd rfl (Or.inl rfl))) (fun _ _ _ _ _ => pts_nil) (fun _ _ _ _ _ => (pe_hd h_copied hr rfl (pa_cons (pv 1) pa_nil)))) pa_nil)))))), ?_⟩
    refine ⟨_, rfl, G, t, v, rfl, sg, ht, _, rfl, ?_⟩
    cases t with
    | tx x =>
      refine iteT ⟨_, rfl, q G v H (.refl sg) ht⟩
    | el nm cs =>
      obtain ⟨a, l, vs, rfl, h1, h2, h3⟩ := ht
      simp only [Tr.depth, Tr.size] at hd hz
      have hlen := sizes_len cs
      refine iteF ?_
      refine ⟨_, rfl, a, _, _, _, rfl, rfl, SqT.of (sg _ _ h1), rfl, ?_⟩
      refine ⟨_, rfl, a, _, _, _, rfl, rfl, SqT.of (sg _ _ h1), rfl, l, rfl, ⟨_, SqL.of (sg _ _ h2)⟩, fun D hD => lc_rel walk_list hD sg (fun G1 H1 gr => SqL.of (gr.sub0 _ _ h2))
        (fun i G y => ∃ c, cs[i]? = some c ∧ IsT G c y) (fun i G G' y s ⟨c, e, h⟩ => ⟨c, e, h.mono s⟩) (by rw [h3.len]; omega) ?_ ?_⟩
      · rintro i x G1 H1 H2 K' Z hi gr gD _ ⟨rfl, hx⟩ hK
        obtain ⟨c, hc, hcx⟩ := h3.at_ hx
        have := depths_get hc
        have := sizes_get hc
        exact ⟨rfl, ty_yes ⟨_, rfl, G1, c, x, rfl, gr.sub, hcx.mono gr.ext, by omega, by omega, fun G' v' H' g2 k => hK G' H' v' g2 ⟨c, hc, k⟩⟩⟩
      · intro G1 H1 ys gr hy gD hl hr
        refine ⟨by show 2 ≤ sizeLine; decide, fun p hp => ?_⟩
        obtain ⟨G2, g2, ht2, _⟩ := (gr.al (o := .tup [.str nm, .ref D]) hp).elem (cs := cs) (vs := ys) (gr.dom p hp) hD upd_same (by rw [upd_ne (ne_of_none hy hp)]; exact hy) (IsTs.of (by rw [hl, h3.len]) hr)
        exact q G2 _ _ g2 ht2
theorem sc_are_apart : FnScope ["children", "place", "tree"] ["children"] (defScope s_are_apart) := ⟨rfl, rfl, rfl, by decide +kernel, rfl, by decide +kernel, by decide +kernel⟩
theorem hd_are_apart (D : Df K mg "are_apart" s_are_apart) (T : Tx K mg) (h_is_string : Hd P w K mg base "is_string" ["tree"] k spIsS) : Hd P w K mg base "are_apart" ["children"] (k + 1) spApart := by
  refine hd_mk D sc_are_apart (fun _ _ _ _ _ _ us hl => match us, hl with | [_], _ => rfl) (fun vs H Q E h => ?_) (fun f cdv A outer s H vs Q E hr h => ?_)
  · obtain ⟨G, cs, l, ws, rfl, _⟩ := h; rfl
  obtain ⟨G, cs, l, ws, rfl, sg, hl, hts, hz, q⟩ := h
  refine ⟨_, (pss_one (ps_ret (pe_not (pe_callB (cr_any rfl) (by rfl) T.any (by decide +kernel) (pa_cons (pe_lc (own := [("place", 1), ("tree", 2)]) (g := gTup K 2 (gCons (gName 1) (gCons (gName 2) gNil))) (tt := tYes) rfl sc_are_apart.nd (pi_enum (by rfl) T.enumerate (pa_cons (pe_slice sl_list (pv 0) (po_some pe_int) po_none) pa_nil)) (blkOk_by (own := [("place", 1), ("tree", 2)]) (N := ["children", "place", "tree"]) (sc := defScope s_are_apart) (by decide +kernel)) (fun _ _ _ _ _ => (pg_tup rfl (pgs_cons (pg_name (i := 1) sc_are_apart.nd rfl (Or.inl rfl)) (pgs_cons (pg_name (i := 2) sc_are_apart.nd rfl (Or.inl rfl)) pgs_nil)))) (fun _ _ _ _ _ => pts_nil) (fun _ _ _ _ _ => (pe_and (pe_hd h_is_string hr rfl (pa_cons (pv 2) pa_nil)) (pe_one (pe_hd h_is_string hr rfl (pa_cons (pe_ix (ixl K) (pv 0) (pv 1) (fun _ _ => rfl)) pa_nil)))))) pa_nil))))), ?_⟩
  refine ⟨_, rfl, 1, rfl, l, ws, rfl, SqL.of hl, fun p hp => ?_⟩
  rw [cut_1]
  have g0 : Gr W0 G H G (upd H p (.lst (ws.drop 1))) := .alloc sg hp
  have hpl : l ≠ p := ne_of_none hl hp
  have hwl := hts.len
  refine ⟨p, _, rfl, SqL.of upd_same, fun D hD => lc_rel walk_enum hD g0.sub (fun G1 H1 gr => SqL.of (gr.same p _ upd_same)) (fun i _ y => ∃ b, (adj cs)[i]? = some b ∧ y = .bl b) (fun _ _ _ _ _ h => h) (by rw [List.length_drop]; omega) ?_ ?_⟩
  · rintro i x G1 H1 H2 K' Z hi gr gD _ ⟨T1, u, y, rfl, hT, rfl, hu, hy⟩ hK
    cases (Option.some.inj hu)
    have g1 := gr.al (o := .tup [.int (i : Nat), y]) hT
    have hy : (List.drop 1 ws)[i]? = some y := hy
    rw [List.getElem?_drop] at hy
    obtain ⟨c, hc, hcy⟩ := hts.at_ hy
    have hi2 : i < cs.length := by
      have := (List.getElem?_eq_some_iff.mp hc).1
      omega
    obtain ⟨z, hz', hcz⟩ := hts.get (List.getElem?_eq_getElem hi2)
    have hb : (adj cs)[i]? = some (c.isTx && (cs[i]).isTx) := by
      have h1 : i < cs.length - 1 := by
        have := (List.getElem?_eq_some_iff.mp hc).1
        omega
      unfold adj
      rw [List.getElem?_map, List.getElem?_range h1]
      have e1 : cs.getD (i + 1) (.tx Str.empty) = c := by
        rw [List.getD_eq_getElem?_getD, show i + 1 = 1 + i by omega, hc]; rfl
      have e2 : cs.getD i (.tx Str.empty) = cs[i] := by
        rw [List.getD_eq_getElem?_getD, List.getElem?_eq_getElem hi2]; rfl
      show some ((cs.getD (i + 1) (.tx Str.empty)).isTx && (cs.getD i (.tx Str.empty)).isTx) = _
      rw [e1, e2]
    have gH : Gr W0 G1 H1 G1 (upd H1 T1 (.tup [.int (i : Nat), y])) := .alloc gr.sub hT
    refine ⟨T1, _, rfl, SqT.of upd_same, rfl, _, _, rfl, _, _, rfl, rfl, rfl, ty_yes ?_⟩
    refine ⟨_, rfl, G1, c, y, rfl, g1.sub, hcy.mono gr.ext, _, rfl, ite2 (fun c1 => ?_) fun c1 => ?_⟩
    · refine ⟨_, rfl, _, rfl, l, ws, _, z, rfl, rfl, SqL.of ?_, atI_n rfl hz', G1, _, z, rfl, g1.sub, hcz.mono gr.ext, ?_⟩
      · exact g1.same l _ (by rw [upd_ne hpl]; exact hl)
      · exact hK G1 _ _ gH ⟨_, by rw [hb, c1, Bool.true_and], rfl⟩
    · exact hK G1 _ _ gH ⟨false, by rw [hb, Bool.eq_false_iff.mpr c1, Bool.false_and], rfl⟩
  · intro G1 H1 ys gr hy gD hl' hr
    have e : ys = (adj cs).map V.bl := map_of (by rw [hl', List.length_drop, hwl]; simp [adj]) hr
    refine ⟨D, adj cs, rfl, SqL.of (by rw [hy, e]), _, rfl, ?_⟩
    exact q H1 (g0.trans gr).same
end
end K5
set_option Elab.async false
set_option linter.all false
set_option maxRecDepth 100000
set_option maxHeartbeats 4000000
namespace K5
open PySem PySem.Spec PyProof.Rows L2
mutual
theorem nodes_len : ∀ t : Tr, t.nodes.length = t.size
  | .tx _ => rfl
  | .el _ cs => by
    simp only [Tr.nodes, Tr.size, List.length_cons, nodess_len cs]
    omega
theorem nodess_len : ∀ ts : List Tr, (Tr.nodess ts).length = Tr.sizes ts
  | [] => rfl
  | t :: ts => by simp only [Tr.nodess, Tr.sizes, List.length_append, nodes_len t, nodess_len ts]
end
theorem nodess_app : ∀ (as bs : List Tr), Tr.nodess (as ++ bs) = Tr.nodess as ++ Tr.nodess bs
  | [], bs => rfl
  | a :: as, bs => by simp only [List.cons_append, Tr.nodess, nodess_app as bs, List.append_assoc]
theorem sizes_rev (as : List Tr) : Tr.sizes as.reverse = Tr.sizes as := by
  induction as with
  | nil => rfl
  | cons a as ih =>
    simp only [List.reverse_cons, sizes_app, ih, Tr.sizes]
    omega
theorem IsTs.split {G : Hp} : ∀ {as bs : List Tr} {ws : List V}, IsTs G (as ++ bs) ws → ∃ w1 w2, ws = w1 ++ w2 ∧ IsTs G as w1 ∧ IsTs G bs w2
  | [], bs, ws, h => ⟨[], ws, rfl, rfl, h⟩
  | a :: as, bs, ws, h => by
    obtain ⟨v, r, rfl, h1, h2⟩ := h
    obtain ⟨w1, w2, rfl, k1, k2⟩ := IsTs.split h2
    exact ⟨v :: w1, w2, rfl, ⟨v, w1, rfl, h1, k1⟩, k2⟩
theorem IsTs.split1 {G : Hp} {as : List Tr} {b : Tr} {ws : List V} (h : IsTs G (as ++ [b]) ws) : ∃ w1 v, ws = w1 ++ [v] ∧ IsTs G as w1 ∧ IsT G b v := by
  obtain ⟨w1, w2, rfl, h1, v, r, rfl, h2, h3⟩ := h.split
  rw [show r = [] from h3]
  exact ⟨w1, v, rfl, h1, h2⟩
theorem last_of {α : Type} (xs : List α) (y : α) : (xs ++ [y])[(xs ++ [y]).length - 1]? = some y := by simp
def spNodes : Sp := fun vs H Q _ => ∃ (G : Hp) (t : Tr) (v : V), vs = [v] ∧ Same G H ∧ IsT G t v ∧ t.size ≤ 100000 ∧ ∀ p ws H', Gr W0 G H G H' → H p = none → H' p = some (.lst ws) → IsTs G t.nodes ws → Q (.ref p) H'
def spSize : Sp := fun vs H Q _ => ∃ (G : Hp) (t : Tr) (v : V), vs = [v] ∧ Same G H ∧ IsT G t v ∧ t.size ≤ 100000 ∧ ∀ H', Same H H' → Q (.int t.size) H'
def spNode : Sp := fun vs H Q _ => ∃ (G : Hp) (t u : Tr) (v : V) (i : Nat), vs = [v, .int i] ∧ Same G H ∧ IsT G t v ∧ t.size ≤ 100000 ∧ t.nodes[i]? = some u ∧ ∀ v' H', Same H H' → IsT G u v' → Q v' H'
section
variable {P : Program} {w : World} {K : PySem.W.Frag} {mg : Str → Option Value} {base : Heap} {k : Nat}
theorem sc_nodes_of : FnScope ["tree", "found", "waiting", "here"] ["tree"] (defScope s_nodes_of) := ⟨rfl, rfl, rfl, by decide +kernel, rfl, by decide +kernel, by decide +kernel⟩
theorem hd_nodes_of (D : Df K mg "nodes_of" s_nodes_of) (T : Tx K mg) (h_is_string : Hd P w K mg base "is_string" ["tree"] k spIsS) : Hd P w K mg base "nodes_of" ["tree"] (k + 1) spNodes := by
  refine hd_mk D sc_nodes_of (fun _ _ _ _ _ _ us hl => match us, hl with | [_], _ => rfl) (fun vs H Q E h => ?_) (fun f cdv A outer s H vs Q E hr h => ?_)
  · obtain ⟨G, t, v, rfl, _⟩ := h; rfl
  obtain ⟨G, t, v, rfl, sg, ht, hz, q⟩ := h
  refine ⟨_, (pss_cons (ps_set (i := 1) sc_nodes_of.nd rfl (Or.inl rfl) (pe_lst pa_nil))
    (pss_cons (ps_set (i := 2) sc_nodes_of.nd rfl (Or.inl rfl) (pe_lst (pa_cons (pv 0) pa_nil)))
    (pss_cons (ps_while PassesOwn.never (pt_cmpR op_gt (pe_callB call_len_seq (by rfl) T.len (by decide +kernel) (pa_cons (pv 2) pa_nil)) pe_int (nomark _))
      (pss_cons (ps_set (i := 3) sc_nodes_of.nd rfl (Or.inl rfl) (pe_bm0 PySem.F.plainAttrs_list PySem.F.slot_list_pop PySem.F.type_list_pop mt_pop (pv 2)))
      (pss_cons (ps_expr (pe_bm PySem.F.plainAttrs_list PySem.F.slot_list_append PySem.F.type_list_append mt_append (pv 1) (pa_cons (pv 3) pa_nil)))
      (pss_one (ps_if (pt_not (pt_val (pe_hd h_is_string hr rfl (pa_cons (pv 3) pa_nil))))
        (pss_one (ps_expr (pe_bm PySem.F.plainAttrs_list PySem.F.slot_list_extend PySem.F.type_list_extend mt_extend (pv 2) (pa_cons (pe_listRev (by rfl) (by rfl) T.list T.reversed (pe_ix ix_tup (pv 3) pe_int (fun _ _ => rfl))) pa_nil))))
        pss_nil)))))
    (pss_one (ps_ret (pv 1)))))), ?_⟩
  refine ⟨by show 0 ≤ sizeLine; decide, fun lf nf => ⟨_, rfl, by show 1 ≤ sizeLine; decide, fun lw nw => ?_⟩⟩
  have g0 : Gr W0 G H G (upd (upd H lf (.lst [])) lw (.lst [v])) := (Gr.alloc sg nf).al nw
  have hne : lf ≠ lw := fun z => by rw [z, upd_same] at nw; cases nw
  have nw' : H lw = none := by rw [upd_ne hne.symm] at nw; exact nw
  refine ⟨fun m σ H1 => ∃ fs ts ws1 ws2 x, σ = [some v, some (.ref lf), some (.ref lw), x] ∧ Gr W0 G H G H1 ∧ H1 lf = some (.lst ws1) ∧ H1 lw = some (.lst ws2) ∧ IsTs G fs ws1 ∧ IsTs G ts ws2 ∧ fs ++ Tr.nodess ts.reverse = t.nodes ∧ m = Tr.sizes ts,
    ⟨_, [], [t], [], [v], none, rfl, g0, by rw [upd_ne hne, upd_same], upd_same, rfl, .one ht, by simp [Tr.nodess], rfl⟩, ?_⟩
  rintro m σ H1 ⟨fs, ts, ws1, ws2, x, rfl, gr, h1, h2, i1, i2, he, rfl⟩
  have hsz : fs.length + Tr.sizes ts = t.size := by
    have e := congrArg List.length he
    rw [List.length_append, nodess_len, sizes_rev, nodes_len] at e
    exact e
  refine ⟨_, rfl, lw, ws2, rfl, .inl (SqL.of h2), _, _, rfl, rfl, _, rfl, ?_⟩
  rcases List.eq_nil_or_concat ts with rfl | ⟨ts', u, rfl⟩
  · rw [show ws2 = [] from i2]
    refine iteF ⟨_, rfl, ?_⟩
    refine q lf ws1 H1 gr nf h1 ?_
    rw [← he]
    simpa [Tr.nodess] using i1
  · rw [List.concat_eq_append] at *
    obtain ⟨ws2, y, rfl, j2, iy⟩ := i2.split1
    rw [show decide ((0 : Int) < ((ws2 ++ [y]).length : Int)) = true by simp <;> omega]
    refine iteT ⟨fun σ' H' => ∃ m', m' < Tr.sizes (ts' ++ [u]) ∧ _, fun _ _ h => h, ?_⟩
    have sw : Tr.sizes (ts' ++ [u]) = Tr.sizes ts' + u.size := by simp [sizes_app, Tr.sizes]
    have up := u.size_pos
    have hl1 := i1.len
    have hl2 := j2.len
    have lts := sizes_len ts'
    refine ⟨_, rfl, .inl ⟨rfl, _, SqL.of h2⟩, lw, _, y, rfl, rfl, h2, last_of _ _, ?_⟩
    rw [List.dropLast_concat]
    have g2 : Gr W0 G H G (upd H1 lw (.lst ws2)) := gr.wr (.inl nw') (same_none sg nw') h2
    have h1' : upd H1 lw (.lst ws2) lf = some (.lst ws1) := by rw [upd_ne hne]; exact h1
    refine ⟨_, rfl, .inl ⟨rfl, _, SqL.of h1'⟩, _, rfl, lf, _, _, rfl, rfl, h1', smallT (by omega), ?_⟩
    have g3 : Gr W0 G H G (upd (upd H1 lw (.lst ws2)) lf (.lst (ws1 ++ [y]))) := g2.wr (.inl nf) (same_none sg nf) h1'
    have h3w : upd (upd H1 lw (.lst ws2)) lf (.lst (ws1 ++ [y])) lw = some (.lst ws2) := by rw [upd_ne hne.symm, upd_same]
    refine ⟨_, rfl, G, u, y, rfl, g3.sub, iy, _, rfl, ?_⟩
    cases u with
    | tx z =>
      refine iteF ⟨Tr.sizes ts', by omega, fs ++ [.tx z], ts', ws1 ++ [y], ws2, some y, rfl, g3, upd_same, h3w, i1.snoc iy, j2, ?_, rfl⟩
      rw [← he, List.reverse_append]
      simp [Tr.nodess, Tr.nodes]
    | el nm cs =>
      obtain ⟨a, l, vs, rfl, k1, k2, k3⟩ := id iy
      simp only [Tr.size] at sw hsz
      have lcs := sizes_len cs
      have lvs := k3.len
      refine iteT ⟨_, rfl, .inl ⟨rfl, _, SqL.of h3w⟩, _, rfl, a, _, _, _, rfl, rfl, SqT.of (g3.sub _ _ k1), rfl, l, vs, rfl, SqL.of (g3.sub _ _ k2), fun p np => ?_⟩
      have h4w := (Gr.al (o := .lst vs.reverse) g3 np).same
      have npw : lw ≠ p := ne_of_none h3w np
      have npf : lf ≠ p := ne_of_none upd_same np
      have g4 := g3.al (o := .lst vs.reverse) np
      have h4 : upd (upd (upd H1 lw (.lst ws2)) lf (.lst (ws1 ++ [.ref a]))) p (.lst vs.reverse) lw = some (.lst ws2) := by rw [upd_ne npw]; exact h3w
      refine ⟨lw, p, _, _, rfl, rfl, h4, upd_same, small (by rw [List.length_reverse]; omega), ?_⟩
      refine ⟨Tr.sizes (ts' ++ cs.reverse), by rw [sizes_app, sizes_rev]; omega, fs ++ [.el nm cs], ts' ++ cs.reverse, ws1 ++ [.ref a], ws2 ++ vs.reverse, some (.ref a), rfl, g4.wr (.inl nw') (same_none sg nw') h4, ?_, upd_same, i1.snoc iy, j2.app k3.reverse, ?_, rfl⟩
      · rw [upd_ne hne, upd_ne npf, upd_same]
      · rw [← he, List.reverse_append, List.reverse_append, List.reverse_reverse]
        simp [Tr.nodess, Tr.nodes, nodess_app]
theorem sc_weight_of : FnScope ["tree"] ["tree"] (defScope s_weight_of) := ⟨rfl, rfl, rfl, by decide +kernel, rfl, by decide +kernel, by decide +kernel⟩
theorem hd_weight_of (D : Df K mg "weight_of" s_weight_of) (T : Tx K mg) (h_nodes_of : Hd P w K mg base "nodes_of" ["tree"] k spNodes) : Hd P w K mg base "weight_of" ["tree"] (k + 1) spSize := by
  refine hd_mk D sc_weight_of (fun _ _ _ _ _ _ us hl => match us, hl with | [_], _ => rfl) (fun vs H Q E h => ?_) (fun f cdv A outer s H vs Q E hr h => ?_)
  · obtain ⟨G, t, v, rfl, _⟩ := h; rfl
  obtain ⟨G, t, v, rfl, sg, ht, hz, q⟩ := h
  refine ⟨_, (pss_one (ps_ret (pe_callB call_len_seq (by rfl) T.len (by decide +kernel) (pa_cons (pe_hd h_nodes_of hr rfl (pa_cons (pv 0) pa_nil)) pa_nil)))), ?_⟩
  refine ⟨_, rfl, G, t, v, rfl, sg, ht, hz, fun p ws H' g n h i => ⟨p, ws, rfl, .inl (SqL.of h), ?_⟩⟩
  have := q H' g.same
  rw [i.len, nodes_len]
  exact this
theorem sc_node_at : FnScope ["tree", "node", "nodes"] ["tree", "node"] (defScope s_node_at) := ⟨rfl, rfl, rfl, by decide +kernel, rfl, by decide +kernel, by decide +kernel⟩
theorem hd_node_at (D : Df K mg "node_at" s_node_at) (T : Tx K mg) (h_nodes_of : Hd P w K mg base "nodes_of" ["tree"] k spNodes) : Hd P w K mg base "node_at" ["tree", "node"] (k + 1) spNode := by
  refine hd_mk D sc_node_at (fun _ _ _ _ _ _ us hl => match us, hl with | [_, _], _ => rfl) (fun vs H Q E h => ?_) (fun f cdv A outer s H vs Q E hr h => ?_)
  · obtain ⟨G, t, u, v, i, rfl, _⟩ := h; rfl
  obtain ⟨G, t, u, v, i, rfl, sg, ht, hz, hi, q⟩ := h
  refine ⟨_, (pss_cons (ps_set (i := 2) sc_node_at.nd rfl (Or.inl rfl) (pe_hd h_nodes_of hr rfl (pa_cons (pv 0) pa_nil)))
    (pss_cons (ps_if (pt_not (pt_chain op_le op_lt pe_int (pv 1) (pe_callB call_len_seq (by rfl) T.len (by decide +kernel) (pa_cons (pv 2) pa_nil))))
      (pss_one ps_never)
      pss_nil)
    (pss_one (ps_ret (pe_ix ix_list (pv 2) (pv 1) (fun _ _ => rfl)))))), ?_⟩
  refine ⟨_, rfl, G, t, v, rfl, sg, ht, hz, fun p ws H' g n h it => ?_⟩
  obtain ⟨x, hx, kx⟩ := it.get hi
  have hlt : i < ws.length := (List.getElem?_eq_some_iff.mp hx).1
  refine ⟨_, rfl, _, _, rfl, rfl, _, rfl, ?_⟩
  rw [show decide ((0 : Int) ≤ (i : Int)) = true by simp]
  refine iteT ⟨_, rfl, p, ws, rfl, .inl (SqL.of h), _, _, rfl, rfl, _, rfl, ?_⟩
  rw [show decide ((i : Int) < (ws.length : Int)) = true by simp <;> omega]
  exact iteF ⟨_, rfl, _, rfl, p, ws, _, x, rfl, rfl, SqL.of h, atI_n rfl hx, q x H' g.same kx⟩
end
end K5
set_option Elab.async false
set_option linter.all false
set_option maxRecDepth 100000
set_option maxHeartbeats 4000000
namespace K5
open PySem PySem.Spec PyProof.Rows L2
/-! ### lists of values, item by item -/
def Al {α : Type} (R : α → V → Prop) (xs : List α) (ys : List V) : Prop := ys.length = xs.length ∧ ∀ (i : Nat) (x : α), xs[i]? = some x → ∃ y, ys[i]? = some y ∧ R x y
section
variable {α : Type} {R R' : α → V → Prop} {xs xs' : List α} {ys ys' : List V} {x : α} {y : V}
theorem Al.nil : Al R [] [] := ⟨rfl, fun i x e => by simp at e⟩
theorem Al.len (h : Al R xs ys) : ys.length = xs.length := h.1
theorem Al.get (h : Al R xs ys) {i : Nat} (e : xs[i]? = some x) : ∃ y, ys[i]? = some y ∧ R x y := h.2 i x e
theorem Al.at_ (h : Al R xs ys) {i : Nat} (e : ys[i]? = some y) : ∃ x, xs[i]? = some x ∧ R x y := by
  have hi : i < xs.length := by rw [← h.1]; exact (List.getElem?_eq_some_iff.mp e).1
  obtain ⟨z, e1, r⟩ := h.2 i _ (List.getElem?_eq_getElem hi)
  rw [e] at e1
  cases e1
  exact ⟨_, List.getElem?_eq_getElem hi, r⟩
theorem Al.mono (h : Al R xs ys) (f : ∀ x y, R x y → R' x y) : Al R' xs ys := ⟨h.1, fun i x e => let ⟨y, e1, r⟩ := h.2 i x e; ⟨y, e1, f x y r⟩⟩
theorem Al.app (h : Al R xs ys) (k : Al R xs' ys') : Al R (xs ++ xs') (ys ++ ys') := by
  refine ⟨by rw [List.length_append, List.length_append, h.1, k.1], fun i x e => ?_⟩
  rcases Nat.lt_or_ge i xs.length with l | l
  · rw [List.getElem?_append_left l] at e
    rw [List.getElem?_append_left (by rw [h.1]; exact l)]
    exact h.2 i x e
  · rw [List.getElem?_append_right l] at e
    rw [List.getElem?_append_right (by rw [h.1]; exact l), h.1]
    exact k.2 _ x e
theorem Al.one (h : R x y) : Al R [x] [y] := ⟨rfl, fun i z e => by
    cases i with
    | zero => cases (Option.some.inj e); exact ⟨y, rfl, h⟩
    | succ i => simp at e⟩
theorem Al.snoc (h : Al R xs ys) (k : R x y) : Al R (xs ++ [x]) (ys ++ [y]) := h.app (.one k)
theorem Al.split1 (h : Al R (xs ++ [x]) ys) : ∃ ys' y, ys = ys' ++ [y] ∧ Al R xs ys' ∧ R x y := by
  have hl : ys.length = xs.length + 1 := by rw [h.1]; simp
  rcases List.eq_nil_or_concat ys with rfl | ⟨ys', y, rfl⟩
  · simp at hl
  · rw [List.concat_eq_append] at *
    have hl' : ys'.length = xs.length := by simpa using hl
    refine ⟨ys', y, rfl, ⟨hl', fun i z e => ?_⟩, ?_⟩
    · have hi : i < xs.length := (List.getElem?_eq_some_iff.mp e).1
      obtain ⟨u, e1, r⟩ := h.2 i z (by rw [List.getElem?_append_left hi]; exact e)
      rw [List.getElem?_append_left (by omega)] at e1
      exact ⟨u, e1, r⟩
    · obtain ⟨u, e1, r⟩ := h.2 xs.length x (by simp)
      rw [← hl'] at e1
      simp at e1
      rw [e1]
      exact r
theorem Al.of (hl : ys.length = xs.length) (h : ∀ (i : Nat) (y : V), ys[i]? = some y → ∃ x, xs[i]? = some x ∧ R x y) : Al R xs ys := ⟨hl, fun i x e => by
    have hi : i < ys.length := by rw [hl]; exact (List.getElem?_eq_some_iff.mp e).1
    obtain ⟨z, e1, r⟩ := h i _ (List.getElem?_eq_getElem hi)
    rw [e] at e1
    cases e1
    exact ⟨_, List.getElem?_eq_getElem hi, r⟩⟩
theorem Al.map {f : α → V} (h : Al (fun x y => y = f x) xs ys) : ys = xs.map f := map_of h.1 fun i y e => by
  obtain ⟨x, e1, r⟩ := h.at_ e
  exact ⟨x, e1, r⟩
end
/-! ### ranges from a natural number -/
theorem walk_r0 {n : Nat} : Walk (Itr 0 n) n (fun _ => True) (fun i H x H' => H' = H ∧ x = .int ((i : Nat) : Int)) := by
  refine walk_range.mono (fun _ h => h) ?_
  rintro i H x H' _ _ ⟨e, h⟩
  exact ⟨e, by rw [h]; exact congrArg V.int (by omega)⟩
theorem walk_rN {lo n : Nat} : Walk (Itr ((lo : Nat) : Int) n) n (fun _ => True) (fun i H x H' => H' = H ∧ x = .int ((lo + i : Nat) : Int)) := by
  refine walk_range.mono (fun _ h => h) ?_
  rintro i H x H' _ _ ⟨e, h⟩
  exact ⟨e, by rw [h]; exact congrArg V.int (by omega)⟩
/-! ### trees that are right -/
mutual
def Tr.good : Tr → Bool
  | .tx s => isTxt s
  | .el n cs => (isNm n && apart cs) && Tr.goods cs
def Tr.goods : List Tr → Bool
  | [] => true
  | t :: ts => t.good && Tr.goods ts
end
mutual
/-- no string is too long -/
def Tr.fit : Tr → Prop
  | .tx s => s.length ≤ 1000000
  | .el n cs => n.length ≤ 1000000 ∧ Tr.fits cs
def Tr.fits : List Tr → Prop
  | [] => True
  | t :: ts => t.fit ∧ Tr.fits ts
end
theorem goods_app : ∀ (as bs : List Tr), Tr.goods (as ++ bs) = (Tr.goods as && Tr.goods bs)
  | [], bs => by simp [Tr.goods]
  | a :: as, bs => by simp only [List.cons_append, Tr.goods, goods_app as bs, Bool.and_assoc]
theorem fits_app : ∀ {as bs : List Tr}, Tr.fits (as ++ bs) ↔ Tr.fits as ∧ Tr.fits bs
  | [], bs => by simp [Tr.fits]
  | a :: as, bs => by simp only [List.cons_append, Tr.fits, fits_app (as := as), and_assoc]
theorem fits_get : ∀ {cs : List Tr} {i : Nat} {t : Tr}, Tr.fits cs → cs[i]? = some t → t.fit
  | [], i, t, _, h => by simp at h
  | c :: cs, 0, t, hf, h => by
    cases (Option.some.inj h)
    exact hf.1
  | c :: cs, i + 1, t, hf, h => fits_get (cs := cs) (i := i) hf.2 (by simpa using h)
def spTree : Sp := fun vs H Q _ => ∃ (G : Hp) (t : Tr) (v : V), vs = [v] ∧ Same G H ∧ IsT G t v ∧ t.size ≤ 100000 ∧ t.fit ∧ ∀ H', Same H H' → Q (.bl t.good) H'
def spDepth : Sp := fun vs H Q _ => ∃ (G : Hp) (t : Tr) (v : V), vs = [v] ∧ Same G H ∧ IsT G t v ∧ t.size ≤ 100000 ∧ ∀ H', Same H H' → Q (.int t.depth) H'
section
variable {P : Program} {w : World} {K : PySem.W.Frag} {mg : Str → Option Value} {base : Heap} {k : Nat}
theorem sc_is_tree : FnScope ["tree", "waiting", "here"] ["tree"] (defScope s_is_tree) := ⟨rfl, rfl, rfl, by decide +kernel, rfl, by decide +kernel, by decide +kernel⟩
theorem hd_is_tree (D : Df K mg "is_tree" s_is_tree) (T : Tx K mg) (h_is_string : Hd P w K mg base "is_string" ["tree"] k spIsS) (h_is_text : Hd P w K mg base "is_text" ["string"] k spTxt) (h_is_name : Hd P w K mg base "is_name" ["word"] k spNm)
    (h_are_apart : Hd P w K mg base "are_apart" ["children"] k spApart) : Hd P w K mg base "is_tree" ["tree"] (k + 1) spTree := by
  refine hd_mk D sc_is_tree (fun _ _ _ _ _ _ us hl => match us, hl with | [_], _ => rfl) (fun vs H Q E h => ?_) (fun f cdv A outer s H vs Q E hr h => ?_)
  · obtain ⟨G, t, v, rfl, _⟩ := h; rfl
  obtain ⟨G, t, v, rfl, sg, ht, hz, hf, q⟩ := h
  refine ⟨_, (pss_cons (ps_set (i := 1) sc_is_tree.nd rfl (Or.inl rfl) (pe_lst (pa_cons (pv 0) pa_nil)))
    (pss_cons (ps_while PassesOwn.never (pt_cmpR op_gt (pe_callB call_len_seq (by rfl) T.len (by decide +kernel) (pa_cons (pv 1) pa_nil)) pe_int (nomark _))
      (pss_cons (ps_set (i := 2) sc_is_tree.nd rfl (Or.inl rfl) (pe_bm0 PySem.F.plainAttrs_list PySem.F.slot_list_pop PySem.F.type_list_pop mt_pop (pv 1)))
      (pss_one (ps_if (pt_val (pe_hd h_is_string hr rfl (pa_cons (pv 2) pa_nil)))
        (pss_one (ps_if (pt_not (pt_val (pe_hd h_is_text hr rfl (pa_cons (pv 2) pa_nil))))
          (pss_one (ps_ret pe_bl))
          pss_nil))
        (pss_one (ps_if (PW.pt (pw_or (pt_not (pt_val (pe_hd h_is_name hr rfl (pa_cons (pe_ix ix_tup (pv 2) pe_int (fun _ _ => rfl)) pa_nil)))) (pw_or1 (pt_not (pt_val (pe_hd h_are_apart hr rfl (pa_cons (pe_ix ix_tup (pv 2) pe_int (fun _ _ => rfl)) pa_nil)))))))
          (pss_one (ps_ret pe_bl))
          (pss_one (ps_expr (pe_bm PySem.F.plainAttrs_list PySem.F.slot_list_extend PySem.F.type_list_extend mt_extend (pv 1) (pa_cons (pe_ix ix_tup (pv 2) pe_int (fun _ _ => rfl)) pa_nil))))))))))
    (pss_one (ps_ret pe_bl)))), ?_⟩
  refine ⟨_, rfl, by show 1 ≤ sizeLine; decide, fun lw nw => ?_⟩
  have g0 : Gr W0 G H G (upd H lw (.lst [v])) := Gr.alloc sg nw
  refine ⟨fun m σ H1 => ∃ ts ws x, σ = [some v, some (.ref lw), x] ∧ Gr W0 G H G H1 ∧ H1 lw = some (.lst ws) ∧ IsTs G ts ws ∧ t.good = Tr.goods ts ∧ Tr.fits ts ∧ Tr.sizes ts ≤ 100000 ∧ m = Tr.sizes ts,
    ⟨_, [t], [v], none, rfl, g0, upd_same, .one ht, by simp [Tr.goods], ⟨hf, trivial⟩, by simp [Tr.sizes]; omega, rfl⟩, ?_⟩
  rintro m σ H1 ⟨ts, ws, x, rfl, gr, h2, i2, he, hfs, hsz, rfl⟩
  refine ⟨_, rfl, lw, ws, rfl, .inl (SqL.of h2), _, _, rfl, rfl, _, rfl, ?_⟩
  rcases List.eq_nil_or_concat ts with rfl | ⟨ts', u, rfl⟩
  · rw [show ws = [] from i2]
    have := q H1 gr.same
    rw [he] at this
    exact iteF this
  · rw [List.concat_eq_append] at *
    obtain ⟨ws2, y, rfl, j2, iy⟩ := i2.split1
    rw [show decide ((0 : Int) < ((ws2 ++ [y]).length : Int)) = true by simp <;> omega]
    refine iteT ⟨fun σ' H' => ∃ m', m' < Tr.sizes (ts' ++ [u]) ∧ _, fun _ _ h => h, ?_⟩
    have sw : Tr.sizes (ts' ++ [u]) = Tr.sizes ts' + u.size := by simp [sizes_app, Tr.sizes]
    have up := u.size_pos
    have hl2 := j2.len
    have lts := sizes_len ts'
    obtain ⟨hf1, hfu, _⟩ := fits_app.mp hfs
    have he2 : t.good = (Tr.goods ts' && u.good) := by rw [he, goods_app]; simp [Tr.goods]
    refine ⟨_, rfl, .inl ⟨rfl, _, SqL.of h2⟩, lw, _, y, rfl, rfl, h2, last_of _ _, ?_⟩
    rw [List.dropLast_concat]
    have g2 : Gr W0 G H G (upd H1 lw (.lst ws2)) := gr.wr (.inl nw) (same_none sg nw) h2
    refine ⟨_, rfl, G, u, y, rfl, g2.sub, iy, _, rfl, ?_⟩
    cases u with
    | tx z =>
      cases (show y = .str z from iy)
      refine iteT ⟨_, rfl, z, rfl, hfu, fun H2 s2 => ⟨_, rfl, ?_⟩⟩
      have g3 := g2.trans (Gr.of g2.sub s2)
      cases hz' : isTxt z with
      | true =>
        refine iteF ⟨Tr.sizes ts', by omega, ts', ws2, some (.str z), rfl, g3, s2 _ _ upd_same, j2, ?_, hf1, by omega, rfl⟩
        rw [he2]
        simp [Tr.good, hz']
      | false =>
        have := q H2 g3.same
        rw [he2, show (Tr.tx z).good = false from hz', Bool.and_false] at this
        exact iteT this
    | el nm cs =>
      obtain ⟨a, l, vs, rfl, k1, k2, k3⟩ := id iy
      simp only [Tr.size] at sw
      have lcs := sizes_len cs
      have lvs := k3.len
      have hgu : (Tr.el nm cs).good = ((isNm nm && apart cs) && Tr.goods cs) := rfl
      refine iteF ⟨_, rfl, a, _, _, _, rfl, rfl, SqT.of (g2.sub _ _ k1), rfl, nm, rfl, hfu.1, fun H2 s2 => ⟨_, rfl, ?_⟩⟩
      have g3 := g2.trans (Gr.of g2.sub s2)
      cases hn : isNm nm with
      | false =>
        have := q H2 g3.same
        rw [he2, hgu, hn, Bool.false_and, Bool.false_and, Bool.and_false] at this
        exact iteT (iteT this)
      | true =>
        refine iteF ⟨_, rfl, a, _, _, _, rfl, rfl, SqT.of (g3.sub _ _ k1), rfl, G, cs, l, vs, rfl, g3.sub, g3.sub _ _ k2, k3, by omega, fun H3 s3 => ⟨_, rfl, ?_⟩⟩
        have g4 := g3.trans (Gr.of g3.sub s3)
        cases ha : apart cs with
        | false =>
          have := q H3 g4.same
          rw [he2, hgu, hn, ha, Bool.and_false, Bool.false_and, Bool.and_false] at this
          exact iteT this
        | true =>
          have h3 : H3 lw = some (.lst ws2) := s3 _ _ (s2 _ _ upd_same)
          refine iteF ⟨_, rfl, .inl ⟨rfl, _, SqL.of h3⟩, _, rfl, a, _, _, _, rfl, rfl, SqT.of (g4.sub _ _ k1), rfl, lw, l, _, _, rfl, rfl, h3, g4.sub _ _ k2, small (by omega), ?_⟩
          refine ⟨Tr.sizes (ts' ++ cs), by rw [sizes_app]; omega, ts' ++ cs, ws2 ++ vs, some (.ref a), rfl, g4.wr (.inl nw) (same_none sg nw) h3, upd_same, j2.app k3, ?_, fits_app.mpr ⟨hf1, hfu.2⟩, by rw [sizes_app]; omega, rfl⟩
          rw [he2, hgu, hn, ha, goods_app, Bool.and_self, Bool.true_and]
end
end K5
set_option Elab.async false
set_option linter.all false
set_option maxRecDepth 100000
set_option maxHeartbeats 4000000
namespace K5
open PySem PySem.Spec PyProof.Rows L2
/-- a tree and a number -/
def RTd (G : Hp) (p : Tr × Nat) (y : V) : Prop := ∃ (a : Addr) (v : V), y = .ref a ∧ G a = some (.tup [v, .int (p.2 : Nat)]) ∧ IsT G p.1 v
theorem RTd.mono {G G' : Hp} (s : Same G G') {p : Tr × Nat} {y : V} (h : RTd G p y) : RTd G' p y := by
  obtain ⟨a, v, e, h1, h2⟩ := h
  exact ⟨a, v, e, s _ _ h1, h2.mono s⟩
def dm : List (Tr × Nat) → Nat
  | [] => 0
  | p :: r => max (p.2 + p.1.depth - 1) (dm r)
theorem dm_app : ∀ (a b : List (Tr × Nat)), dm (a ++ b) = max (dm a) (dm b)
  | [], b => by simp [dm]
  | p :: a, b => by simp only [List.cons_append, dm, dm_app a b]; omega
theorem dm_kids : ∀ (cs : List Tr) (d : Nat), max d (dm (cs.map fun c => (c, d + 1))) = d + Tr.depths cs
  | [], d => by simp [dm, Tr.depths]
  | c :: cs, d => by
    have := dm_kids cs d
    have := c.depth_pos
    simp only [List.map_cons, dm, Tr.depths]
    omega
def szs : List (Tr × Nat) → Nat
  | [] => 0
  | p :: r => p.1.size + szs r
theorem szs_app : ∀ (a b : List (Tr × Nat)), szs (a ++ b) = szs a + szs b
  | [], b => by simp [szs]
  | p :: a, b => by simp only [List.cons_append, szs, szs_app a b]; omega
theorem szs_kids : ∀ (cs : List Tr) (d : Nat), szs (cs.map fun c => (c, d)) = Tr.sizes cs
  | [], d => rfl
  | c :: cs, d => by simp only [List.map_cons, szs, Tr.sizes, szs_kids cs d]
theorem szs_len : ∀ a : List (Tr × Nat), a.length ≤ szs a
  | [] => by simp
  | p :: a => by
    have := szs_len a
    have := p.1.size_pos
    simp only [szs, List.length_cons]
    omega
def Tr.rs (t : Tr) : Bool := decide ((t.size : Int) ≤ 5000) && decide ((t.depth : Int) ≤ 60)
def spRs : Sp := fun vs H Q _ => ∃ (G : Hp) (t : Tr) (v : V), vs = [v] ∧ Same G H ∧ IsT G t v ∧ t.size ≤ 100000 ∧ ∀ H', Same H H' → Q (.bl t.rs) H'
def spDoc : Sp := fun vs H Q _ => ∃ (G : Hp) (t : Tr) (v : V), vs = [v] ∧ Same G H ∧ IsT G t v ∧ t.size ≤ 100000 ∧ t.fit ∧ ∀ H', Same H H' → Q (.bl (!t.isTx && (t.good && t.rs))) H'
section
variable {P : Program} {w : World} {K : PySem.W.Frag} {mg : Str → Option Value} {base : Heap} {k : Nat}
theorem sc_depth_within : FnScope ["tree", "deepest", "waiting", "here", "depth", "child"] ["tree"] (defScope s_depth_within) := ⟨rfl, rfl, rfl, by decide +kernel, rfl, by decide +kernel, by decide +kernel⟩
theorem hd_depth_within (D : Df K mg "depth_within" s_depth_within) (T : Tx K mg) (h_is_string : Hd P w K mg base "is_string" ["tree"] k spIsS) : Hd P w K mg base "depth_within" ["tree"] (k + 1) spDepth := by
  refine hd_mk D sc_depth_within (fun _ _ _ _ _ _ us hl => match us, hl with | [_], _ => rfl) (fun vs H Q E h => ?_) (fun f cdv A outer s H vs Q E hr h => ?_)
  · obtain ⟨G, t, v, rfl, _⟩ := h; rfl
  obtain ⟨G, t, v, rfl, sg, ht, hz, q⟩ := h
  refine ⟨_, (pss_cons (ps_set (i := 1) sc_depth_within.nd rfl (Or.inl rfl) pe_int)
    (pss_cons (ps_set (i := 2) sc_depth_within.nd rfl (Or.inl rfl) (pe_lst (pa_cons (pe_tup (pa_cons (pv 0) (pa_cons pe_int pa_nil))) pa_nil)))
    (pss_cons (ps_while PassesOwn.never (pt_cmpR op_gt (pe_callB call_len_seq (by rfl) T.len (by decide +kernel) (pa_cons (pv 2) pa_nil)) pe_int (nomark _))
      (pss_cons (ps_asg (pe_bm0 PySem.F.plainAttrs_list PySem.F.slot_list_pop PySem.F.type_list_pop mt_pop (pv 2)) (pg_tup rfl (pgs_cons (pg_name (i := 3) sc_depth_within.nd rfl (Or.inl rfl)) (pgs_cons (pg_name (i := 4) sc_depth_within.nd rfl (Or.inr rfl)) pgs_nil))))
      (pss_cons (ps_set (i := 1) sc_depth_within.nd rfl (Or.inl rfl) (pe_callB (call_max2 rfl) (by rfl) T.max (by decide +kernel) (pa_cons (pv 1) (pa_cons (pv 4) pa_nil))))
      (pss_one (ps_if (pt_not (pt_val (pe_hd h_is_string hr rfl (pa_cons (pv 3) pa_nil))))
        (pss_one (ps_expr (pe_bm PySem.F.plainAttrs_list PySem.F.slot_list_extend PySem.F.type_list_extend mt_extend (pv 2) (pa_cons (pe_lc (own := [("child", 5)]) (g := gName 5) (tt := tYes) rfl sc_depth_within.nd (pi_list (pe_ix ix_tup (pv 3) pe_int (fun _ _ => rfl))) (blkOk_by (own := [("child", 5)]) (N := ["tree", "deepest", "waiting", "here", "depth", "child"]) (sc := defScope s_depth_within) (by decide +kernel)) (fun _ _ _ _ _ => (pg_name (i := 5) sc_depth_within.nd rfl (Or.inl rfl))) (fun _ _ _ _ _ => pts_nil) (fun _ _ _ _ _ => (pe_tup (pa_cons (pv 5) (pa_cons (pe_op op_add (pv 4) pe_int) pa_nil))))) pa_nil))))
        pss_nil)))))
    (pss_one (ps_ret (pv 1)))))), ?_⟩
  refine ⟨_, rfl, by show 2 ≤ sizeLine; decide, fun p0 n0 => ⟨by show 1 ≤ sizeLine; decide, fun lw nw => ?_⟩⟩
  have hne : p0 ≠ lw := fun z => by rw [z, upd_same] at nw; cases nw
  have nw' : H lw = none := by rw [upd_ne hne.symm] at nw; exact nw
  have g0 : Gr W0 G H (upd G p0 (.tup [v, .int 1])) (upd (upd H p0 (.tup [v, .int 1])) lw (.lst [.ref p0])) :=
    ((Gr.alloc sg n0).al nw).frz n0 (by rw [upd_ne hne, upd_same])
  refine ⟨fun m σ H1 => ∃ G1 st ws dp x y z, σ = [some v, some (.int ((dp : Nat) : Int)), some (.ref lw), x, y, z] ∧ Gr W0 G H G1 H1 ∧ G1 lw = none ∧ H1 lw = some (.lst ws) ∧ Al (RTd G1) st ws ∧ max dp (dm st) = t.depth ∧ szs st ≤ 100000 ∧ m = szs st,
    ⟨_, _, [(t, 1)], [.ref p0], 0, none, none, none, rfl, g0, ?_, upd_same, .one ⟨p0, v, rfl, upd_same, ht.mono g0.ext⟩, ?_, ?_, rfl⟩, ?_⟩
  · rw [upd_ne hne.symm]; exact same_none sg nw'
  · have := t.depth_pos
    simp only [dm]
    omega
  · simp only [szs]; omega
  rintro m σ H1 ⟨G1, st, ws, dp, x, y, z, rfl, gr, gw, h2, i2, he, hsz, rfl⟩
  refine ⟨_, rfl, lw, ws, rfl, .inl (SqL.of h2), _, _, rfl, rfl, _, rfl, ?_⟩
  rcases List.eq_nil_or_concat st with rfl | ⟨st', ⟨u, d⟩, rfl⟩
  · have e : ws = [] := List.length_eq_zero_iff.mp i2.1
    rw [e]
    have := q H1 gr.same
    rw [← he, dm, Nat.max_zero] at this
    exact iteF ⟨_, rfl, this⟩
  · rw [List.concat_eq_append] at *
    obtain ⟨ws2, b, rfl, j2, iy⟩ := i2.split1
    rw [show decide ((0 : Int) < ((ws2 ++ [b]).length : Int)) = true by simp <;> omega]
    refine iteT ⟨fun σ' H' => ∃ m', m' < szs (st' ++ [(u, d)]) ∧ _, fun _ _ h => h, ?_⟩
    have sw : szs (st' ++ [(u, d)]) = szs st' + u.size := by simp [szs_app, szs]
    have up := u.size_pos
    have hl2 := j2.len
    have lts := szs_len st'
    have he2 : max dp (max (dm st') (d + u.depth - 1)) = t.depth := by
      rw [← he, dm_app]
      simp [dm]
    obtain ⟨a, c, rfl, k1, k2⟩ := iy
    refine ⟨_, rfl, .inl ⟨rfl, _, SqL.of h2⟩, lw, _, _, rfl, rfl, h2, last_of _ _, ?_⟩
    rw [List.dropLast_concat]
    have g2 : Gr W0 G H G1 (upd H1 lw (.lst ws2)) := gr.wr (.inl nw') gw h2
    have aw : a ≠ lw := fun z => by rw [z, gw] at k1; cases k1
    refine ⟨a, _, rfl, SqT.of (g2.sub _ _ k1), rfl, c, _, rfl, _, _, rfl, rfl, ?_⟩
    refine ⟨_, rfl, _, rfl, (dp : Int), (d : Int), rfl, ?_⟩
    rw [show (if (d : Int) > (dp : Int) then (d : Int) else (dp : Int)) = ((max dp d : Nat) : Int) by
      split <;> omega]
    refine ⟨_, rfl, G1, u, c, rfl, g2.sub, k2, _, rfl, ?_⟩
    cases u with
    | tx s =>
      refine iteF ⟨szs st', by omega, G1, st', ws2, max dp d, some c, some (.int d), z, rfl, g2, gw, upd_same, j2, ?_, by omega, rfl⟩
      simp only [Tr.depth] at he2
      omega
    | el nm cs =>
      obtain ⟨b, l, vs, rfl, m1, m2, m3⟩ := id k2
      simp only [Tr.size] at sw
      simp only [Tr.depth] at he2
      have lcs := sizes_len cs
      have lvs := m3.len
      refine iteT ⟨_, rfl, .inl ⟨rfl, _, SqL.of upd_same⟩, _, rfl, b, _, _, _, rfl, rfl, SqT.of (g2.sub _ _ m1), rfl, l, rfl, ⟨_, SqL.of (g2.sub _ _ m2)⟩, fun D hD =>
        lc_rel walk_list hD g2.sub (fun G2 H2 gr => SqL.of (gr.sub0 _ _ m2)) (fun i G y => ∃ c, (cs.map fun c => (c, d + 1))[i]? = some c ∧ RTd G c y) (fun i G G' y s ⟨c, e, h⟩ => ⟨c, e, h.mono s⟩) (by rw [m3.len]; omega) ?_ ?_⟩
      · rintro i x G2 H2 H3 K' Z hi gr3 gD _ ⟨rfl, hx⟩ hK
        obtain ⟨e, he', hex⟩ := m3.at_ hx
        refine ⟨rfl, ty_yes ⟨_, rfl, _, rfl, _, _, rfl, rfl, by show 2 ≤ sizeLine; decide, fun p np => ?_⟩⟩
        refine hK _ _ _ ((Gr.alloc gr3.sub np).frz np upd_same) ⟨(e, d + 1), by rw [List.getElem?_map, he']; rfl, p, x, rfl, upd_same, ?_⟩
        exact (hex.mono gr3.ext).mono (same_frz (H1 := upd H3 p (.tup [x, .int ((d : Int) + 1)])) (gr3.al np).sub upd_same)
      · intro G2 H2 ys gr3 hy gD hl hr
        have g3 := g2.trans gr3
        have h3 : H2 lw = some (.lst ws2) := gr3.same _ _ upd_same
        have gw3 : G2 lw = none := gr3.free gw upd_same
        refine ⟨lw, D, _, _, rfl, rfl, h3, hy, small (by omega), ?_⟩
        refine ⟨szs (st' ++ cs.map fun c => (c, d + 1)), by rw [szs_app, szs_kids]; omega, G2, st' ++ cs.map fun c => (c, d + 1), ws2 ++ ys, max dp d, _, some (.int d), z, rfl, g3.wr (.inl nw') gw3 h3, gw3, upd_same,
          (j2.mono fun _ _ h => h.mono gr3.ext).app (Al.of (by rw [hl, List.length_map, lvs]) hr), ?_, by rw [szs_app, szs_kids]; omega, rfl⟩
        have := dm_kids cs d
        rw [dm_app]
        omega
theorem sc_has_right_size : FnScope ["tree"] ["tree"] (defScope s_has_right_size) := ⟨rfl, rfl, rfl, by decide +kernel, rfl, by decide +kernel, by decide +kernel⟩
theorem hd_has_right_size (D : Df K mg "has_right_size" s_has_right_size) (T : Tx K mg) (h_nodes_of : Hd P w K mg base "nodes_of" ["tree"] k spNodes) (h_depth_within : Hd P w K mg base "depth_within" ["tree"] k spDepth) :
    Hd P w K mg base "has_right_size" ["tree"] (k + 1) spRs := by
  refine hd_mk D sc_has_right_size (fun _ _ _ _ _ _ us hl => match us, hl with | [_], _ => rfl) (fun vs H Q E h => ?_) (fun f cdv A outer s H vs Q E hr h => ?_)
  · obtain ⟨G, t, v, rfl, _⟩ := h; rfl
  obtain ⟨G, t, v, rfl, sg, ht, hz, q⟩ := h
  refine ⟨_, (pss_one (ps_ret (pe_and (pe_cmpR op_le (pe_callB call_len_seq (by rfl) T.len (by decide +kernel) (pa_cons (pe_hd h_nodes_of hr rfl (pa_cons (pv 0) pa_nil)) pa_nil)) (pe_gi rfl T.MOST_NODES) (nomark _)) (pe_one (pe_cmpR op_le (pe_hd h_depth_within hr rfl (pa_cons (pv 0) pa_nil)) (pe_gi rfl T.MOST_DEPTH_plain) (nomark _)))))), ?_⟩
  refine ⟨_, rfl, G, t, v, rfl, sg, ht, hz, fun p ws H1 g n h i => ⟨p, ws, rfl, .inl (SqL.of h), _, _, rfl, rfl, _, rfl, ?_⟩⟩
  rw [show ((ws.length : Nat) : Int) = (t.size : Int) by rw [i.len, nodes_len]]
  have e0 : t.rs = (decide ((t.size : Int) ≤ 5000) && decide ((t.depth : Int) ≤ 60)) := rfl
  refine ite2 (fun c1 => ⟨_, rfl, G, t, v, rfl, g.sub, ht, hz, fun H2 s2 => ⟨_, _, rfl, rfl, ?_⟩⟩) fun c1 => ?_
  · have := q H2 (g.same.trans s2)
    rw [e0, c1, Bool.true_and] at this
    exact this
  · have := q H1 g.same
    rw [e0, Bool.eq_false_iff.mpr c1, Bool.false_and] at this
    exact this
theorem sc_is_document : FnScope ["tree"] ["tree"] (defScope s_is_document) := ⟨rfl, rfl, rfl, by decide +kernel, rfl, by decide +kernel, by decide +kernel⟩
theorem hd_is_document (D : Df K mg "is_document" s_is_document) (h_is_string : Hd P w K mg base "is_string" ["tree"] k spIsS) (h_is_tree : Hd P w K mg base "is_tree" ["tree"] k spTree) (h_has_right_size : Hd P w K mg base "has_right_size" ["tree"] k spRs) :
    Hd P w K mg base "is_document" ["tree"] (k + 1) spDoc := by
  refine hd_mk D sc_is_document (fun _ _ _ _ _ _ us hl => match us, hl with | [_], _ => rfl) (fun vs H Q E h => ?_) (fun f cdv A outer s H vs Q E hr h => ?_)
  · obtain ⟨G, t, v, rfl, _⟩ := h; rfl
  obtain ⟨G, t, v, rfl, sg, ht, hz, hf, q⟩ := h
  refine ⟨_, (pss_one (ps_ret (pe_and (pe_not (pe_hd h_is_string hr rfl (pa_cons (pv 0) pa_nil))) (pe_and (pe_hd h_is_tree hr rfl (pa_cons (pv 0) pa_nil)) (pe_one (pe_hd h_has_right_size hr rfl (pa_cons (pv 0) pa_nil))))))), ?_⟩
  refine ⟨_, rfl, G, t, v, rfl, sg, ht, _, rfl, _, rfl, ?_⟩
  cases c1 : t.isTx with
  | true =>
    have := q H (Same.refl H)
    rw [c1] at this
    exact iteF this
  | false =>
    refine iteT ⟨_, rfl, G, t, v, rfl, sg, ht, hz, hf, fun H1 s1 => ⟨_, rfl, ?_⟩⟩
    cases c2 : t.good with
    | false =>
      have := q H1 s1
      rw [c1, c2] at this
      exact iteF this
    | true =>
      refine iteT ⟨_, rfl, G, t, v, rfl, sg.trans s1, ht, hz, fun H2 s2 => ?_⟩
      have := q H2 (s1.trans s2)
      rw [c1, c2] at this
      exact this
end
end K5
set_option Elab.async false
set_option linter.all false
set_option maxRecDepth 100000
set_option maxHeartbeats 4000000
namespace K5
open PySem PySem.Spec PyProof.Rows L2
/-! ### each node's parent and depth -/
mutual
def Tr.pars (b : Nat) (p : Option Nat) (d : Nat) : Tr → List (Option Nat × Nat)
  | .tx _ => [(p, d)]
  | .el _ cs => (p, d) :: Tr.parss (b + 1) b (d + 1) cs
def Tr.parss (b : Nat) (p : Nat) (d : Nat) : List Tr → List (Option Nat × Nat)
  | [] => []
  | t :: ts => Tr.pars b (some p) d t ++ Tr.parss (b + t.size) p d ts
end
mutual
theorem pars_len : ∀ (b : Nat) (p : Option Nat) (d : Nat) (t : Tr), (t.pars b p d).length = t.size
  | _, _, _, .tx _ => rfl
  | b, p, d, .el _ cs => by
    simp only [Tr.pars, Tr.size, List.length_cons, parss_len (b + 1) b (d + 1) cs]
    omega
theorem parss_len : ∀ (b p d : Nat) (ts : List Tr), (Tr.parss b p d ts).length = Tr.sizes ts
  | _, _, _, [] => rfl
  | b, p, d, t :: ts => by simp only [Tr.parss, Tr.sizes, List.length_append, pars_len b (some p) d t, parss_len (b + t.size) p d ts]
end
def pV : Option Nat → V
  | none => .non
  | some n => .int (n : Nat)
abbrev St3 : Type := Tr × Option Nat × Nat
def RT3 (G : Hp) (p : St3) (y : V) : Prop := ∃ (a : Addr) (v : V), y = .ref a ∧ G a = some (.tup [v, pV p.2.1, .int (p.2.2 : Nat)]) ∧ IsT G p.1 v
theorem RT3.mono {G G' : Hp} (s : Same G G') {p : St3} {y : V} (h : RT3 G p y) : RT3 G' p y := by
  obtain ⟨a, v, e, h1, h2⟩ := h
  exact ⟨a, v, e, s _ _ h1, h2.mono s⟩
def RPd (G : Hp) (p : Option Nat × Nat) (y : V) : Prop := ∃ a : Addr, y = .ref a ∧ G a = some (.tup [pV p.1, .int (p.2 : Nat)])
theorem RPd.mono {G G' : Hp} (s : Same G G') {p : Option Nat × Nat} {y : V} (h : RPd G p y) : RPd G' p y := by
  obtain ⟨a, e, h1⟩ := h
  exact ⟨a, e, s _ _ h1⟩
def outs : Nat → List St3 → List (Option Nat × Nat)
  | _, [] => []
  | b, p :: r => p.1.pars b p.2.1 p.2.2 ++ outs (b + p.1.size) r
def sz3 : List St3 → Nat
  | [] => 0
  | p :: r => p.1.size + sz3 r
theorem outs_len : ∀ (b : Nat) (l : List St3), (outs b l).length = sz3 l
  | _, [] => rfl
  | b, p :: r => by simp only [outs, sz3, List.length_append, pars_len, outs_len (b + p.1.size) r]
theorem sz3_app : ∀ a b : List St3, sz3 (a ++ b) = sz3 a + sz3 b
  | [], b => by simp [sz3]
  | p :: a, b => by simp only [List.cons_append, sz3, sz3_app a b]; omega
theorem sz3_rev : ∀ a : List St3, sz3 a.reverse = sz3 a
  | [] => rfl
  | p :: a => by simp only [List.reverse_cons, sz3_app, sz3_rev a, sz3]; omega
theorem sz3_len : ∀ a : List St3, a.length ≤ sz3 a
  | [] => by simp
  | p :: a => by
    have := sz3_len a
    have := p.1.size_pos
    simp only [sz3, List.length_cons]
    omega
theorem sz3_kids : ∀ (cs : List Tr) (p : Option Nat) (d : Nat), sz3 (cs.map fun c => (c, p, d)) = Tr.sizes cs
  | [], _, _ => rfl
  | c :: cs, p, d => by simp only [List.map_cons, sz3, Tr.sizes, sz3_kids cs p d]
theorem outs_kids : ∀ (cs : List Tr) (b p d : Nat) (r : List St3), outs b ((cs.map fun c => (c, some p, d)) ++ r) = Tr.parss b p d cs ++ outs (b + Tr.sizes cs) r
  | [], b, p, d, r => rfl
  | c :: cs, b, p, d, r => by
    simp only [List.map_cons, List.cons_append, outs, Tr.parss, Tr.sizes, outs_kids cs (b + c.size) p d r, List.append_assoc, Nat.add_assoc]
def Tr.pth (t : Tr) : List (Option Nat) := (t.pars 0 none 1).map (·.1)
theorem pth_len (t : Tr) : t.pth.length = t.size := by rw [Tr.pth, List.length_map, pars_len]
theorem cnt_take {q : Nat} : ∀ (l : List (Option Nat)) (i : Nat), i ≤ l.length → ((List.range i).filter fun j => decide (pV (l.getD j none) = .int (q : Nat))).length = (l.take i).count (some q)
  | l, 0, _ => rfl
  | l, i + 1, h => by
    have ih := cnt_take (q := q) l i (by omega)
    have hi : i < l.length := by omega
    rw [List.range_succ, List.filter_append, List.length_append, ih, List.take_succ, List.count_append]
    congr 1
    have e : l.getD i none = l[i] := by rw [List.getD_eq_getElem?_getD, List.getElem?_eq_getElem hi]; rfl
    rw [List.getElem?_eq_getElem hi]
    simp only [List.filter_cons, List.filter_nil, e, Option.toList]
    cases l[i] with
    | none => simp [pV]
    | some n =>
      by_cases hn : n = q
      · subst hn; simp [pV]
      · have : ¬ ((n : Int) = (q : Int)) := by omega
        simp [pV, hn, this]
def spWays : Sp := fun vs H Q _ => ∃ (G : Hp) (t : Tr) (v : V), vs = [v] ∧ Same G H ∧ IsT G t v ∧ t.size ≤ 100000 ∧ ∀ p ws G' H', Gr W0 G H G' H' → H p = none → H' p = some (.lst ws) → Al (RPd G') (t.pars 0 none 1) ws → Q (.ref p) H'
def spSpot : Sp := fun vs H Q _ => ∃ (G : Hp) (t : Tr) (v : V) (i p : Nat), vs = [v, .int (i : Nat)] ∧ Same G H ∧ IsT G t v ∧ t.size ≤ 100000 ∧ t.pth[i]? = some (some p) ∧
  ∀ a H', Same H H' → H' a = some (.tup [.int (p : Nat), .int (((t.pth.take i).count (some p) : Nat) : Int)]) → Q (.ref a) H'
section
variable {P : Program} {w : World} {K : PySem.W.Frag} {mg : Str → Option Value} {base : Heap} {k : Nat}
theorem sc_ways_of : FnScope ["tree", "found", "waiting", "here", "parent", "depth", "number", "child"] ["tree"] (defScope s_ways_of) := ⟨rfl, rfl, rfl, by decide +kernel, rfl, by decide +kernel, by decide +kernel⟩
theorem hd_ways_of (D : Df K mg "ways_of" s_ways_of) (T : Tx K mg) (h_is_string : Hd P w K mg base "is_string" ["tree"] k spIsS) : Hd P w K mg base "ways_of" ["tree"] (k + 1) spWays := by
  refine hd_mk D sc_ways_of (fun _ _ _ _ _ _ us hl => match us, hl with | [_], _ => rfl) (fun vs H Q E h => ?_) (fun f cdv A outer s H vs Q E hr h => ?_)
  · obtain ⟨G, t, v, rfl, _⟩ := h; rfl
  obtain ⟨G, t, v, rfl, sg, ht, hz, q⟩ := h
  refine ⟨_, (pss_cons (ps_set (i := 1) sc_ways_of.nd rfl (Or.inl rfl) (pe_lst pa_nil))
    (pss_cons (ps_set (i := 2) sc_ways_of.nd rfl (Or.inl rfl) (pe_lst (pa_cons (pe_tup (pa_cons (pv 0) (pa_cons pe_non (pa_cons pe_int pa_nil)))) pa_nil)))
    (pss_cons (ps_while PassesOwn.never (pt_cmpR op_gt (pe_callB call_len_seq (by rfl) T.len (by decide +kernel) (pa_cons (pv 2) pa_nil)) pe_int (nomark _))
      (pss_cons (ps_asg (pe_bm0 PySem.F.plainAttrs_list PySem.F.slot_list_pop PySem.F.type_list_pop mt_pop (pv 2)) (pg_tup rfl (pgs_cons (pg_name (i := 3) sc_ways_of.nd rfl (Or.inl rfl)) (pgs_cons (pg_name (i := 4) sc_ways_of.nd rfl (Or.inl rfl)) (pgs_cons (pg_name (i := 5) sc_ways_of.nd rfl (Or.inr rfl)) pgs_nil)))))
      (pss_cons (ps_set (i := 6) sc_ways_of.nd rfl (Or.inr rfl) (pe_callB call_len_seq (by rfl) T.len (by decide +kernel) (pa_cons (pv 1) pa_nil)))
      (pss_cons (ps_expr (pe_bm PySem.F.plainAttrs_list PySem.F.slot_list_append PySem.F.type_list_append mt_append (pv 1) (pa_cons (pe_tup (pa_cons (pv 4) (pa_cons (pv 5) pa_nil))) pa_nil)))
      (pss_one (ps_if (pt_not (pt_val (pe_hd h_is_string hr rfl (pa_cons (pv 3) pa_nil))))
        (pss_one (ps_expr (pe_bm PySem.F.plainAttrs_list PySem.F.slot_list_extend PySem.F.type_list_extend mt_extend (pv 2) (pa_cons (pe_lc (own := [("child", 7)]) (g := gName 7) (tt := tYes) rfl sc_ways_of.nd (pi_reversed (by rfl) T.reversed (pa_cons (pe_ix ix_tup (pv 3) pe_int (fun _ _ => rfl)) pa_nil)) (blkOk_by (own := [("child", 7)]) (N := ["tree", "found", "waiting", "here", "parent", "depth", "number", "child"]) (sc := defScope s_ways_of) (by decide +kernel)) (fun _ _ _ _ _ => (pg_name (i := 7) sc_ways_of.nd rfl (Or.inl rfl))) (fun _ _ _ _ _ => pts_nil) (fun _ _ _ _ _ => (pe_tup (pa_cons (pv 7) (pa_cons (pv 6) (pa_cons (pe_op op_add (pv 5) pe_int) pa_nil)))))) pa_nil))))
        pss_nil))))))
    (pss_one (ps_ret (pv 1)))))), ?_⟩
  refine ⟨by show 0 ≤ sizeLine; decide, fun lf nf => ⟨_, rfl, by show 3 ≤ sizeLine; decide, fun p0 n0 => ⟨by show 1 ≤ sizeLine; decide, fun lw nw => ?_⟩⟩⟩
  have n0' : H p0 = none := (Gr.alloc sg nf (W := W0)).dom _ n0
  have g1 : Gr W0 G H G (upd (upd H lf (.lst [])) p0 (.tup [v, .non, .int 1])) := (Gr.alloc sg nf).al n0
  have nw' : H lw = none := g1.dom _ nw
  have f0 : lf ≠ p0 := ne_of_none upd_same n0
  have f1 : p0 ≠ lw := ne_of_none upd_same nw
  have f2 : lf ≠ lw := ne_of_none (show upd (upd H lf (.lst [])) p0 (.tup [v, .non, .int 1]) lf = some (.lst []) by rw [upd_ne f0, upd_same]) nw
  have g0 : Gr W0 G H (upd G p0 (.tup [v, .non, .int 1])) (upd (upd (upd H lf (.lst [])) p0 (.tup [v, .non, .int 1])) lw (.lst [.ref p0])) :=
    (g1.al nw).frz n0' (by rw [upd_ne f1, upd_same])
  refine ⟨fun m σ H1 => ∃ G1 fs wf st ws x y z u, σ = [some v, some (.ref lf), some (.ref lw), x, y, z, u, none] ∧ Gr W0 G H G1 H1 ∧ G1 lw = none ∧ G1 lf = none ∧ H1 lf = some (.lst wf) ∧ H1 lw = some (.lst ws) ∧ Al (RPd G1) fs wf ∧ Al (RT3 G1) st ws ∧
      fs ++ outs fs.length st.reverse = t.pars 0 none 1 ∧ m = sz3 st,
    ⟨_, _, [], [], [(t, none, 1)], [.ref p0], none, none, none, none, rfl, g0, ?_, ?_, ?_, upd_same, .nil, .one ⟨p0, v, rfl, upd_same, ht.mono g0.ext⟩, ?_, rfl⟩, ?_⟩
  · rw [upd_ne f1.symm]; exact same_none sg nw'
  · rw [upd_ne f0]; exact same_none sg nf
  · rw [upd_ne f2, upd_ne f0, upd_same]
  · simp [outs]
  rintro m σ H1 ⟨G1, fs, wf, st, ws, x, y, z, u, rfl, gr, gw, gf, h1, h2, i1, i2, he, rfl⟩
  have hsz : fs.length + sz3 st = t.size := by
    have e := congrArg List.length he
    rw [List.length_append, outs_len, sz3_rev, pars_len] at e
    exact e
  refine ⟨_, rfl, lw, ws, rfl, .inl (SqL.of h2), _, _, rfl, rfl, _, rfl, ?_⟩
  rcases List.eq_nil_or_concat st with rfl | ⟨st', ⟨tu, p, d⟩, rfl⟩
  · have e : ws = [] := List.length_eq_zero_iff.mp i2.1
    rw [e]
    refine iteF ⟨_, rfl, ?_⟩
    refine q lf wf G1 H1 gr nf h1 ?_
    rw [← he]
    simpa [outs] using i1
  · rw [List.concat_eq_append] at *
    obtain ⟨ws2, b, rfl, j2, iy⟩ := i2.split1
    rw [show decide ((0 : Int) < ((ws2 ++ [b]).length : Int)) = true by simp <;> omega]
    refine iteT ⟨fun σ' H' => ∃ m', m' < sz3 (st' ++ [(tu, p, d)]) ∧ _, fun _ _ h => h, ?_⟩
    have sw : sz3 (st' ++ [(tu, p, d)]) = sz3 st' + tu.size := by simp [sz3_app, sz3]
    have up := tu.size_pos
    have hl1 := i1.len
    have hl2 := j2.len
    have lts := sz3_len st'
    obtain ⟨a, c, rfl, k1, k2⟩ := iy
    refine ⟨_, rfl, .inl ⟨rfl, _, SqL.of h2⟩, lw, _, _, rfl, rfl, h2, last_of _ _, ?_⟩
    rw [List.dropLast_concat]
    have g2 : Gr W0 G H G1 (upd H1 lw (.lst ws2)) := gr.wr (.inl nw') gw h2
    refine ⟨a, _, rfl, SqT.of (g2.sub _ _ k1), rfl, c, _, rfl, _, _, rfl, _, _, rfl, rfl, ?_⟩
    have h2f : upd H1 lw (.lst ws2) lf = some (.lst wf) := by rw [upd_ne f2]; exact h1
    refine ⟨_, rfl, lf, wf, rfl, .inl (SqL.of h2f), ?_⟩
    refine ⟨_, rfl, .inl ⟨rfl, _, SqL.of h2f⟩, _, rfl, _, rfl, by show 2 ≤ sizeLine; decide, fun q0 nq => ?_⟩
    have g3 := g2.al (o := .tup [pV p, .int (d : Nat)]) nq
    have nq' : H q0 = none := g2.dom _ nq
    have g4 := g3.frz nq' upd_same
    have s4 := same_frz (p := q0) g3.sub upd_same
    have qf : lf ≠ q0 := ne_of_none h2f nq
    have qw : lw ≠ q0 := ne_of_none upd_same nq
    have h4f : upd (upd H1 lw (.lst ws2)) q0 (.tup [pV p, .int (d : Nat)]) lf = some (.lst wf) := by rw [upd_ne qf]; exact h2f
    have gf4 : upd G1 q0 (.tup [pV p, .int (d : Nat)]) lf = none := by rw [upd_ne qf]; exact gf
    have gw4 : upd G1 q0 (.tup [pV p, .int (d : Nat)]) lw = none := by rw [upd_ne qw]; exact gw
    refine ⟨lf, _, _, rfl, rfl, h4f, smallT (by omega), ?_⟩
    have g5 := g4.wr (o := .lst (wf ++ [.ref q0])) (.inl nf) gf4 h4f
    have h5w : upd (upd (upd H1 lw (.lst ws2)) q0 (.tup [pV p, .int (d : Nat)])) lf (.lst (wf ++ [.ref q0])) lw = some (.lst ws2) := by rw [upd_ne f2.symm, upd_ne qw, upd_same]
    refine ⟨_, rfl, _, tu, c, rfl, g5.sub, k2.mono s4, _, rfl, ?_⟩
    have i5 : Al (RPd (upd G1 q0 (.tup [pV p, .int (d : Nat)]))) (fs ++ [(p, d)]) (wf ++ [.ref q0]) := (i1.mono fun _ _ h => h.mono s4).snoc ⟨q0, rfl, upd_same⟩
    have j5 := j2.mono fun _ _ h => h.mono s4
    cases tu with
    | tx s =>
      refine iteF ⟨sz3 st', by omega, _, fs ++ [(p, d)], wf ++ [.ref q0], st', ws2, some c, some (pV p), some (.int d), _, rfl, g5, gw4, gf4, upd_same, h5w, i5, j5, ?_, rfl⟩
      rw [← he, List.reverse_append]
      simp [outs, Tr.pars, Tr.size]
    | el nm cs =>
      obtain ⟨b, l, vs, rfl, m1, m2, m3⟩ := id (k2.mono s4)
      simp only [Tr.size] at sw hsz
      have lcs := sizes_len cs
      have lvs := m3.len
      refine iteT ⟨_, rfl, .inl ⟨rfl, _, SqL.of h5w⟩, _, rfl, b, _, _, _, rfl, rfl, SqT.of (g5.sub _ _ m1), rfl, l, vs, rfl, SqL.of (g5.sub _ _ m2), fun D hD =>
        lc_rel (walk_rev (xs := vs)) hD g5.sub (fun G2 H2 gr => SqL.of (gr.sub0 _ _ m2)) (fun i G y => ∃ c, (cs.reverse.map fun c => (c, some fs.length, d + 1))[i]? = some c ∧ RT3 G c y) (fun i G G' y s ⟨c, e, h⟩ => ⟨c, e, h.mono s⟩) (by omega) ?_ ?_⟩
      · rintro i x G2 H2 H3 K' Z hi gr3 gD _ ⟨rfl, hx⟩ hK
        obtain ⟨e, he', hex⟩ := m3.at_ hx
        refine ⟨rfl, ty_yes ⟨_, rfl, _, rfl, _, rfl, _, _, rfl, rfl, by show 3 ≤ sizeLine; decide, fun p np => ?_⟩⟩
        refine hK _ _ _ ((Gr.alloc gr3.sub np).frz np upd_same) ⟨(e, some fs.length, d + 1), ?_, p, x, rfl, ?_, ?_⟩
        · rw [List.getElem?_map, List.getElem?_reverse (by omega), ← lvs, he']; rfl
        · show upd G2 p _ p = some (.tup [x, .int ((fs.length : Nat) : Int), .int ((d + 1 : Nat) : Int)])
          rw [upd_same, hl1]
          rfl
        · exact (hex.mono gr3.ext).mono (same_frz (H1 := upd H3 p (.tup [x, .int (wf.length : Nat), .int ((d : Int) + 1)])) (gr3.al np).sub upd_same)
      · intro G2 H2 ys gr3 hy gD hl hr
        have g6 := g5.trans gr3
        have h3 : H2 lw = some (.lst ws2) := gr3.same _ _ h5w
        have gw3 : G2 lw = none := gr3.free gw4 h5w
        have gf3 : G2 lf = none := gr3.free gf4 upd_same
        refine ⟨lw, D, _, _, rfl, rfl, h3, hy, small (by omega), ?_⟩
        refine ⟨sz3 (st' ++ cs.reverse.map fun c => (c, some fs.length, d + 1)), by rw [sz3_app, sz3_kids, sizes_rev]; omega, G2, fs ++ [(p, d)], wf ++ [.ref q0], st' ++ cs.reverse.map fun c => (c, some fs.length, d + 1), ws2 ++ ys, _, _, some (.int d), _, rfl,
          g6.wr (.inl nw') gw3 h3, gw3, gf3, ?_, upd_same, i5.mono fun _ _ h => h.mono gr3.ext, (j5.mono fun _ _ h => h.mono gr3.ext).app (Al.of (by rw [hl, List.length_map, List.length_reverse, lvs]) hr), ?_, rfl⟩
        · rw [upd_ne f2]; exact gr3.same _ _ upd_same
        · rw [← he, List.reverse_append, List.reverse_append, ← List.map_reverse, List.reverse_reverse, outs_kids]
          simp [outs, Tr.pars, Tr.size, Nat.add_assoc]
theorem sc_spot_of : FnScope ["tree", "node", "ways", "parent", "other"] ["tree", "node"] (defScope s_spot_of) := ⟨rfl, rfl, rfl, by decide +kernel, rfl, by decide +kernel, by decide +kernel⟩
end
end K5
set_option Elab.async false
set_option linter.all false
set_option maxRecDepth 100000
set_option maxHeartbeats 4000000
namespace K5
open PySem PySem.Spec PyProof.Rows L2
/-! ### a node replaced -/
mutual
def Tr.repl (x : Tr) : Tr → Nat → Tr
  | t, 0 => x
  | .tx s, _ + 1 => .tx s
  | .el n cs, k + 1 => .el n (Tr.repls x cs k)
def Tr.repls (x : Tr) : List Tr → Nat → List Tr
  | [], _ => []
  | c :: cs, k => if k < c.size then Tr.repl x c k :: cs else c :: Tr.repls x cs (k - c.size)
end
theorem repl_0 (x t : Tr) : Tr.repl x t 0 = x := by cases t <;> simp [Tr.repl]
/-- what is left of the children: from the number first on -/
def restR (x : Tr) (node first : Nat) (cs : List Tr) : List Tr := if first ≤ node then Tr.repls x cs (node - first) else cs
theorem restR_cons (x : Tr) (node first : Nat) (c : Tr) (cs : List Tr) : restR x node first (c :: cs) =
    (if first ≤ node ∧ node < first + c.size then Tr.repl x c (node - first) else c) :: restR x node (first + c.size) cs := by
  have := c.size_pos
  unfold restR
  by_cases h1 : first ≤ node
  · rw [if_pos h1]
    simp only [Tr.repls]
    by_cases h2 : node - first < c.size
    · rw [if_pos h2, if_pos ⟨h1, by omega⟩, if_neg (by omega)]
    · rw [if_neg h2, if_neg (by omega), if_pos (by omega), Nat.sub_sub]
  · rw [if_neg h1, if_neg (by omega), if_neg (by omega)]
def spRepl (n : Nat) : Sp := fun vs H Q _ => ∃ (G : Hp) (t x : Tr) (v xv : V) (i : Nat) (l : Addr), vs = [v, .int (i : Nat), .ref l] ∧ Same G H ∧ H l = some (.lst [xv]) ∧ IsT G t v ∧ IsT G x xv ∧ i < t.size ∧ t.depth ≤ n ∧ t.size ≤ 100000 ∧
  ∀ G' v' H', Gr W0 G H G' H' → IsT G' (Tr.repl x t i) v' → Q v' H'
section
variable {P : Program} {w : World} {K : PySem.W.Frag} {mg : Str → Option Value} {base : Heap} {k : Nat}
theorem scal_pV (p : Option Nat) (q : Int) : scal (pV p) (.int q) = true := by cases p <;> rfl
theorem hd_spot_of (D : Df K mg "spot_of" s_spot_of) (T : Tx K mg) (h_ways_of : Hd P w K mg base "ways_of" ["tree"] k spWays) : Hd P w K mg base "spot_of" ["tree", "node"] (k + 1) spSpot := by
  refine hd_mk D sc_spot_of (fun _ _ _ _ _ _ us hl => match us, hl with | [_, _], _ => rfl) (fun vs H Q E h => ?_) (fun f cdv A outer s H vs Q E hr h => ?_)
  · obtain ⟨G, t, v, i, p, rfl, _⟩ := h; rfl
  obtain ⟨G, t, v, i, p, rfl, sg, ht, hz, hp, q⟩ := h
  refine ⟨_, (pss_cons (ps_set (i := 2) sc_spot_of.nd rfl (Or.inr rfl) (pe_hd h_ways_of hr rfl (pa_cons (pv 0) pa_nil)))
    (pss_cons (ps_set (i := 3) sc_spot_of.nd rfl (Or.inr rfl) (pe_ix ix_tup (pe_ix ix_list (pv 2) (pv 1) (fun _ _ => rfl)) pe_int (fun _ _ => rfl)))
    (pss_one (ps_ret (pe_tup (pa_cons (pv 3) (pa_cons (pe_callB call_len_seq (by rfl) T.len (by decide +kernel) (pa_cons (pe_lc (own := [("other", 4)]) (g := gName 4) rfl sc_spot_of.nd (pi_range1 (by rfl) T.range (pa_cons (pv 1) pa_nil)) (blkOk_by (own := [("other", 4)]) (N := ["tree", "node", "ways", "parent", "other"]) (sc := defScope s_spot_of) (by decide +kernel)) (fun _ _ _ _ _ => (pg_name (i := 4) sc_spot_of.nd rfl (Or.inl rfl))) (fun _ _ _ _ _ => (pts_one (pt_cmpR op_eq (pe_ix (ixt K) (pe_ix (ixl K) (pv 2) (pv 4) (fun _ _ => rfl)) pe_int (fun _ _ => rfl)) (pv 3) (nomark _)))) (fun _ _ _ _ _ => (pv 4))) pa_nil)) pa_nil))))))), ?_⟩
  refine ⟨_, rfl, G, t, v, rfl, sg, ht, hz, fun lw ws G1 H1 gr nl hl hal => ?_⟩
  have hlen := hal.len
  have pget : ∀ (j : Nat) (pr : Option Nat × Nat), (t.pars 0 none 1)[j]? = some pr → t.pth[j]? = some pr.1 := fun j pr e => by rw [Tr.pth, List.getElem?_map, e]; rfl
  have hi : i < t.size := by rw [← pth_len]; exact (List.getElem?_eq_some_iff.mp hp).1
  have hlp := pars_len 0 none 1 t
  obtain ⟨y, hy, a, rfl, ha⟩ := hal.get (List.getElem?_eq_getElem (show i < (t.pars 0 none 1).length by omega))
  have e1 := pget i _ (List.getElem?_eq_getElem (show i < (t.pars 0 none 1).length by omega))
  rw [hp] at e1
  rw [← Option.some.inj e1] at ha
  refine ⟨_, rfl, _, rfl, lw, ws, _, _, rfl, rfl, SqL.of hl, atI_n rfl hy, a, _, _, _, rfl, rfl, SqT.of (gr.sub _ _ ha), rfl, ?_⟩
  refine ⟨_, rfl, _, rfl, (i : Int), rfl, by omega, by omega, fun D hD => lc_flt walk_r0 hD gr.sub (fun _ _ _ => trivial) (fun j => decide (pV (t.pth.getD j none) = .int (p : Nat))) (fun j => .int (j : Nat)) (by omega) ?_ ?_⟩
  · rintro j x G2 H2 H3 K' Z hj gr2 gD ⟨rfl, rfl⟩ hK hZ
    have hj' : j < i := by simpa using hj
    obtain ⟨y2, hy2, b, rfl, hb⟩ := hal.get (List.getElem?_eq_getElem (show j < (t.pars 0 none 1).length by omega))
    have e2 := pget j _ (List.getElem?_eq_getElem (show j < (t.pars 0 none 1).length by omega))
    have e3 : t.pth.getD j none = ((t.pars 0 none 1)[j]'(by omega)).1 := by rw [List.getD_eq_getElem?_getD, e2]; rfl
    rw [← e3] at hb
    refine ⟨rfl, _, rfl, _, rfl, lw, ws, _, _, rfl, rfl, SqL.of (gr2.same _ _ hl), atI_n rfl hy2, b, _, _, _, rfl, rfl, SqT.of (gr2.sub0 _ _ hb), rfl, _, rfl, scal_pV _ _, _, rfl, ?_⟩
    show if decide (pV (t.pth.getD j none) = .int (p : Nat)) = true then _ else _
    refine ite2 (fun c => ?_) fun c => ?_
    · exact ⟨_, rfl, hK G2 _ c (.refl gr2.sub)⟩
    · exact hZ G2 _ (Bool.eq_false_iff.mpr c) (.refl gr2.sub)
  · intro G2 H2 gr2 hD2 gD
    refine ⟨D, _, rfl, .inl (SqL.of hD2), by show 2 ≤ sizeLine; decide, fun a hn => ?_⟩
    refine q a _ ((gr.trans gr2).al hn).same ?_
    rw [upd_same, List.length_map, show (((i : Nat) : Int)).toNat = i by omega, cnt_take _ _ (by rw [pth_len]; omega)]
    rfl
theorem sc_replaced : FnScope ["tree", "node", "trees", "children", "first", "child", "behind"] ["tree", "node", "trees"] (defScope s_replaced) := ⟨rfl, rfl, rfl, by decide +kernel, rfl, by decide +kernel, by decide +kernel⟩
theorem hd_replaced (D : Df K mg "replaced" s_replaced) (h_weight_of : Hd P w K mg base "weight_of" ["tree"] k spSize) : ∀ n : Nat, Hd P w K mg base "replaced" ["tree", "node", "trees"] (k + n) (spRepl n)
  | 0 => by
    refine hd_vac D (fun _ _ _ _ _ _ us hl => match us, hl with | [_, _, _], _ => rfl) fun vs H Q E h => ?_
    obtain ⟨G, t, x, v, xv, i, l, _, _, _, _, _, _, hd, _⟩ := h
    have := t.depth_pos
    omega
  | n + 1 => by
    have h_replaced := hd_replaced D h_weight_of n
    have h_weight_of := h_weight_of.mono (Nat.le_add_right k n)
    refine hd_mk (k := k + n) D sc_replaced (fun _ _ _ _ _ _ us hl => match us, hl with | [_, _, _], _ => rfl) (fun vs H Q E h => ?_) (fun f cdv A outer s H vs Q E hr h => ?_)
    · obtain ⟨G, t, x, v, xv, i, l, rfl, _⟩ := h; rfl
    obtain ⟨G, t, x, v, xv, i, l, rfl, sg, hl, ht, hx, hi, hd, hz, q⟩ := h
    refine ⟨_, (pss_cons (ps_if (pt_cmpR op_eq (pv 1) pe_int (nomark _))
      (pss_one (ps_ret (pe_ix ix_list (pv 2) pe_int (fun _ _ => rfl))))
      pss_nil)
    (pss_cons (ps_set (i := 3) sc_replaced.nd rfl (Or.inl rfl) (pe_lst pa_nil))
    (pss_cons (ps_set (i := 4) sc_replaced.nd rfl (Or.inl rfl) pe_int)
    (pss_cons (ps_for PassesOwn.never rfl (pi_list (pe_ix ix_tup (pv 0) pe_int (fun _ _ => rfl))) (pg_name (i := 5) sc_replaced.nd rfl (Or.inl rfl))
      (pss_cons (ps_set (i := 6) sc_replaced.nd rfl (Or.inl rfl) (pe_op op_add (pv 4) (pe_hd h_weight_of hr rfl (pa_cons (pv 5) pa_nil))))
      (pss_cons (ps_if (pt_cmpR op_eq (pv 4) (pv 1) (nomark _))
        (pss_one (ps_expr (pe_bm PySem.F.plainAttrs_list PySem.F.slot_list_extend PySem.F.type_list_extend mt_extend (pv 3) (pa_cons (pv 2) pa_nil))))
        (pss_one (ps_if (pt_chain op_lt op_lt (pv 4) (pv 1) (pv 6))
          (pss_one (ps_expr (pe_bm PySem.F.plainAttrs_list PySem.F.slot_list_append PySem.F.type_list_append mt_append (pv 3) (pa_cons (pe_hd h_replaced hr rfl (pa_cons (pv 5) (pa_cons (pe_op op_sub (pv 1) (pv 4)) (pa_cons (pv 2) pa_nil)))) pa_nil))))
          (pss_one (ps_expr (pe_bm PySem.F.plainAttrs_list PySem.F.slot_list_append PySem.F.type_list_append mt_append (pv 3) (pa_cons (pv 5) pa_nil)))))))
      (pss_one (ps_set (i := 4) sc_replaced.nd rfl (Or.inl rfl) (pv 6))))))
    (pss_one (ps_ret (pe_tup (pa_cons (pe_ix ix_tup (pv 0) pe_int (fun _ _ => rfl)) (pa_cons (pv 3) pa_nil))))))))), ?_⟩
    refine ⟨_, rfl, rfl, _, rfl, ite2 (fun c => ?_) fun c => ?_⟩
    · have : i = 0 := by
        have := of_decide_eq_true c
        injection this with e
        omega
      subst this
      refine ⟨_, rfl, l, _, _, _, rfl, rfl, SqL.of hl, rfl, ?_⟩
      rw [show Tr.repl x t (0 : Nat) = x from repl_0 x t] at q
      exact q G xv H (.refl sg) hx
    · have hi0 : i ≠ 0 := fun z => c (decide_eq_true (by rw [z]; rfl))
      obtain ⟨j, rfl⟩ : ∃ j, i = j + 1 := ⟨i - 1, by omega⟩
      cases t with
      | tx s =>
        simp only [Tr.size] at hi
        omega
      | el nm cs =>
        obtain ⟨a, lc, ks, rfl, h1, h2, h3⟩ := id ht
        simp only [Tr.depth, Tr.size] at hd hz hi
        have hlen := sizes_len cs
        have hks := h3.len
        refine ⟨by show 0 ≤ sizeLine; decide, fun p np => ⟨_, rfl, a, _, _, _, rfl, rfl, SqT.of ((Gr.alloc (W := W0) (o := .lst []) sg np).sub _ _ h1), rfl, lc, rfl, ⟨ks, SqL.of ((Gr.alloc (W := W0) (o := .lst []) sg np).sub _ _ h2)⟩, ?_⟩⟩
        refine for_it (walk_list (xs := ks)) (fun m σ H1 => ∃ G1 done ds y z, σ = [some (.ref a), some (.int ((j + 1 : Nat) : Int)), some (.ref l), some (.ref p), some (.int ((1 + Tr.sizes (cs.take m) : Nat) : Int)), y, z] ∧ Gr W0 G H G1 H1 ∧ G1 p = none ∧ H1 p = some (.lst ds) ∧ IsTs G1 done ds ∧
            done ++ restR x (j + 1) (1 + Tr.sizes (cs.take m)) (cs.drop m) = Tr.repls x cs j ∧ done.length = m)
          ⟨G, [], [], none, none, rfl, Gr.alloc sg np, same_none sg np, upd_same, rfl, ?_, rfl⟩ ?_ ?_ ?_
        · simp [restR, Tr.sizes]
        · rintro m σ H1 _ ⟨G1, done, ds, y, z, _, gr, _⟩
          exact SqL.of (gr.sub0 _ _ h2)
        · rintro m u σ H1 H2 hm ⟨G1, done, ds, y, z, rfl, gr, gp, hp, hdn, he, hdl⟩ ⟨rfl, hu⟩
          obtain ⟨c, hc, hcu⟩ := h3.at_ hu
          have hcz := sizes_get hc
          have hcd := depths_get hc
          have hmc : m < cs.length := (List.getElem?_eq_some_iff.mp hc).1
          have hdrop : cs.drop m = c :: cs.drop (m + 1) := by
            rw [List.drop_eq_getElem_cons hmc]
            rw [List.getElem?_eq_getElem hmc] at hc
            rw [Option.some.inj hc]
          have hsz : Tr.sizes (cs.take (m + 1)) = Tr.sizes (cs.take m) + c.size := by
            rw [List.take_succ, hc, sizes_app]
            simp [Tr.sizes]
          rw [hdrop, restR_cons] at he
          generalize hfst : 1 + Tr.sizes (cs.take m) = first at he ⊢
          have hfst2 : 1 + Tr.sizes (cs.take (m + 1)) = first + c.size := by omega
          have hdsl := hdn.len
          refine ⟨_, rfl, _, rfl, G1, c, u, rfl, gr.sub, hcu.mono gr.ext, by omega, fun H3 s3 => ⟨_, _, rfl, rfl, ?_⟩⟩
          have g3 := gr.trans (Gr.of gr.sub s3)
          have hp3 := s3 _ _ hp
          refine ⟨_, rfl, _, rfl, rfl, _, rfl, ite2 (fun c1 => ?_) fun c1 => ?_⟩
          · have e1 : first = j + 1 := by
              have := of_decide_eq_true c1
              injection this with e
              omega
            subst e1
            refine ⟨_, rfl, .inl ⟨rfl, _, SqL.of hp3⟩, _, rfl, p, l, _, _, rfl, rfl, hp3, g3.same _ _ hl, small (by show ds.length + 1 ≤ _; omega), ?_⟩
            refine ⟨_, rfl, G1, done ++ [x], ds ++ [xv], some u, some (.int (((j + 1 : Nat) : Int) + (c.size : Int))), ?_, g3.wr (.inl np) gp hp3, gp, upd_same, hdn.snoc (hx.mono gr.ext), ?_, by simp [hdl]⟩
            · rw [hfst2]; rfl
            · rw [hfst2, ← he, if_pos ⟨Nat.le_refl _, by have := c.size_pos; omega⟩, Nat.sub_self, repl_0]
              simp
          · have e1 : first ≠ j + 1 := fun z => c1 (decide_eq_true (by rw [z]))
            refine ⟨_, rfl, _, rfl, _, _, rfl, rfl, _, rfl, ?_⟩
            have app : ∀ (u' : Tr) (uv : V) (G4 : Hp) (H4 : Hp), Gr W0 G H G4 H4 → G4 p = none → H4 p = some (.lst ds) → IsTs G4 done ds → IsT G4 u' uv → done ++ u' :: restR x (j + 1) (first + c.size) (cs.drop (m + 1)) = Tr.repls x cs j →
                ∃ G1 dn' ds' y z, ([some (.ref a), some (.int ((j + 1 : Nat) : Int)), some (.ref l), some (.ref p), some (.int ((first : Int) + (c.size : Int))), some u, some (.int ((first : Int) + (c.size : Int)))] : List (Option V)) =
                    [some (.ref a), some (.int ((j + 1 : Nat) : Int)), some (.ref l), some (.ref p), some (.int ((1 + Tr.sizes (cs.take (m + 1)) : Nat) : Int)), y, z] ∧ Gr W0 G H G1 (upd H4 p (.lst (ds ++ [uv]))) ∧ G1 p = none ∧ upd H4 p (.lst (ds ++ [uv])) p = some (.lst ds') ∧ IsTs G1 dn' ds' ∧
                  dn' ++ restR x (j + 1) (1 + Tr.sizes (cs.take (m + 1))) (cs.drop (m + 1)) = Tr.repls x cs j ∧ dn'.length = m + 1 := fun u' uv G4 H4 g4 gp4 hp4 hd4 hu4 he4 =>
              ⟨G4, done ++ [u'], ds ++ [uv], some u, some (.int ((first : Int) + (c.size : Int))), by rw [hfst2]; rfl, g4.wr (.inl np) gp4 hp4, gp4, upd_same, hd4.snoc hu4, by rw [hfst2, ← he4]; simp, by simp [hdl]⟩
            by_cases c2 : first < j + 1
            · rw [show decide (((first : Nat) : Int) < ((j + 1 : Nat) : Int)) = true from decide_eq_true (by omega)]
              refine iteT ⟨_, rfl, _, _, rfl, rfl, _, rfl, ?_⟩
              by_cases c3 : j + 1 < first + c.size
              · rw [show decide (((j + 1 : Nat) : Int) < (first : Int) + (c.size : Int)) = true from decide_eq_true (by omega)]
                rw [if_pos ⟨by omega, c3⟩] at he
                refine iteT ⟨_, rfl, .inl ⟨rfl, _, SqL.of hp3⟩, _, rfl, _, rfl, _, rfl, _, _, rfl, rfl, _, rfl, G1, c, x, u, xv, j + 1 - first, l, ?_, g3.sub, g3.same _ _ hl, hcu.mono gr.ext, hx.mono gr.ext, by omega, by omega, by omega, fun G4 v4 H4 g4 h4 => ?_⟩
                · rw [show ((j + 1 - first : Nat) : Int) = ((j + 1 : Nat) : Int) - (first : Int) by omega]
                  rfl
                · have hp4 := g4.same _ _ hp3
                  refine ⟨p, _, _, rfl, rfl, hp4, smallT (by omega), ?_⟩
                  exact ⟨_, rfl, app _ v4 G4 H4 (g3.trans g4) (g4.free gp hp3) hp4 (hdn.mono g4.ext) h4 he⟩
              · rw [show decide (((j + 1 : Nat) : Int) < (first : Int) + (c.size : Int)) = false from decide_eq_false (by omega)]
                rw [if_neg (by omega)] at he
                refine iteF ⟨_, rfl, .inl ⟨rfl, _, SqL.of hp3⟩, _, rfl, p, _, _, rfl, rfl, hp3, smallT (by omega), ?_⟩
                exact ⟨_, rfl, app _ u G1 H3 g3 gp hp3 hdn (hcu.mono gr.ext) he⟩
            · rw [show decide (((first : Nat) : Int) < ((j + 1 : Nat) : Int)) = false from decide_eq_false (by omega)]
              rw [if_neg (by omega)] at he
              refine iteF ⟨_, rfl, iteF ⟨_, rfl, .inl ⟨rfl, _, SqL.of hp3⟩, _, rfl, p, _, _, rfl, rfl, hp3, smallT (by omega), ?_⟩⟩
              exact ⟨_, rfl, app _ u G1 H3 g3 gp hp3 hdn (hcu.mono gr.ext) he⟩
        · rintro σ H1 ⟨G1, done, ds, y, z, rfl, gr, gp, hp, hdn, he, hdl⟩
          refine ⟨_, rfl, a, _, _, _, rfl, rfl, SqT.of (gr.sub0 _ _ h1), rfl, _, rfl, by show 2 ≤ sizeLine; decide, fun b nb => ?_⟩
          have ed : done = Tr.repls x cs j := by
            rw [← he, List.drop_of_length_le (by omega)]
            simp [restR, Tr.repls]
          obtain ⟨G2, g2, ht2, _⟩ := (gr.al (o := .tup [.str nm, .ref p]) nb).elem (cs := done) (vs := ds) (gr.dom b nb) np upd_same (by rw [upd_ne (ne_of_none hp nb)]; exact hp) hdn
          rw [ed] at ht2
          exact q G2 _ _ g2 (by simpa [Tr.repl] using ht2)
end
end K5
set_option Elab.async false
set_option linter.all false
set_option maxRecDepth 100000
set_option maxHeartbeats 4000000
namespace K5
open PySem PySem.Spec PyProof.Rows L2
theorem at_0 {x : V} {l : List V} : atI (x :: l) 0 = some x := atI_nat (j := 0) rfl
theorem at_1 {x y : V} {l : List V} : atI (x :: y :: l) 1 = some y := atI_nat (j := 1) rfl
/-! ### edits -/
inductive Ed where
  | ren (k : Nat) (n : Str)
  | ret (k : Nat) (s : Str)
  | cut (k : Nat)
  | gra (k p : Nat) (x : Tr)
def Ed.k : Ed → Nat
  | .ren k _ => k
  | .ret k _ => k
  | .cut k => k
  | .gra k _ _ => k
def Ed.word : Ed → Str
  | .ren _ _ => "rename"
  | .ret _ _ => "retext"
  | .cut _ => "cut"
  | .gra _ _ _ => "graft"
def Ed.rest (G : Hp) : Ed → List V → Prop
  | .ren _ n, r => r = [.str n]
  | .ret _ s, r => r = [.str s]
  | .cut _, r => r = []
  | .gra _ p x, r => ∃ xv, r = [.int (p : Nat), xv] ∧ IsT G x xv
def IsE (G : Hp) (e : Ed) (v : V) : Prop := ∃ (a : Addr) (r : List V), v = .ref a ∧ G a = some (.tup (.str e.word :: .int (e.k : Nat) :: r)) ∧ e.rest G r
theorem IsE.mono {G G' : Hp} (s : Same G G') {e : Ed} {v : V} (h : IsE G e v) : IsE G' e v := by
  obtain ⟨a, r, e1, h1, h2⟩ := h
  refine ⟨a, r, e1, s _ _ h1, ?_⟩
  cases e with
  | gra k p x =>
    obtain ⟨xv, e2, h3⟩ := h2
    exact ⟨xv, e2, h3.mono s⟩
  | _ => exact h2
def dl (cs : List Tr) (c : Nat) : List Tr := cs.take c ++ cs.drop (c + 1)
def ins (cs : List Tr) (p : Nat) (x : Tr) : List Tr := cs.take p ++ [x] ++ cs.drop p
def Ed.kok : Ed → Tr → Bool
  | .ren _ _, u => !u.isTx
  | .ret _ _, u => u.isTx
  | .cut k, _ => decide (k ≠ 0)
  | .gra _ _ _, u => !u.isTx
def Ed.fit : Ed → Prop
  | .ren _ n => n.length ≤ 1000000
  | .ret _ s => s.length ≤ 1000000
  | .cut _ => True
  | .gra _ _ x => x.size ≤ 100000 ∧ x.fit
def Ed.gok : Ed → Tr → Prop
  | .ren _ n, _ => isNm n = true
  | .ret _ s, _ => isTxt s = true
  | .cut _, _ => True
  | .gra _ p x, u => (∃ m cs, u = .el m cs ∧ p ≤ cs.length) ∧ x.good = true
/-- the edit e leads from t to t' -/
def Ed.does : Ed → Tr → Tr → Prop
  | .ren k n, t, t' => ∃ m cs, t.nodes[k]? = some (.el m cs) ∧ isNm n = true ∧ t' = Tr.repl (.el n cs) t k
  | .ret k s, t, t' => ∃ s0, t.nodes[k]? = some (.tx s0) ∧ isTxt s = true ∧ t' = Tr.repl (.tx s) t k
  | .cut k, t, t' => ∃ p m cs, k ≠ 0 ∧ t.pth[k]? = some (some p) ∧ t.nodes[p]? = some (.el m cs) ∧ (t.pth.take k).count (some p) < cs.length ∧ apart (dl cs ((t.pth.take k).count (some p))) = true ∧ t' = Tr.repl (.el m (dl cs ((t.pth.take k).count (some p)))) t p
  | .gra k p x, t, t' => ∃ m cs, t.nodes[k]? = some (.el m cs) ∧ p ≤ cs.length ∧ x.good = true ∧ apart (ins cs p x) = true ∧ t' = Tr.repl (.el m (ins cs p x)) t k ∧ t'.rs = true
theorem does_pre {e : Ed} {t t' : Tr} (h : e.does t t') : ∃ u, t.nodes[e.k]? = some u ∧ e.kok u = true ∧ e.gok u := by
  cases e with
  | ren k n =>
    obtain ⟨m, cs, h1, h2, _⟩ := h
    exact ⟨_, h1, rfl, h2⟩
  | ret k s =>
    obtain ⟨s0, h1, h2, _⟩ := h
    exact ⟨_, h1, rfl, h2⟩
  | cut k =>
    obtain ⟨p, m, cs, h0, h1, _⟩ := h
    have : k < t.nodes.length := by
      rw [nodes_len, ← pth_len]
      exact (List.getElem?_eq_some_iff.mp h1).1
    exact ⟨_, List.getElem?_eq_getElem this, decide_eq_true h0, trivial⟩
  | gra k p x =>
    obtain ⟨m, cs, h1, h2, h3, _⟩ := h
    exact ⟨_, h1, rfl, ⟨m, cs, rfl, h2⟩, h3⟩
mutual
theorem nodes_size : ∀ {t : Tr} {k : Nat} {u : Tr}, t.nodes[k]? = some u → u.size ≤ t.size
  | .tx s, 0, u, h => by
    cases (Option.some.inj h)
    exact Nat.le_refl _
  | .tx s, k + 1, u, h => by simp [Tr.nodes] at h
  | .el n cs, 0, u, h => by
    cases (Option.some.inj h)
    exact Nat.le_refl _
  | .el n cs, k + 1, u, h => by
    have := nodess_size (ts := cs) (k := k) (u := u) (by simpa [Tr.nodes] using h)
    simp only [Tr.size]
    omega
theorem nodess_size : ∀ {ts : List Tr} {k : Nat} {u : Tr}, (Tr.nodess ts)[k]? = some u → u.size ≤ Tr.sizes ts
  | [], k, u, h => by simp [Tr.nodess] at h
  | t :: ts, k, u, h => by
    simp only [Tr.nodess] at h
    simp only [Tr.sizes]
    rcases Nat.lt_or_ge k t.nodes.length with l | l
    · rw [List.getElem?_append_left l] at h
      have := nodes_size h
      omega
    · rw [List.getElem?_append_right l] at h
      have := nodess_size h
      omega
end
theorem node_len {t : Tr} {k : Nat} {m : Str} {cs : List Tr} (h : t.nodes[k]? = some (.el m cs)) : cs.length < t.size := by
  have h1 := nodes_size h
  have h3 := sizes_len cs
  have h2 : (Tr.el m cs).size = 1 + Tr.sizes cs := rfl
  omega
def spKind : Sp := fun vs H Q _ => ∃ (G : Hp) (t u : Tr) (v : V) (e : Ed) (ev : V), vs = [v, ev] ∧ Same G H ∧ IsT G t v ∧ IsE G e ev ∧ t.size ≤ 100000 ∧ t.nodes[e.k]? = some u ∧ e.kok u = true ∧ ∀ v' H', Same H H' → IsT G u v' → Q v' H'
def spGiven : Sp := fun vs H Q _ => ∃ (G : Hp) (u : Tr) (v : V) (e : Ed) (ev : V), vs = [v, ev] ∧ Same G H ∧ IsT G u v ∧ IsE G e ev ∧ e.fit ∧ e.gok u ∧ ∀ H', Same H H' → Q .non H'
def spWith (n : Nat) : Sp := fun vs H Q _ => ∃ (G : Hp) (t t' : Tr) (v : V) (e : Ed) (ev : V), vs = [v, ev] ∧ Same G H ∧ IsT G t v ∧ IsE G e ev ∧ e.fit ∧ t.size ≤ 100000 ∧ t'.size ≤ 100000 ∧ t.depth ≤ n ∧ e.does t t' ∧
  ∀ G' v' H', Gr W0 G H G' H' → IsT G' t' v' → Q v' H'
def spEd (n : Nat) : Sp := fun vs H Q _ => ∃ (G : Hp) (t t' : Tr) (v : V) (e : Ed) (ev : V), vs = [v, ev] ∧ Same G H ∧ IsT G t v ∧ IsE G e ev ∧ e.fit ∧ t.size ≤ 100000 ∧ t'.size ≤ 100000 ∧ t.depth ≤ n ∧ t'.depth ≤ n ∧ e.does t t' ∧
  ∀ G' v' H', Gr W0 G H G' H' → IsT G' t' v' → Q v' H'
def spCopyE (n : Nat) : Sp := fun vs H Q _ => ∃ (G : Hp) (e : Ed) (ev : V), vs = [ev] ∧ Same G H ∧ IsE G e ev ∧ e.fit ∧ (∀ k p x, e = .gra k p x → x.depth ≤ n) ∧ ∀ G' v' H', Gr W0 G H G' H' → IsE G' e v' → Q v' H'
section
variable {P : Program} {w : World} {K : PySem.W.Frag} {mg : Str → Option Value} {base : Heap} {k : Nat}
theorem sc_check_kind : FnScope ["tree", "edit", "word", "here"] ["tree", "edit"] (defScope s_check_kind) := ⟨rfl, rfl, rfl, by decide +kernel, rfl, by decide +kernel, by decide +kernel⟩
theorem hd_check_kind (D : Df K mg "check_kind" s_check_kind) (h_is_string : Hd P w K mg base "is_string" ["tree"] k spIsS) (h_weight_of : Hd P w K mg base "weight_of" ["tree"] k spSize) (h_node_at : Hd P w K mg base "node_at" ["tree", "node"] k spNode) :
    Hd P w K mg base "check_kind" ["tree", "edit"] (k + 1) spKind := by
  refine hd_mk D sc_check_kind (fun _ _ _ _ _ _ us hl => match us, hl with | [_, _], _ => rfl) (fun vs H Q E h => ?_) (fun f cdv A outer s H vs Q E hr h => ?_)
  · obtain ⟨G, t, u, v, e, ev, rfl, _⟩ := h; rfl
  obtain ⟨G, t, u, v, e, ev, rfl, sg, ht, he, hz, hu, hk, q⟩ := h
  refine ⟨_, (pss_cons (ps_set (i := 2) sc_check_kind.nd rfl (Or.inl rfl) (pe_ix ix_tup (pv 1) pe_int (fun _ _ => rfl)))
    (pss_cons (ps_if (pt_not (pt_chain op_le op_lt pe_int (pe_ix ix_tup (pv 1) pe_int (fun _ _ => rfl)) (pe_hd h_weight_of hr rfl (pa_cons (pv 0) pa_nil))))
      (pss_one ps_never)
      pss_nil)
    (pss_cons (ps_set (i := 3) sc_check_kind.nd rfl (Or.inl rfl) (pe_hd h_node_at hr rfl (pa_cons (pv 0) (pa_cons (pe_ix ix_tup (pv 1) pe_int (fun _ _ => rfl)) pa_nil))))
    (pss_cons (ps_if (PW.pt (pw_or (PW.pt (pw_and (pt_cmpR op_in_seq (pv 2) (pe_tup (pa_cons pe_str (pa_cons pe_str pa_nil))) (by rfl)) (pw_and1 (pt_val (pe_hd h_is_string hr rfl (pa_cons (pv 3) pa_nil)))))) (pw_or1 (PW.pt (pw_and (pt_cmpR op_eq (pv 2) pe_str (nomark _)) (pw_and1 (pt_not (pt_val (pe_hd h_is_string hr rfl (pa_cons (pv 3) pa_nil))))))))))
      (pss_one ps_never)
      pss_nil)
    (pss_cons (ps_if (PW.pt (pw_and (pt_cmpR op_eq (pv 2) pe_str (nomark _)) (pw_and1 (pt_cmpR op_eq (pe_ix ix_tup (pv 1) pe_int (fun _ _ => rfl)) pe_int (nomark _)))))
      (pss_one ps_never)
      pss_nil)
    (pss_one (ps_ret (pv 3)))))))), ?_⟩
  obtain ⟨a, r, rfl, ha, hrs⟩ := id he
  have hlt : e.k < t.size := by rw [← nodes_len]; exact (List.getElem?_eq_some_iff.mp hu).1
  refine ⟨_, rfl, a, _, _, _, rfl, rfl, SqT.of (sg _ _ ha), at_0, ?_⟩
  refine ⟨_, rfl, a, _, _, _, rfl, rfl, SqT.of (sg _ _ ha), at_1, _, _, rfl, rfl, _, rfl, ?_⟩
  rw [show decide ((0 : Int) ≤ (e.k : Int)) = true by simp]
  refine iteT ⟨_, rfl, G, t, v, rfl, sg, ht, hz, fun H1 s1 => ⟨_, _, rfl, rfl, _, rfl, ?_⟩⟩
  rw [show decide ((e.k : Int) < (t.size : Int)) = true from decide_eq_true (by omega)]
  have sg1 := sg.trans s1
  refine iteF ⟨_, rfl, _, rfl, a, _, _, _, rfl, rfl, SqT.of (sg1 _ _ ha), at_1, G, t, u, v, e.k, rfl, sg1, ht, hz, hu, fun v2 H2 s2 hv2 => ?_⟩
  have sg2 := sg1.trans s2
  refine ⟨_, rfl, by show 2 ≤ sizeLine; decide, fun p np => ⟨p, _, rfl, .inr (SqT.of upd_same), rfl, by decide +kernel, _, rfl, ?_⟩⟩
  have sg3 := (Gr.alloc (W := W0) (o := .tup [.str "rename", .str "graft"]) sg2 np).sub
  have s3 : Same H (upd H2 p (.tup [.str "rename", .str "graft"])) := (s1.trans s2).trans (Gr.alloc (W := W0) (Same.refl _) np).same
  have fin := q v2 _ s3 hv2
  have sg3' : IsT G u v2 := hv2
  cases e with
  | ren k n =>
    rw [show inV (.str (Ed.ren k n).word) [.str "rename", .str "graft"] = true from (by decide +kernel : inV (.str ("rename" : Str)) [.str "rename", .str "graft"] = true)]
    have hx : u.isTx = false := by simpa [Ed.kok] using hk
    refine iteT ⟨_, rfl, G, u, v2, rfl, sg3, hv2, _, rfl, ?_⟩
    rw [hx]
    refine iteF ⟨_, rfl, rfl, _, rfl, ?_⟩
    rw [show decide (V.str (Ed.ren k n).word = V.str "retext") = false from (by decide +kernel : decide (V.str ("rename" : Str) = V.str "retext") = false)]
    refine iteF (iteF ⟨_, rfl, rfl, _, rfl, ?_⟩)
    rw [show decide (V.str (Ed.ren k n).word = V.str "cut") = false from (by decide +kernel : decide (V.str ("rename" : Str) = V.str "cut") = false)]
    exact iteF (iteF ⟨_, rfl, fin⟩)
  | gra k pp x =>
    rw [show inV (.str (Ed.gra k pp x).word) [.str "rename", .str "graft"] = true from (by decide +kernel : inV (.str ("graft" : Str)) [.str "rename", .str "graft"] = true)]
    have hx : u.isTx = false := by simpa [Ed.kok] using hk
    refine iteT ⟨_, rfl, G, u, v2, rfl, sg3, hv2, _, rfl, ?_⟩
    rw [hx]
    refine iteF ⟨_, rfl, rfl, _, rfl, ?_⟩
    rw [show decide (V.str (Ed.gra k pp x).word = V.str "retext") = false from (by decide +kernel : decide (V.str ("graft" : Str) = V.str "retext") = false)]
    refine iteF (iteF ⟨_, rfl, rfl, _, rfl, ?_⟩)
    rw [show decide (V.str (Ed.gra k pp x).word = V.str "cut") = false from (by decide +kernel : decide (V.str ("graft" : Str) = V.str "cut") = false)]
    exact iteF (iteF ⟨_, rfl, fin⟩)
  | ret k z =>
    rw [show inV (.str (Ed.ret k z).word) [.str "rename", .str "graft"] = false from (by decide +kernel : inV (.str ("retext" : Str)) [.str "rename", .str "graft"] = false)]
    have hx : u.isTx = true := hk
    refine iteF (iteF ⟨_, rfl, rfl, _, rfl, ?_⟩)
    rw [show decide (V.str (Ed.ret k z).word = V.str "retext") = true from (by decide +kernel : decide (V.str ("retext" : Str) = V.str "retext") = true)]
    refine iteT ⟨_, rfl, G, u, v2, rfl, sg3, hv2, _, rfl, ?_⟩
    rw [hx]
    refine iteF ⟨_, rfl, rfl, _, rfl, ?_⟩
    rw [show decide (V.str (Ed.ret k z).word = V.str "cut") = false from (by decide +kernel : decide (V.str ("retext" : Str) = V.str "cut") = false)]
    exact iteF (iteF ⟨_, rfl, fin⟩)
  | cut k =>
    rw [show inV (.str (Ed.cut k).word) [.str "rename", .str "graft"] = false from (by decide +kernel : inV (.str ("cut" : Str)) [.str "rename", .str "graft"] = false)]
    refine iteF (iteF ⟨_, rfl, rfl, _, rfl, ?_⟩)
    rw [show decide (V.str (Ed.cut k).word = V.str "retext") = false from (by decide +kernel : decide (V.str ("cut" : Str) = V.str "retext") = false)]
    refine iteF (iteF ⟨_, rfl, rfl, _, rfl, ?_⟩)
    rw [show decide (V.str (Ed.cut k).word = V.str "cut") = true from (by decide +kernel : decide (V.str ("cut" : Str) = V.str "cut") = true)]
    have hk0 : k ≠ 0 := of_decide_eq_true hk
    refine iteT ⟨_, rfl, a, _, _, _, rfl, rfl, SqT.of (sg3 _ _ ha), at_1, rfl, _, rfl, ?_⟩
    rw [show decide (V.int ((Ed.cut k).k : Nat) = V.int 0) = false from decide_eq_false (fun z => hk0 (by injection z with z; simp only [Ed.k] at z; omega))]
    exact iteF ⟨_, rfl, fin⟩
theorem sc_check_given : FnScope ["here", "edit", "word"] ["here", "edit"] (defScope s_check_given) := ⟨rfl, rfl, rfl, by decide +kernel, rfl, by decide +kernel, by decide +kernel⟩
theorem hd_check_given (D : Df K mg "check_given" s_check_given) (T : Tx K mg) (h_is_name : Hd P w K mg base "is_name" ["word"] k spNm) (h_is_text : Hd P w K mg base "is_text" ["string"] k spTxt) (h_is_tree : Hd P w K mg base "is_tree" ["tree"] k spTree) :
    Hd P w K mg base "check_given" ["here", "edit"] (k + 1) spGiven := by
  refine hd_mk D sc_check_given (fun _ _ _ _ _ _ us hl => match us, hl with | [_, _], _ => rfl) (fun vs H Q E h => ?_) (fun f cdv A outer s H vs Q E hr h => ?_)
  · obtain ⟨G, u, v, e, ev, rfl, _⟩ := h; rfl
  obtain ⟨G, u, v, e, ev, rfl, sg, ht, he, hf, hg, q⟩ := h
  refine ⟨_, (pss_cons (ps_set (i := 2) sc_check_given.nd rfl (Or.inl rfl) (pe_ix ix_tup (pv 1) pe_int (fun _ _ => rfl)))
    (pss_cons (ps_if (PW.pt (pw_and (pt_cmpR op_eq (pv 2) pe_str (nomark _)) (pw_and1 (pt_not (pt_val (pe_hd h_is_name hr rfl (pa_cons (pe_ix ix_tup (pv 1) pe_int (fun _ _ => rfl)) pa_nil)))))))
      (pss_one ps_never)
      pss_nil)
    (pss_cons (ps_if (PW.pt (pw_and (pt_cmpR op_eq (pv 2) pe_str (nomark _)) (pw_and1 (pt_not (pt_val (pe_hd h_is_text hr rfl (pa_cons (pe_ix ix_tup (pv 1) pe_int (fun _ _ => rfl)) pa_nil)))))))
      (pss_one ps_never)
      pss_nil)
    (pss_one (ps_if (pt_cmpR op_eq (pv 2) pe_str (nomark _))
      (pss_cons (ps_if (pt_not (pt_chain op_le op_le pe_int (pe_ix ix_tup (pv 1) pe_int (fun _ _ => rfl)) (pe_callB call_len_seq (by rfl) T.len (by decide +kernel) (pa_cons (pe_ix ix_tup (pv 0) pe_int (fun _ _ => rfl)) pa_nil))))
        (pss_one ps_never)
        pss_nil)
      (pss_one (ps_if (pt_not (pt_val (pe_hd h_is_tree hr rfl (pa_cons (pe_ix ix_tup (pv 1) pe_int (fun _ _ => rfl)) pa_nil))))
        (pss_one ps_never)
        pss_nil)))
      pss_nil))))), ?_⟩
  obtain ⟨a, r, rfl, ha, hrs⟩ := id he
  refine ⟨_, rfl, a, _, _, _, rfl, rfl, SqT.of (sg _ _ ha), at_0, ?_⟩
  refine ⟨_, rfl, rfl, _, rfl, ?_⟩
  cases e with
  | ren k n =>
    cases (show r = [.str n] from hrs)
    rw [show decide (V.str (Ed.ren k n).word = V.str "rename") = true from (by decide +kernel : decide (V.str ("rename" : Str) = V.str "rename") = true)]
    refine iteT ⟨_, rfl, a, _, _, _, rfl, rfl, SqT.of (sg _ _ ha), rfl, n, rfl, hf, fun H1 s1 => ⟨_, rfl, ?_⟩⟩
    rw [show isNm n = true from hg]
    refine iteF ⟨_, rfl, rfl, _, rfl, ?_⟩
    rw [show decide (V.str (Ed.ren k n).word = V.str "retext") = false from (by decide +kernel : decide (V.str ("rename" : Str) = V.str "retext") = false)]
    refine iteF (iteF ⟨_, rfl, rfl, _, rfl, ?_⟩)
    rw [show decide (V.str (Ed.ren k n).word = V.str "graft") = false from (by decide +kernel : decide (V.str ("rename" : Str) = V.str "graft") = false)]
    exact iteF (q H1 s1)
  | ret k z =>
    cases (show r = [.str z] from hrs)
    rw [show decide (V.str (Ed.ret k z).word = V.str "rename") = false from (by decide +kernel : decide (V.str ("retext" : Str) = V.str "rename") = false)]
    refine iteF (iteF ⟨_, rfl, rfl, _, rfl, ?_⟩)
    rw [show decide (V.str (Ed.ret k z).word = V.str "retext") = true from (by decide +kernel : decide (V.str ("retext" : Str) = V.str "retext") = true)]
    refine iteT ⟨_, rfl, a, _, _, _, rfl, rfl, SqT.of (sg _ _ ha), rfl, z, rfl, hf, fun H1 s1 => ⟨_, rfl, ?_⟩⟩
    rw [show isTxt z = true from hg]
    refine iteF ⟨_, rfl, rfl, _, rfl, ?_⟩
    rw [show decide (V.str (Ed.ret k z).word = V.str "graft") = false from (by decide +kernel : decide (V.str ("retext" : Str) = V.str "graft") = false)]
    exact iteF (q H1 s1)
  | cut k =>
    rw [show decide (V.str (Ed.cut k).word = V.str "rename") = false from (by decide +kernel : decide (V.str ("cut" : Str) = V.str "rename") = false)]
    refine iteF (iteF ⟨_, rfl, rfl, _, rfl, ?_⟩)
    rw [show decide (V.str (Ed.cut k).word = V.str "retext") = false from (by decide +kernel : decide (V.str ("cut" : Str) = V.str "retext") = false)]
    refine iteF (iteF ⟨_, rfl, rfl, _, rfl, ?_⟩)
    rw [show decide (V.str (Ed.cut k).word = V.str "graft") = false from (by decide +kernel : decide (V.str ("cut" : Str) = V.str "graft") = false)]
    exact iteF (q H (Same.refl H))
  | gra k p x =>
    obtain ⟨xv, hrv, hx⟩ := hrs
    cases hrv
    obtain ⟨⟨m, cs, rfl, hp⟩, hgx⟩ := hg
    obtain ⟨b, l, ws, rfl, k1, k2, k3⟩ := id ht
    rw [show decide (V.str (Ed.gra k p x).word = V.str "rename") = false from (by decide +kernel : decide (V.str ("graft" : Str) = V.str "rename") = false)]
    refine iteF (iteF ⟨_, rfl, rfl, _, rfl, ?_⟩)
    rw [show decide (V.str (Ed.gra k p x).word = V.str "retext") = false from (by decide +kernel : decide (V.str ("graft" : Str) = V.str "retext") = false)]
    refine iteF (iteF ⟨_, rfl, rfl, _, rfl, ?_⟩)
    rw [show decide (V.str (Ed.gra k p x).word = V.str "graft") = true from (by decide +kernel : decide (V.str ("graft" : Str) = V.str "graft") = true)]
    refine iteT ⟨_, rfl, a, _, _, _, rfl, rfl, SqT.of (sg _ _ ha), rfl, _, _, rfl, rfl, _, rfl, ?_⟩
    rw [show decide ((0 : Int) ≤ (p : Int)) = true by simp]
    refine iteT ⟨_, rfl, b, _, _, _, rfl, rfl, SqT.of (sg _ _ k1), rfl, l, _, rfl, .inl (SqL.of (sg _ _ k2)), _, _, rfl, rfl, _, rfl, ?_⟩
    rw [show decide ((p : Int) ≤ (ws.length : Int)) = true from decide_eq_true (by rw [k3.len]; omega)]
    refine iteF ⟨_, rfl, a, _, _, _, rfl, rfl, SqT.of (sg _ _ ha), rfl, G, x, xv, rfl, sg, hx, hf.1, hf.2, fun H1 s1 => ⟨_, rfl, ?_⟩⟩
    rw [hgx]
    exact iteF (q H1 s1)
end
end K5
set_option Elab.async false
set_option linter.all false
set_option maxRecDepth 100000
set_option maxHeartbeats 4000000
namespace K5
open PySem PySem.Spec PyProof.Rows L2
theorem IsTs.dl {G : Hp} {cs : List Tr} {ws : List V} (h : IsTs G cs ws) (c : Nat) : IsTs G (dl cs c) (ws.take c ++ ws.drop (c + 1)) := (h.take c).app (h.drop (c + 1))
theorem IsTs.ins {G : Hp} {cs : List Tr} {ws : List V} {x : Tr} {xv : V} (h : IsTs G cs ws) (p : Nat) (hx : IsT G x xv) : IsTs G (ins cs p x) (ws.take p ++ [xv] ++ ws.drop p) := ((h.take p).snoc hx).app (h.drop p)
theorem dl_len {cs : List Tr} {c : Nat} : (dl cs c).length ≤ cs.length := by
  unfold dl
  rw [List.length_append, List.length_take, List.length_drop]
  omega
theorem ins_len {cs : List Tr} {p : Nat} {x : Tr} : (ins cs p x).length ≤ cs.length + 1 := by
  unfold ins
  rw [List.length_append, List.length_append, List.length_take, List.length_drop, List.length_singleton]
  omega
section
variable {P : Program} {w : World} {K : PySem.W.Frag} {mg : Str → Option Value} {base : Heap} {k : Nat}
theorem sc_with_edit : FnScope ["tree", "edit", "here", "word", "children", "found", "parent", "place", "above"] ["tree", "edit"] (defScope s_with_edit) := ⟨rfl, rfl, rfl, by decide +kernel, rfl, by decide +kernel, by decide +kernel⟩
theorem hd_with_edit (D : Df K mg "with_edit" s_with_edit) (n : Nat) (h_check_kind : Hd P w K mg base "check_kind" ["tree", "edit"] k spKind) (h_check_given : Hd P w K mg base "check_given" ["here", "edit"] k spGiven)
    (h_replaced : Hd P w K mg base "replaced" ["tree", "node", "trees"] k (spRepl n)) (h_are_apart : Hd P w K mg base "are_apart" ["children"] k spApart) (h_has_right_size : Hd P w K mg base "has_right_size" ["tree"] k spRs)
    (h_spot_of : Hd P w K mg base "spot_of" ["tree", "node"] k spSpot) (h_node_at : Hd P w K mg base "node_at" ["tree", "node"] k spNode) :
    Hd P w K mg base "with_edit" ["tree", "edit"] (k + 1) (spWith n) := by
  refine hd_mk D sc_with_edit (fun _ _ _ _ _ _ us hl => match us, hl with | [_, _], _ => rfl) (fun vs H Q E h => ?_) (fun f cdv A outer s H vs Q E hr h => ?_)
  · obtain ⟨G, t, t', v, e, ev, rfl, _⟩ := h; rfl
  obtain ⟨G, t, t', v, e, ev, rfl, sg, ht, he, hf, hz, hz', hd, hdo, q⟩ := h
  refine ⟨_, (pss_cons (ps_set (i := 2) sc_with_edit.nd rfl (Or.inl rfl) (pe_hd h_check_kind hr rfl (pa_cons (pv 0) (pa_cons (pv 1) pa_nil))))
    (pss_cons (ps_expr (pe_hd h_check_given hr rfl (pa_cons (pv 2) (pa_cons (pv 1) pa_nil))))
    (pss_cons (ps_set (i := 3) sc_with_edit.nd rfl (Or.inl rfl) (pe_ix ix_tup (pv 1) pe_int (fun _ _ => rfl)))
    (pss_cons (ps_if (pt_cmpR op_eq (pv 3) pe_str (nomark _))
      (pss_one (ps_ret (pe_hd h_replaced hr rfl (pa_cons (pv 0) (pa_cons (pe_ix ix_tup (pv 1) pe_int (fun _ _ => rfl)) (pa_cons (pe_lst (pa_cons (pe_tup (pa_cons (pe_ix ix_tup (pv 1) pe_int (fun _ _ => rfl)) (pa_cons (pe_ix ix_tup (pv 2) pe_int (fun _ _ => rfl)) pa_nil))) pa_nil)) pa_nil))))))
      pss_nil)
    (pss_cons (ps_if (pt_cmpR op_eq (pv 3) pe_str (nomark _))
      (pss_one (ps_ret (pe_hd h_replaced hr rfl (pa_cons (pv 0) (pa_cons (pe_ix ix_tup (pv 1) pe_int (fun _ _ => rfl)) (pa_cons (pe_lst (pa_cons (pe_ix ix_tup (pv 1) pe_int (fun _ _ => rfl)) pa_nil)) pa_nil))))))
      pss_nil)
    (pss_cons (ps_if (pt_cmpR op_eq (pv 3) pe_str (nomark _))
      (pss_cons (ps_set (i := 4) sc_with_edit.nd rfl (Or.inl rfl) (pe_op op_cat (pe_op op_cat (pe_slice sl_list (pe_ix ix_tup (pv 2) pe_int (fun _ _ => rfl)) po_none (po_some (pe_ix ix_tup (pv 1) pe_int (fun _ _ => rfl)))) (pe_lst (pa_cons (pe_ix ix_tup (pv 1) pe_int (fun _ _ => rfl)) pa_nil))) (pe_slice sl_list (pe_ix ix_tup (pv 2) pe_int (fun _ _ => rfl)) (po_some (pe_ix ix_tup (pv 1) pe_int (fun _ _ => rfl))) po_none)))
      (pss_cons (ps_if (pt_not (pt_val (pe_hd h_are_apart hr rfl (pa_cons (pv 4) pa_nil))))
        (pss_one ps_never)
        pss_nil)
      (pss_cons (ps_set (i := 5) sc_with_edit.nd rfl (Or.inl rfl) (pe_hd h_replaced hr rfl (pa_cons (pv 0) (pa_cons (pe_ix ix_tup (pv 1) pe_int (fun _ _ => rfl)) (pa_cons (pe_lst (pa_cons (pe_tup (pa_cons (pe_ix ix_tup (pv 2) pe_int (fun _ _ => rfl)) (pa_cons (pv 4) pa_nil))) pa_nil)) pa_nil)))))
      (pss_cons (ps_if (pt_not (pt_val (pe_hd h_has_right_size hr rfl (pa_cons (pv 5) pa_nil))))
        (pss_one ps_never)
        pss_nil)
      (pss_one (ps_ret (pv 5)))))))
      pss_nil)
    (pss_cons (ps_asg (pe_hd h_spot_of hr rfl (pa_cons (pv 0) (pa_cons (pe_ix ix_tup (pv 1) pe_int (fun _ _ => rfl)) pa_nil))) (pg_tup rfl (pgs_cons (pg_name (i := 6) sc_with_edit.nd rfl (Or.inl rfl)) (pgs_cons (pg_name (i := 7) sc_with_edit.nd rfl (Or.inl rfl)) pgs_nil))))
    (pss_cons (ps_set (i := 8) sc_with_edit.nd rfl (Or.inl rfl) (pe_hd h_node_at hr rfl (pa_cons (pv 0) (pa_cons (pv 6) pa_nil))))
    (pss_cons (ps_set (i := 4) sc_with_edit.nd rfl (Or.inl rfl) (pe_op op_cat (pe_slice sl_list (pe_ix ix_tup (pv 8) pe_int (fun _ _ => rfl)) po_none (po_some (pv 7))) (pe_slice sl_list (pe_ix ix_tup (pv 8) pe_int (fun _ _ => rfl)) (po_some (pe_op op_add (pv 7) pe_int)) po_none)))
    (pss_cons (ps_if (pt_not (pt_val (pe_hd h_are_apart hr rfl (pa_cons (pv 4) pa_nil))))
      (pss_one ps_never)
      pss_nil)
    (pss_one (ps_ret (pe_hd h_replaced hr rfl (pa_cons (pv 0) (pa_cons (pv 6) (pa_cons (pe_lst (pa_cons (pe_tup (pa_cons (pe_ix ix_tup (pv 8) pe_int (fun _ _ => rfl)) (pa_cons (pv 4) pa_nil))) pa_nil)) pa_nil)))))))))))))))), ?_⟩
  obtain ⟨u, hu, hk, hg⟩ := does_pre hdo
  obtain ⟨a, r, rfl, ha, hrs⟩ := id he
  have hlt : e.k < t.size := by rw [← nodes_len]; exact (List.getElem?_eq_some_iff.mp hu).1
  refine ⟨_, rfl, _, rfl, G, t, u, v, e, .ref a, rfl, sg, ht, he, hz, hu, hk, fun hv H1 s1 hhv => ?_⟩
  have g1 : Gr W0 G H G H1 := .of sg s1
  refine ⟨_, rfl, _, rfl, G, u, hv, e, .ref a, rfl, g1.sub, hhv, he, hf, hg, fun H2 s2 => ?_⟩
  have g2 := g1.trans (.of g1.sub s2)
  refine ⟨_, rfl, a, _, _, _, rfl, rfl, SqT.of (g2.sub _ _ ha), at_0, ?_⟩
  refine ⟨_, rfl, rfl, _, rfl, ?_⟩
  cases e with
  | ren i nn =>
    cases (show r = [.str nn] from hrs)
    obtain ⟨m, cs, hu', hnn, rfl⟩ := hdo
    have hu2 : t.nodes[i]? = some u := hu
    rw [hu'] at hu2
    cases (Option.some.inj hu2)
    obtain ⟨b, lc, ws, rfl, k1, k2, k3⟩ := hhv
    rw [show decide (V.str (Ed.ren i nn).word = V.str "rename") = true from (by decide +kernel : decide (V.str ("rename" : Str) = V.str "rename") = true)]
    refine iteT ⟨_, rfl, _, rfl, a, _, _, _, rfl, rfl, SqT.of (g2.sub _ _ ha), at_1, _, rfl, a, _, _, _, rfl, rfl, SqT.of (g2.sub _ _ ha), rfl, _, rfl, b, _, _, _, rfl, rfl, SqT.of (g2.sub _ _ k1), rfl, by show 2 ≤ sizeLine; decide, fun p np => ⟨by show 1 ≤ sizeLine; decide, fun l nl => ?_⟩⟩
    have g3 := (g2.al (o := .tup [.str nn, .ref lc]) np).frz (g2.dom p np) upd_same
    have g4 := g3.al (o := .lst [.ref p]) nl
    refine ⟨_, t, .el nn cs, v, .ref p, i, l, rfl, g4.sub, upd_same, ht.mono g4.ext, ⟨p, lc, ws, rfl, upd_same, g4.ext _ _ k2, k3.mono g4.ext⟩, hlt, hd, hz, fun G' v' H' g5 h5 => q G' v' H' (g4.trans g5) h5⟩
  | ret i z =>
    cases (show r = [.str z] from hrs)
    obtain ⟨s0, hu', hnn, rfl⟩ := hdo
    rw [show decide (V.str (Ed.ret i z).word = V.str "rename") = false from (by decide +kernel : decide (V.str ("retext" : Str) = V.str "rename") = false)]
    refine iteF ⟨_, rfl, rfl, _, rfl, ?_⟩
    rw [show decide (V.str (Ed.ret i z).word = V.str "retext") = true from (by decide +kernel : decide (V.str ("retext" : Str) = V.str "retext") = true)]
    refine iteT ⟨_, rfl, _, rfl, a, _, _, _, rfl, rfl, SqT.of (g2.sub _ _ ha), at_1, _, rfl, a, _, _, _, rfl, rfl, SqT.of (g2.sub _ _ ha), rfl, by show 1 ≤ sizeLine; decide, fun l nl => ?_⟩
    have g4 := g2.al (o := .lst [.str z]) nl
    refine ⟨_, t, .tx z, v, .str z, i, l, rfl, g4.sub, upd_same, ht, rfl, hlt, hd, hz, fun G' v' H' g5 h5 => q G' v' H' (g4.trans g5) h5⟩
  | gra i p x =>
    obtain ⟨xv, hrv, hx⟩ := hrs
    cases hrv
    obtain ⟨m, cs, hu', hp, hgx, hap, ht', hrs'⟩ := hdo
    have hu2 : t.nodes[i]? = some u := hu
    rw [hu'] at hu2
    cases (Option.some.inj hu2)
    obtain ⟨b, lc, ws, rfl, k1, k2, k3⟩ := hhv
    have hwl := k3.len
    have hcl := node_len hu'
    have hpw : p ≤ ws.length := by omega
    rw [show decide (V.str (Ed.gra i p x).word = V.str "rename") = false from (by decide +kernel : decide (V.str ("graft" : Str) = V.str "rename") = false)]
    refine iteF ⟨_, rfl, rfl, _, rfl, ?_⟩
    rw [show decide (V.str (Ed.gra i p x).word = V.str "retext") = false from (by decide +kernel : decide (V.str ("graft" : Str) = V.str "retext") = false)]
    refine iteF ⟨_, rfl, rfl, _, rfl, ?_⟩
    rw [show decide (V.str (Ed.gra i p x).word = V.str "graft") = true from (by decide +kernel : decide (V.str ("graft" : Str) = V.str "graft") = true)]
    refine iteT ⟨_, rfl, b, _, _, _, rfl, rfl, SqT.of (g2.sub _ _ k1), rfl, _, rfl, a, _, _, _, rfl, rfl, SqT.of (g2.sub _ _ ha), rfl, _, rfl, lc, ws, rfl, SqL.of (g2.sub _ _ k2), fun p1 n1 => ?_⟩
    rw [cut_to hpw]
    have g3 := g2.al (o := .lst (ws.take p)) n1
    refine ⟨_, rfl, a, _, _, _, rfl, rfl, SqT.of (g3.sub _ _ ha), rfl, by show 1 ≤ sizeLine; decide, fun p2 n2 => ?_⟩
    have g4 := g3.al (o := .lst [xv]) n2
    have e12 : p1 ≠ p2 := ne_of_none upd_same n2
    refine ⟨p1, p2, _, _, rfl, rfl, by rw [upd_ne e12, upd_same], upd_same, small (by rw [List.length_take, List.length_singleton]; omega), fun p3 n3 => ?_⟩
    have g5 := g4.al (o := .lst (ws.take p ++ [xv])) n3
    refine ⟨_, rfl, b, _, _, _, rfl, rfl, SqT.of (g5.sub _ _ k1), rfl, _, rfl, a, _, _, _, rfl, rfl, SqT.of (g5.sub _ _ ha), rfl, _, rfl, lc, ws, rfl, SqL.of (g5.sub _ _ k2), fun p4 n4 => ?_⟩
    rw [cut_from hpw]
    have g6 := g5.al (o := .lst (ws.drop p)) n4
    have e34 : p3 ≠ p4 := ne_of_none upd_same n4
    refine ⟨p3, p4, _, _, rfl, rfl, by rw [upd_ne e34, upd_same], upd_same, small (by rw [List.length_append, List.length_take, List.length_drop, List.length_singleton]; omega), fun p5 n5 => ?_⟩
    have g7 := g6.al (o := .lst (ws.take p ++ [xv] ++ ws.drop p)) n5
    have hil := ins_len (cs := cs) (p := p) (x := x)
    refine ⟨_, rfl, G, ins cs p x, p5, _, rfl, g7.sub, upd_same, k3.ins p hx, by omega, fun H6 s6 => ⟨_, rfl, ?_⟩⟩
    rw [hap]
    have g8 := g7.trans (.of g7.sub s6)
    have h5 : H6 p5 = some (.lst (ws.take p ++ [xv] ++ ws.drop p)) := s6 _ _ upd_same
    refine iteF ⟨_, rfl, _, rfl, a, _, _, _, rfl, rfl, SqT.of (g8.sub _ _ ha), at_1, _, rfl, b, _, _, _, rfl, rfl, SqT.of (g8.sub _ _ k1), rfl, _, rfl, by show 2 ≤ sizeLine; decide, fun p6 n6 => ⟨by show 1 ≤ sizeLine; decide, fun l nl => ?_⟩⟩
    have e56 : p5 ≠ p6 := ne_of_none h5 n6
    have e57 : p6 ≠ l := ne_of_none upd_same nl
    have n5' : H p5 = none := g6.dom p5 n5
    have n6' : H p6 = none := g8.dom p6 n6
    obtain ⟨G2, g9, hx9, s9⟩ := (g8.al (o := .tup [.str m, .ref p5]) n6).elem (cs := ins cs p x) n6' n5' upd_same (by rw [upd_ne e56]; exact h5) (k3.ins p hx)
    have g10 := g9.al (o := .lst [.ref p6]) nl
    refine ⟨_, t, _, v, .ref p6, i, l, rfl, g10.sub, upd_same, ht.mono g10.ext, hx9, hlt, hd, hz, fun G' v' H' g11 h11 => ?_⟩
    have g12 := g10.trans g11
    have h11' : IsT G' t' v' := by rw [ht']; exact h11
    refine ⟨_, rfl, G', t', v', rfl, g12.sub, h11', hz', fun H8 s8 => ⟨_, rfl, ?_⟩⟩
    rw [hrs']
    exact iteF ⟨_, rfl, q G' v' H8 (g12.trans (.of g12.sub s8)) h11'⟩
  | cut i =>
    cases (show r = [] from hrs)
    obtain ⟨p, m, cs, hi0, hp, hpn, hc, hap, ht'⟩ := hdo
    generalize hcd : (t.pth.take i).count (some p) = c at *
    have hcl := node_len hpn
    have hpl : p < t.size := by rw [← nodes_len]; exact (List.getElem?_eq_some_iff.mp hpn).1
    rw [show decide (V.str (Ed.cut i).word = V.str "rename") = false from (by decide +kernel : decide (V.str ("cut" : Str) = V.str "rename") = false)]
    refine iteF ⟨_, rfl, rfl, _, rfl, ?_⟩
    rw [show decide (V.str (Ed.cut i).word = V.str "retext") = false from (by decide +kernel : decide (V.str ("cut" : Str) = V.str "retext") = false)]
    refine iteF ⟨_, rfl, rfl, _, rfl, ?_⟩
    rw [show decide (V.str (Ed.cut i).word = V.str "graft") = false from (by decide +kernel : decide (V.str ("cut" : Str) = V.str "graft") = false)]
    refine iteF ⟨_, rfl, _, rfl, a, _, _, _, rfl, rfl, SqT.of (g2.sub _ _ ha), at_1, G, t, v, i, p, rfl, g2.sub, ht, hz, hp, fun b H3 s3 hb => ?_⟩
    rw [hcd] at hb
    have g3 := g2.trans (.of g2.sub s3)
    refine ⟨b, _, rfl, SqT.of hb, rfl, _, _, rfl, _, _, rfl, rfl, ?_⟩
    refine ⟨_, rfl, _, rfl, G, t, _, v, p, rfl, g3.sub, ht, hz, hpn, fun av H4 s4 hav => ?_⟩
    have g4 := g3.trans (.of g3.sub s4)
    obtain ⟨b2, lc, ws, rfl, k1, k2, k3⟩ := hav
    have hwl := k3.len
    refine ⟨_, rfl, b2, _, _, _, rfl, rfl, SqT.of (g4.sub _ _ k1), rfl, _, rfl, _, rfl, lc, ws, rfl, SqL.of (g4.sub _ _ k2), fun p1 n1 => ?_⟩
    rw [cut_to (show c ≤ ws.length by omega)]
    have g5 := g4.al (o := .lst (ws.take c)) n1
    refine ⟨_, rfl, b2, _, _, _, rfl, rfl, SqT.of (g5.sub _ _ k1), rfl, _, rfl, _, _, rfl, rfl, _, rfl, lc, ws, rfl, SqL.of (g5.sub _ _ k2), fun p2 n2 => ?_⟩
    rw [show ((c : Nat) : Int) + 1 = ((c + 1 : Nat) : Int) by omega, cut_from (show c + 1 ≤ ws.length by omega)]
    have g6 := g5.al (o := .lst (ws.drop (c + 1))) n2
    have e12 : p1 ≠ p2 := ne_of_none upd_same n2
    refine ⟨p1, p2, _, _, rfl, rfl, by rw [upd_ne e12, upd_same], upd_same, small (by rw [List.length_take, List.length_drop]; omega), fun p3 n3 => ?_⟩
    have g7 := g6.al (o := .lst (ws.take c ++ ws.drop (c + 1))) n3
    have hdl := dl_len (cs := cs) (c := c)
    refine ⟨_, rfl, G, dl cs c, p3, _, rfl, g7.sub, upd_same, k3.dl c, by omega, fun H6 s6 => ⟨_, rfl, ?_⟩⟩
    rw [hap]
    have g8 := g7.trans (.of g7.sub s6)
    have h3 : H6 p3 = some (.lst (ws.take c ++ ws.drop (c + 1))) := s6 _ _ upd_same
    refine iteF ⟨_, rfl, _, rfl, _, rfl, b2, _, _, _, rfl, rfl, SqT.of (g8.sub _ _ k1), rfl, _, rfl, by show 2 ≤ sizeLine; decide, fun p6 n6 => ⟨by show 1 ≤ sizeLine; decide, fun l nl => ?_⟩⟩
    have e36 : p3 ≠ p6 := ne_of_none h3 n6
    obtain ⟨G2, g9, hx9, s9⟩ := (g8.al (o := .tup [.str m, .ref p3]) n6).elem (cs := dl cs c) (g8.dom p6 n6) (g6.dom p3 n3) upd_same (by rw [upd_ne e36]; exact h3) (k3.dl c)
    have g10 := g9.al (o := .lst [.ref p6]) nl
    exact ⟨_, t, _, v, .ref p6, p, l, rfl, g10.sub, upd_same, ht.mono g10.ext, hx9, hpl, hd, hz, fun G' v' H' g11 h11 => q G' v' H' (g10.trans g11) (by rw [ht']; exact h11)⟩
theorem sc_edited : FnScope ["tree", "edit"] ["tree", "edit"] (defScope s_edited) := ⟨rfl, rfl, rfl, by decide +kernel, rfl, by decide +kernel, by decide +kernel⟩
theorem hd_edited (D : Df K mg "edited" s_edited) (n : Nat) (h_with_edit : Hd P w K mg base "with_edit" ["tree", "edit"] k (spWith n)) (h_copied : Hd P w K mg base "copied" ["tree"] k (spCopy n)) : Hd P w K mg base "edited" ["tree", "edit"] (k + 1) (spEd n) := by
  refine hd_mk D sc_edited (fun _ _ _ _ _ _ us hl => match us, hl with | [_, _], _ => rfl) (fun vs H Q E h => ?_) (fun f cdv A outer s H vs Q E hr h => ?_)
  · obtain ⟨G, t, t', v, e, ev, rfl, _⟩ := h; rfl
  obtain ⟨G, t, t', v, e, ev, rfl, sg, ht, he, hf, hz, hz', hd, hd', hdo, q⟩ := h
  refine ⟨_, (pss_one (ps_ret (pe_hd h_copied hr rfl (pa_cons (pe_hd h_with_edit hr rfl (pa_cons (pv 0) (pa_cons (pv 1) pa_nil))) pa_nil)))), ?_⟩
  exact ⟨_, rfl, _, rfl, G, t, t', v, e, ev, rfl, sg, ht, he, hf, hz, hz', hd, hdo, fun G1 v1 H1 g1 h1 => ⟨G1, t', v1, rfl, g1.sub, h1, hd', hz', fun G2 v2 H2 g2 h2 => q G2 v2 H2 (g1.trans g2) h2⟩⟩
theorem sc_copied_edit : FnScope ["edit"] ["edit"] (defScope s_copied_edit) := ⟨rfl, rfl, rfl, by decide +kernel, rfl, by decide +kernel, by decide +kernel⟩
theorem hd_copied_edit (D : Df K mg "copied_edit" s_copied_edit) (n : Nat) (h_copied : Hd P w K mg base "copied" ["tree"] k (spCopy n)) : Hd P w K mg base "copied_edit" ["edit"] (k + 1) (spCopyE n) := by
  refine hd_mk D sc_copied_edit (fun _ _ _ _ _ _ us hl => match us, hl with | [_], _ => rfl) (fun vs H Q E h => ?_) (fun f cdv A outer s H vs Q E hr h => ?_)
  · obtain ⟨G, e, ev, rfl, _⟩ := h; rfl
  obtain ⟨G, e, ev, rfl, sg, he, hf, hd, q⟩ := h
  refine ⟨_, (pss_cons (ps_if (pt_cmpR op_eq (pe_ix ix_tup (pv 0) pe_int (fun _ _ => rfl)) pe_str (nomark _))
      (pss_one (ps_ret (pe_tup (pa_cons pe_str (pa_cons (pe_ix ix_tup (pv 0) pe_int (fun _ _ => rfl)) (pa_cons (pe_ix ix_tup (pv 0) pe_int (fun _ _ => rfl)) (pa_cons (pe_hd h_copied hr rfl (pa_cons (pe_ix ix_tup (pv 0) pe_int (fun _ _ => rfl)) pa_nil)) pa_nil)))))))
      pss_nil)
    (pss_one (ps_ret (pv 0)))), ?_⟩
  obtain ⟨a, r, rfl, ha, hrs⟩ := id he
  refine ⟨_, rfl, a, _, _, _, rfl, rfl, SqT.of (sg _ _ ha), at_0, ?_⟩
  refine ⟨rfl, _, rfl, ?_⟩
  cases e with
  | ren i nn =>
    rw [show decide (V.str (Ed.ren i nn).word = V.str "graft") = false from (by decide +kernel : decide (V.str ("rename" : Str) = V.str "graft") = false)]
    exact iteF ⟨_, rfl, q G _ H (.refl sg) he⟩
  | ret i z =>
    rw [show decide (V.str (Ed.ret i z).word = V.str "graft") = false from (by decide +kernel : decide (V.str ("retext" : Str) = V.str "graft") = false)]
    exact iteF ⟨_, rfl, q G _ H (.refl sg) he⟩
  | cut i =>
    rw [show decide (V.str (Ed.cut i).word = V.str "graft") = false from (by decide +kernel : decide (V.str ("cut" : Str) = V.str "graft") = false)]
    exact iteF ⟨_, rfl, q G _ H (.refl sg) he⟩
  | gra i p x =>
    obtain ⟨xv, hrv, hx⟩ := hrs
    cases hrv
    rw [show decide (V.str (Ed.gra i p x).word = V.str "graft") = true from (by decide +kernel : decide (V.str ("graft" : Str) = V.str "graft") = true)]
    refine iteT ⟨_, rfl, a, _, _, _, rfl, rfl, SqT.of (sg _ _ ha), at_1, _, rfl, a, _, _, _, rfl, rfl, SqT.of (sg _ _ ha), rfl, _, rfl, a, _, _, _, rfl, rfl, SqT.of (sg _ _ ha), rfl, G, x, xv, rfl, sg, hx, hd i p x rfl, hf.1, fun G1 v1 H1 g1 h1 => ?_⟩
    refine ⟨by show 4 ≤ sizeLine; decide, fun b nb => ?_⟩
    have g2 := (g1.al (o := .tup [.str "graft", .int (i : Nat), .int (p : Nat), v1]) nb).frz (g1.dom b nb) upd_same
    exact q _ _ _ g2 ⟨b, [.int (p : Nat), v1], rfl, upd_same, v1, rfl, h1.mono (same_frz (g1.al (o := .tup [.str "graft", .int (i : Nat), .int (p : Nat), v1]) nb).sub upd_same)⟩
end
end K5
set_option Elab.async false
set_option linter.all false
set_option maxRecDepth 100000
set_option maxHeartbeats 4000000
namespace K5
open PySem PySem.Spec PyProof.Rows L2
/-- b is the edit that takes e back -/
def Ed.backs : Ed → Tr → Ed → Prop
  | .ren k _, t, b => ∃ m cs, t.nodes[k]? = some (.el m cs) ∧ b = .ren k m
  | .ret k _, t, b => ∃ s, t.nodes[k]? = some (.tx s) ∧ b = .ret k s
  | .cut k, t, b => ∃ p u, t.nodes[k]? = some u ∧ t.pth[k]? = some (some p) ∧ b = .gra p ((t.pth.take k).count (some p)) u
  | .gra k p _, t, b => ∃ m cs, t.nodes[k]? = some (.el m cs) ∧ b = .cut (k + 1 + Tr.sizes (cs.take p))
theorem sum_sizes : ∀ cs : List Tr, (cs.map fun c => ((c.size : Nat) : Int)).sum = (Tr.sizes cs : Nat)
  | [] => rfl
  | c :: cs => by
    rw [List.map_cons, List.sum_cons, sum_sizes cs]
    simp only [Tr.sizes]
    omega
theorem sizes_take : ∀ (cs : List Tr) (p : Nat), Tr.sizes (cs.take p) ≤ Tr.sizes cs
  | _, 0 => by simp [Tr.sizes]
  | [], p + 1 => by simp
  | c :: cs, p + 1 => by
    have := sizes_take cs p
    simp only [List.take_succ_cons, Tr.sizes]
    omega
mutual
theorem nodes_depth : ∀ {t : Tr} {k : Nat} {u : Tr}, t.nodes[k]? = some u → u.depth ≤ t.depth
  | .tx s, 0, u, h => by
    cases (Option.some.inj h)
    exact Nat.le_refl _
  | .tx s, k + 1, u, h => by simp [Tr.nodes] at h
  | .el n cs, 0, u, h => by
    cases (Option.some.inj h)
    exact Nat.le_refl _
  | .el n cs, k + 1, u, h => by
    have := nodess_depth (ts := cs) (k := k) (u := u) (by simpa [Tr.nodes] using h)
    simp only [Tr.depth]
    omega
theorem nodess_depth : ∀ {ts : List Tr} {k : Nat} {u : Tr}, (Tr.nodess ts)[k]? = some u → u.depth ≤ Tr.depths ts
  | [], k, u, h => by simp [Tr.nodess] at h
  | t :: ts, k, u, h => by
    simp only [Tr.nodess] at h
    simp only [Tr.depths]
    rcases Nat.lt_or_ge k t.nodes.length with l | l
    · rw [List.getElem?_append_left l] at h
      have := nodes_depth h
      omega
    · rw [List.getElem?_append_right l] at h
      have := nodess_depth h
      omega
end
def spBack (n : Nat) : Sp := fun vs H Q _ => ∃ (G : Hp) (t t' : Tr) (v : V) (e : Ed) (ev : V), vs = [v, ev] ∧ Same G H ∧ IsT G t v ∧ IsE G e ev ∧ e.fit ∧ t.size ≤ 100000 ∧ t'.size ≤ 100000 ∧ t.depth ≤ n ∧ e.does t t' ∧
  ∀ G' v' b H', Gr W0 G H G' H' → e.backs t b → IsE G' b v' → Q v' H'
section
variable {P : Program} {w : World} {K : PySem.W.Frag} {mg : Str → Option Value} {base : Heap} {k : Nat}
theorem sc_taken_back : FnScope ["tree", "edit", "word", "here", "parent", "place", "before", "child"] ["tree", "edit"] (defScope s_taken_back) := ⟨rfl, rfl, rfl, by decide +kernel, rfl, by decide +kernel, by decide +kernel⟩
theorem hd_taken_back (D : Df K mg "taken_back" s_taken_back) (T : Tx K mg) (n : Nat) (h_with_edit : Hd P w K mg base "with_edit" ["tree", "edit"] k (spWith n)) (h_copied : Hd P w K mg base "copied" ["tree"] k (spCopy n))
    (h_node_at : Hd P w K mg base "node_at" ["tree", "node"] k spNode) (h_spot_of : Hd P w K mg base "spot_of" ["tree", "node"] k spSpot) (h_weight_of : Hd P w K mg base "weight_of" ["tree"] k spSize) :
    Hd P w K mg base "taken_back" ["tree", "edit"] (k + 1) (spBack n) := by
  refine hd_mk D sc_taken_back (fun _ _ _ _ _ _ us hl => match us, hl with | [_, _], _ => rfl) (fun vs H Q E h => ?_) (fun f cdv A outer s H vs Q E hr h => ?_)
  · obtain ⟨G, t, t', v, e, ev, rfl, _⟩ := h; rfl
  obtain ⟨G, t, t', v, e, ev, rfl, sg, ht, he, hf, hz, hz', hd, hdo, q⟩ := h
  refine ⟨_, (pss_cons (ps_expr (pe_hd h_with_edit hr rfl (pa_cons (pv 0) (pa_cons (pv 1) pa_nil))))
    (pss_cons (ps_set (i := 2) sc_taken_back.nd rfl (Or.inl rfl) (pe_ix ix_tup (pv 1) pe_int (fun _ _ => rfl)))
    (pss_cons (ps_set (i := 3) sc_taken_back.nd rfl (Or.inl rfl) (pe_hd h_copied hr rfl (pa_cons (pe_hd h_node_at hr rfl (pa_cons (pv 0) (pa_cons (pe_ix ix_tup (pv 1) pe_int (fun _ _ => rfl)) pa_nil))) pa_nil)))
    (pss_cons (ps_if (pt_cmpR op_eq (pv 2) pe_str (nomark _))
      (pss_one (ps_ret (pe_tup (pa_cons pe_str (pa_cons (pe_ix ix_tup (pv 1) pe_int (fun _ _ => rfl)) (pa_cons (pe_ix ix_tup (pv 3) pe_int (fun _ _ => rfl)) pa_nil))))))
      pss_nil)
    (pss_cons (ps_if (pt_cmpR op_eq (pv 2) pe_str (nomark _))
      (pss_one (ps_ret (pe_tup (pa_cons pe_str (pa_cons (pe_ix ix_tup (pv 1) pe_int (fun _ _ => rfl)) (pa_cons (pv 3) pa_nil))))))
      pss_nil)
    (pss_cons (ps_if (pt_cmpR op_eq (pv 2) pe_str (nomark _))
      (pss_cons (ps_asg (pe_hd h_spot_of hr rfl (pa_cons (pv 0) (pa_cons (pe_ix ix_tup (pv 1) pe_int (fun _ _ => rfl)) pa_nil))) (pg_tup rfl (pgs_cons (pg_name (i := 4) sc_taken_back.nd rfl (Or.inl rfl)) (pgs_cons (pg_name (i := 5) sc_taken_back.nd rfl (Or.inl rfl)) pgs_nil))))
      (pss_one (ps_ret (pe_tup (pa_cons pe_str (pa_cons (pv 4) (pa_cons (pv 5) (pa_cons (pv 3) pa_nil))))))))
      pss_nil)
    (pss_cons (ps_set (i := 6) sc_taken_back.nd rfl (Or.inl rfl) (pe_callB (cr_sum rfl) (by rfl) T.sum (by decide +kernel) (pa_cons (pe_lc (own := [("child", 7)]) (g := gName 7) (tt := tYes) rfl sc_taken_back.nd (pi_list (pe_slice sl_list (pe_ix ix_tup (pv 3) pe_int (fun _ _ => rfl)) po_none (po_some (pe_ix ix_tup (pv 1) pe_int (fun _ _ => rfl))))) (blkOk_by (own := [("child", 7)]) (N := ["tree", "edit", "word", "here", "parent", "place", "before", "child"]) (sc := defScope s_taken_back) (by decide +kernel)) (fun _ _ _ _ _ => (pg_name (i := 7) sc_taken_back.nd rfl (Or.inl rfl))) (fun _ _ _ _ _ => pts_nil) (fun _ _ _ _ _ => (pe_hd h_weight_of hr rfl (pa_cons (pv 7) pa_nil)))) pa_nil)))
    (pss_one (ps_ret (pe_tup (pa_cons pe_str (pa_cons (pe_op op_add (pe_op op_add (pe_ix ix_tup (pv 1) pe_int (fun _ _ => rfl)) pe_int) (pv 6)) pa_nil)))))))))))), ?_⟩
  obtain ⟨u, hu, hk, hg⟩ := does_pre hdo
  obtain ⟨a, r, rfl, ha, hrs⟩ := id he
  refine ⟨_, rfl, _, rfl, G, t, t', v, e, .ref a, rfl, sg, ht, he, hf, hz, hz', hd, hdo, fun G1 v1 H1 g1 _ => ?_⟩
  refine ⟨_, rfl, a, _, _, _, rfl, rfl, SqT.of (g1.sub0 _ _ ha), at_0, ?_⟩
  refine ⟨_, rfl, _, rfl, a, _, _, _, rfl, rfl, SqT.of (g1.sub0 _ _ ha), at_1, G1, t, u, v, e.k, rfl, g1.sub, ht.mono g1.ext, hz, hu, fun u1 H2 s2 hu1 => ?_⟩
  have g2 := g1.trans (.of g1.sub s2)
  have hus := nodes_size hu
  refine ⟨G1, u, u1, rfl, g2.sub, hu1, Nat.le_trans (nodes_depth hu) hd, by omega, fun G3 u3 H3 g3 hu3 => ?_⟩
  have g4 := g2.trans g3
  have ha3 := g4.sub0 _ _ ha
  refine ⟨_, rfl, rfl, _, rfl, ?_⟩
  cases e with
  | ren i nn =>
    obtain ⟨m, cs, hu', _⟩ := hdo
    have hu2 : t.nodes[i]? = some u := hu
    rw [hu'] at hu2
    cases (Option.some.inj hu2)
    obtain ⟨b, lc, ws, rfl, k1, k2, k3⟩ := hu3
    rw [show decide (V.str (Ed.ren i nn).word = V.str "rename") = true from (by decide +kernel : decide (V.str ("rename" : Str) = V.str "rename") = true)]
    refine iteT ⟨_, rfl, a, _, _, _, rfl, rfl, SqT.of ha3, at_1, _, rfl, b, _, _, _, rfl, rfl, SqT.of (g4.sub _ _ k1), rfl, by show 3 ≤ sizeLine; decide, fun p np => ?_⟩
    exact q _ _ (.ren i m) _ ((g4.al (o := .tup [.str "rename", .int (i : Nat), .str m]) np).frz (g4.dom p np) upd_same) ⟨m, cs, hu', rfl⟩ ⟨p, [.str m], rfl, upd_same, rfl⟩
  | ret i z =>
    obtain ⟨s0, hu', _⟩ := hdo
    have hu2 : t.nodes[i]? = some u := hu
    rw [hu'] at hu2
    cases (Option.some.inj hu2)
    cases (show u3 = .str s0 from hu3)
    rw [show decide (V.str (Ed.ret i z).word = V.str "rename") = false from (by decide +kernel : decide (V.str ("retext" : Str) = V.str "rename") = false)]
    refine iteF ⟨_, rfl, rfl, _, rfl, ?_⟩
    rw [show decide (V.str (Ed.ret i z).word = V.str "retext") = true from (by decide +kernel : decide (V.str ("retext" : Str) = V.str "retext") = true)]
    refine iteT ⟨_, rfl, a, _, _, _, rfl, rfl, SqT.of ha3, at_1, _, rfl, by show 3 ≤ sizeLine; decide, fun p np => ?_⟩
    exact q _ _ (.ret i s0) _ ((g4.al (o := .tup [.str "retext", .int (i : Nat), .str s0]) np).frz (g4.dom p np) upd_same) ⟨s0, hu', rfl⟩ ⟨p, [.str s0], rfl, upd_same, rfl⟩
  | cut i =>
    obtain ⟨pp, m, cs, hi0, hp, hpn, hc, hap, ht'⟩ := hdo
    rw [show decide (V.str (Ed.cut i).word = V.str "rename") = false from (by decide +kernel : decide (V.str ("cut" : Str) = V.str "rename") = false)]
    refine iteF ⟨_, rfl, rfl, _, rfl, ?_⟩
    rw [show decide (V.str (Ed.cut i).word = V.str "retext") = false from (by decide +kernel : decide (V.str ("cut" : Str) = V.str "retext") = false)]
    refine iteF ⟨_, rfl, rfl, _, rfl, ?_⟩
    rw [show decide (V.str (Ed.cut i).word = V.str "cut") = true from (by decide +kernel : decide (V.str ("cut" : Str) = V.str "cut") = true)]
    refine iteT ⟨_, rfl, _, rfl, a, _, _, _, rfl, rfl, SqT.of ha3, at_1, G3, t, v, i, pp, rfl, g4.sub, ht.mono g4.ext, hz, hp, fun b H4 s4 hb => ?_⟩
    have g5 := g4.trans (.of g4.sub s4)
    refine ⟨b, _, rfl, SqT.of hb, rfl, _, _, rfl, _, _, rfl, rfl, ?_⟩
    refine ⟨_, rfl, _, rfl, _, rfl, by show 4 ≤ sizeLine; decide, fun p np => ?_⟩
    have g6 := g5.al (o := .tup [.str "graft", .int (pp : Nat), .int (((t.pth.take i).count (some pp) : Nat) : Int), u3]) np
    exact q _ _ (.gra pp ((t.pth.take i).count (some pp)) u) _ (g6.frz (g5.dom p np) upd_same) ⟨pp, u, hu, hp, rfl⟩ ⟨p, _, rfl, upd_same, u3, rfl, hu3.mono (same_frz g6.sub upd_same)⟩
  | gra i p x =>
    obtain ⟨xv, hrv, hx⟩ := hrs
    cases hrv
    obtain ⟨m, cs, hu', hp, _⟩ := hdo
    have hu2 : t.nodes[i]? = some u := hu
    rw [hu'] at hu2
    cases (Option.some.inj hu2)
    obtain ⟨b, lc, ws, rfl, k1, k2, k3⟩ := hu3
    have hwl := k3.len
    have hcl := node_len hu'
    rw [show decide (V.str (Ed.gra i p x).word = V.str "rename") = false from (by decide +kernel : decide (V.str ("graft" : Str) = V.str "rename") = false)]
    refine iteF ⟨_, rfl, rfl, _, rfl, ?_⟩
    rw [show decide (V.str (Ed.gra i p x).word = V.str "retext") = false from (by decide +kernel : decide (V.str ("graft" : Str) = V.str "retext") = false)]
    refine iteF ⟨_, rfl, rfl, _, rfl, ?_⟩
    rw [show decide (V.str (Ed.gra i p x).word = V.str "cut") = false from (by decide +kernel : decide (V.str ("graft" : Str) = V.str "cut") = false)]
    refine iteF ⟨_, rfl, b, _, _, _, rfl, rfl, SqT.of (g4.sub _ _ k1), rfl, _, rfl, a, _, _, _, rfl, rfl, SqT.of ha3, rfl, _, rfl, lc, ws, rfl, SqL.of (g4.sub _ _ k2), fun l nl => ?_⟩
    rw [cut_to (show p ≤ ws.length by omega)]
    have g5 := g4.al (o := .lst (ws.take p)) nl
    have tk := k3.take p
    have htl : (ws.take p).length = (cs.take p).length := tk.len
    have htl2 : (cs.take p).length ≤ cs.length := by rw [List.length_take]; omega
    have hus2 : (Tr.el m cs).size = 1 + Tr.sizes cs := rfl
    have hus3 := sizes_take cs p
    refine ⟨l, rfl, ⟨_, SqL.of upd_same⟩, fun D hD => lc_rel (walk_list (xs := ws.take p)) hD g5.sub (fun G6 H6 gr => SqL.of (gr.same _ _ upd_same)) (fun i _ y => ∃ c, (cs.take p)[i]? = some c ∧ y = .int ((c.size : Nat) : Int)) (fun _ _ _ _ _ h => h) (by omega) ?_ ?_⟩
    · rintro j y G6 H6 H7 K' Z hj gr6 gD _ ⟨rfl, hy⟩ hK
      obtain ⟨c, hc, hcy⟩ := tk.at_ hy
      have := sizes_get hc
      exact ⟨rfl, ty_yes ⟨_, rfl, G6, c, y, rfl, gr6.sub, hcy.mono gr6.ext, by omega, fun H8 s8 => hK G6 H8 _ (.of gr6.sub s8) ⟨c, hc, rfl⟩⟩⟩
    · intro G6 H6 ys gr6 hy gD hl hr6
      have g7 := g5.trans gr6
      have ey : ys = ((cs.take p).map fun c => ((c.size : Nat) : Int)).map V.int := by
        rw [List.map_map]
        exact map_of (by rw [hl, htl]) hr6
      refine ⟨D, _, rfl, SqL.of (by rw [hy, ey]), ?_⟩
      rw [sum_sizes]
      refine ⟨_, rfl, a, _, _, _, rfl, rfl, SqT.of (g7.sub0 _ _ ha), at_1, _, _, rfl, rfl, _, rfl, _, _, rfl, rfl, by show 2 ≤ sizeLine; decide, fun b2 nb => ?_⟩
      have e1 : V.int (((i : Nat) : Int) + 1 + ((Tr.sizes (cs.take p) : Nat) : Int)) = V.int ((i + 1 + Tr.sizes (cs.take p) : Nat) : Int) := congrArg V.int (by omega)
      refine q _ _ (.cut (i + 1 + Tr.sizes (cs.take p))) _ ((g7.al nb).frz (g7.dom b2 nb) upd_same) ⟨m, cs, hu', rfl⟩ ⟨b2, [], rfl, ?_, rfl⟩
      rw [upd_same]
      exact congrArg (fun z => some (HO.tup [V.str "cut", z])) e1
end
end K5
set_option Elab.async false
set_option linter.all false
set_option maxRecDepth 100000
set_option maxHeartbeats 4000000
namespace K5
open PySem PySem.Spec PyProof.Rows L2
/-! ### rows of bits -/
theorem Same.up {H : Hp} {p : Addr} {o : HO} (n : H p = none) : Same H (upd H p o) := fun b u h => by rw [upd_ne (ne_of_none h n)]; exact h
def Bt (xs : List Int) : Prop := ∀ x ∈ xs, x = 0 ∨ x = 1
/-- the sum of the first i -/
def sm (xs : List Int) (i : Nat) : Int := (xs.take i).sum
def nb (n : Nat) : Nat := (n + 31) / 32
def befs (xs : List Int) : List Int := (List.range (nb xs.length + 1)).map fun j => sm xs (32 * j)
theorem sm_0 (xs : List Int) : sm xs 0 = 0 := by simp [sm]
theorem sm_all {xs : List Int} {i : Nat} (h : xs.length ≤ i) : sm xs i = xs.sum := by rw [sm, List.take_of_length_le h]
theorem sm_succ {xs : List Int} {i : Nat} {x : Int} (h : xs[i]? = some x) : sm xs (i + 1) = sm xs i + x := sum_take h
theorem sm_add (xs : List Int) (i j : Nat) : sm xs (i + j) = sm xs i + ((xs.drop i).take j).sum := by
  unfold sm
  rw [List.take_add, List.sum_append]
theorem sm_mono {xs : List Int} (hb : Bt xs) {i j : Nat} (h : i ≤ j) : sm xs i ≤ sm xs j := by
  obtain ⟨d, rfl⟩ := Nat.exists_eq_add_of_le h
  rw [sm_add]
  have : ∀ l : List Int, (∀ x ∈ l, x = 0 ∨ x = 1) → 0 ≤ l.sum := fun l => by
    induction l with
    | nil => intro _; simp
    | cons a l ih =>
      intro hl
      have := ih fun x hx => hl x (List.mem_cons_of_mem _ hx)
      have := hl a (List.mem_cons_self ..)
      rw [List.sum_cons]
      omega
  have := this ((xs.drop i).take d) fun x hx => hb x (List.mem_of_mem_drop (List.mem_of_mem_take hx))
  omega
theorem sm_le {xs : List Int} (hb : Bt xs) : ∀ i : Nat, sm xs i ≤ i
  | 0 => by rw [sm_0]; simp
  | i + 1 => by
    have ih := sm_le hb i
    rcases Nat.lt_or_ge i xs.length with l | l
    · have e := sm_succ (List.getElem?_eq_getElem l)
      have := hb _ (List.getElem_mem l)
      omega
    · rw [sm_all (show xs.length ≤ i + 1 by omega), ← sm_all l]
      omega
theorem befs_get {xs : List Int} {j : Nat} (h : j ≤ nb xs.length) : (befs xs)[j]? = some (sm xs (32 * j)) := by
  unfold befs
  rw [List.getElem?_map, List.getElem?_range (by omega)]
  rfl
theorem befs_len (xs : List Int) : (befs xs).length = nb xs.length + 1 := by simp [befs]
theorem cut_any {xs : List V} {i j : Nat} {p q : Int} (ep : p = (i : Int)) (eq : q = (j : Int)) (hi : i ≤ xs.length) : cutV xs (some p) (some q) = (xs.drop i).take (j - i) := by
  subst ep eq
  unfold cutV
  rw [HT.sIx_nat, HT.sIx_nat, Nat.min_eq_left hi]
  rcases Nat.le_total j xs.length with h | h
  · rw [Nat.min_eq_left h]
  · rw [Nat.min_eq_right h, List.take_of_length_le (by rw [List.length_drop]; exact Nat.le_refl _), List.take_of_length_le (by rw [List.length_drop]; omega)]
def bp (xs : List Int) (j : Nat) : List Int := (List.range j).map fun j => sm xs (32 * j)
theorem bp_succ (xs : List Int) (j : Nat) : bp xs (j + 1) = bp xs j ++ [sm xs (32 * j)] := by simp [bp, List.range_succ]
theorem bp_len (xs : List Int) (j : Nat) : (bp xs j).length = j := by simp [bp]
theorem befs_bp (xs : List Int) : befs xs = bp xs (nb xs.length + 1) := rfl
theorem nb_le (n : Nat) : n ≤ 32 * nb n := by unfold nb; omega
theorem nb_lt {j n : Nat} (h : j < nb n) : 32 * j < n := by unfold nb at h; omega
theorem in01 {x : Int} (h : x = 0 ∨ x = 1) : inV (.int x) [V.int 0, V.int 1] = true := by
  rcases h with rfl | rfl <;> decide
section
variable {P : Program} {w : World} {K : PySem.W.Frag} {mg : Str → Option Value} {base : Heap} {m qual : Str} {C : Addr} {st : Stmt} {ps N : List Str} {d : V} {k : Nat} {sp : Sp}
/-- THE RULE for a method with one default: j = 1, it is given; j = 0, it is filled up -/
theorem mn_mk (D : Dn K C m qual st d) (S : FnScope N ps (defScope st)) (n j : Nat) (hn : n + (1 - j) = ps.length)
    (hb : ∀ (T : Addr) (kV doc pm : Value) (an : Option Addr) (cdv ct : Value) (us its : List Value), us.length = n → its.length = 1 →
      ∃ k, bindArgs (PySem.W.fnOf m qual (defArgs st) (defBody st) (defScope st) (.ref T) kV doc pm an cdv ct) ⟨us, []⟩ = seqItems? (.ref T) >>= k ∧ k (some its.toArray) = pure (ps.zip (us ++ its.drop j)))
    (len : ∀ vs H Q E, sp vs H Q E → vs.length = ps.length)
    (hbody : ∀ (f : Addr) (cdv : Value) (A : Around) (outer : List Env) (s : Shared) (H : Hp) (vs : List V) (Q : VK) (E : XK), Room k (A.deeper (envOfC qual (defScope st) s.heap.objs.size f cdv)) → sp vs H Q E →
      ∃ t, PSs (cxOf CX0 P w K mg base N qual (defScope st) f cdv A outer s H E).nox (defBody st) t ∧ t { nx := fun _ H' => Q .non H', rt := Q } (start N vs) H) : Md P w K mg base C m ps ([d].drop j) (k + 1) sp := by
  obtain ⟨f, fd, F, a⟩ := D.ex
  obtain ⟨ds, hv, hbn⟩ := F.binds1 n j (by simp) hn hb
  exact ⟨f, fd, ds, a, hv, hbn, F.ok S len fun cdv A outer s H vs Q E hr h => by
    obtain ⟨t, h1, h2⟩ := hbody f cdv A outer s H vs Q E hr h
    exact ⟨t, h1.nox, h2⟩⟩
end
def rk (xs : List Int) (d : Int) (i : Nat) : Int := if d = 1 then sm xs i else (i : Int) - sm xs i
abbrev cB (K : PySem.W.Frag) : Addr := He.ga K "Bits"
/-- the parts of a row of bits -/
def BitsP (G : Hp) (xs : List Int) (fs : List (Str × V)) : Prop := ∃ r b : Addr, fs = fBits (.ref r) (.ref b) (.int ((xs.length : Nat) : Int)) (.int xs.sum) ∧ G r = some (.lst (xs.map V.int)) ∧ G b = some (.lst ((befs xs).map V.int))
def IsBits (K : PySem.W.Frag) (G : Hp) (xs : List Int) (a : Addr) : Prop := Bt xs ∧ xs.length ≤ 100000 ∧ ∃ dx fs, G a = some (.ins (cB K) dx fs) ∧ BitsP G xs fs
theorem BitsP.mono {G G' : Hp} {xs : List Int} {fs : List (Str × V)} (s : Same G G') (h : BitsP G xs fs) : BitsP G' xs fs := by
  obtain ⟨r, b, e, h1, h2⟩ := h
  exact ⟨r, b, e, s _ _ h1, s _ _ h2⟩
theorem IsBits.mono {K : PySem.W.Frag} {G G' : Hp} {xs : List Int} {a : Addr} (s : Same G G') (h : IsBits K G xs a) : IsBits K G' xs a := by
  obtain ⟨h1, h2, dx, fs, h3, h4⟩ := h
  exact ⟨h1, h2, dx, fs, s _ _ h3, h4.mono s⟩
theorem rs32 (n : Nat) : Builtin.Range.rangeSize 0 (n : Int) 32 = ((nb n : Nat) : Int) := by
  show (if (32 : Int) > 0 then (if (0 : Int) < (n : Int) then ((n : Int) - 0 - 1) / 32 + 1 else 0) else _) = ((nb n : Nat) : Int)
  rw [if_pos (by decide)]
  unfold nb
  split <;> omega
theorem small_32 {a b c m : Int} (hs : Builtin.Range.rangeSize a b c = m) (hc : c = 32) (ha : a = 0) (hb : 0 ≤ b ∧ b ≤ 100000) (hm : 0 ≤ m ∧ m ≤ 100000) : Builtin.Range.small a b c = true := by
  unfold Builtin.Range.small
  rw [hs]
  simp only [Builtin.Range.rangeFitsLong, Bool.and_eq_true, Bool.or_eq_true, decide_eq_true_eq, beq_iff_eq]
  subst hc ha
  refine ⟨by omega, .inr ?_⟩
  rw [if_pos (by decide), Bool.and_eq_true]
  exact ⟨decide_eq_true (by omega), decide_eq_true (by omega)⟩
theorem rg32 {n : Nat} (h : n ≤ 100000) : RgC 0 (n : Int) 32 (nb n) :=
  have h2 : nb n ≤ 100000 := by unfold nb; omega
  ⟨by decide, by decide, small_32 (rs32 n) rfl rfl ⟨by omega, by omega⟩ ⟨by omega, by omega⟩, rs32 n⟩
theorem map_int_get {xs : List Int} {i : Nat} {x : Int} (h : xs[i]? = some x) : (xs.map V.int)[i]? = some (.int x) := by rw [List.getElem?_map, h]; rfl
/-- the heap behind an __init__: the new instance is frozen -/
theorem Gr.init {G H G1 H1 : Hp} {x dx C : Addr} {o : HO} (s : Same G H) (nx : H x = none) (nd : H dx = none) (ne : dx ≠ x) (g : Gr (· = x) G (upd (upd H dx (.own x)) x (.ins C dx [])) G1 H1) (h : H1 x = some o) : Gr W0 G H (upd G1 x o) H1 ∧ Same G1 (upd G1 x o) := by
  have nx' : upd H dx (.own x) x = none := by rw [upd_ne ne.symm]; exact nx
  have g0 : Gr (· = x) G H G (upd (upd H dx (.own x)) x (.ins C dx [])) := (Gr.alloc s nd).al nx'
  have g1 : Gr W0 G H G1 H1 := (g0.trans g).drop fun b e => .inr (by rw [show b = x from e]; exact nx)
  exact ⟨g1.frz nx h, same_frz g1.sub h⟩
def spBitsI (K : PySem.W.Frag) : Sp := fun vs H Q _ => ∃ (G : Hp) (xs : List Int) (a dx l : Addr), vs = [.ref a, .ref l] ∧ Same G H ∧ G a = none ∧ H a = some (.ins (cB K) dx []) ∧ H l = some (.lst (xs.map V.int)) ∧ Bt xs ∧ xs.length ≤ 100000 ∧
  ∀ G' fs H', Gr (· = a) G H G' H' → H' a = some (.ins (cB K) dx fs) → BitsP G' xs fs → Q .non H'
def spBitsAt (K : PySem.W.Frag) : Sp := fun vs H Q _ => ∃ (G : Hp) (xs : List Int) (a : Addr) (i : Nat) (x : Int), vs = [.ref a, .int (i : Nat)] ∧ Same G H ∧ IsBits K G xs a ∧ xs[i]? = some x ∧ Q (.int x) H
def spBitsRk (K : PySem.W.Frag) : Sp := fun vs H Q _ => ∃ (G : Hp) (xs : List Int) (a : Addr) (i : Nat) (d : Int), vs = [.ref a, .int (i : Nat), .int d] ∧ Same G H ∧ IsBits K G xs a ∧ i ≤ xs.length ∧ ∀ H', Same H H' → Q (.int (rk xs d i)) H'
def spBitsBb (K : PySem.W.Frag) : Sp := fun vs H Q _ => ∃ (G : Hp) (xs : List Int) (a : Addr) (j : Nat), vs = [.ref a, .int (j : Nat), .int 1] ∧ Same G H ∧ IsBits K G xs a ∧ j ≤ nb xs.length ∧ Q (.int (sm xs (32 * j))) H
def spBitsSel (K : PySem.W.Frag) : Sp := fun vs H Q _ => ∃ (G : Hp) (xs : List Int) (a : Addr) (k p : Nat), vs = [.ref a, .int (k : Nat), .int 1] ∧ Same G H ∧ IsBits K G xs a ∧ xs[p]? = some 1 ∧ sm xs p = k ∧ ∀ H', Same H H' → Q (.int (p : Nat)) H'
section
variable {P : Program} {w : World} {K : PySem.W.Frag} {mg : Str → Option Value} {base : Heap} {k : Nat}
theorem sc_Bits_at : FnScope ["self", "place"] ["self", "place"] (defScope s_Bits_at) := ⟨rfl, rfl, rfl, by decide +kernel, rfl, by decide +kernel, by decide +kernel⟩
theorem md_Bits_at (D : Dm K (cB K) "at" "Bits.at" s_Bits_at) (T : Tx K mg) : Md P w K mg base (cB K) "at" ["self", "place"] [] (k + 1) (spBitsAt K) := by
  refine md_mk D sc_Bits_at (fun _ _ _ _ _ _ us hl => match us, hl with | [_, _], _ => rfl) (fun vs H Q E h => ?_) (fun f cdv A outer s H vs Q E hr h => ?_)
  · obtain ⟨G, xs, a, i, x, rfl, _⟩ := h; rfl
  obtain ⟨G, xs, a, i, x, rfl, sg, hb, hx, q⟩ := h
  refine ⟨_, (pss_cons (ps_if (pt_not (pt_chain op_le op_lt pe_int (pv 1) (pe_fld (pv 0) rfl)))
      (pss_one ps_never)
      pss_nil)
    (pss_one (ps_ret (pe_ix ix_list (pe_fld (pv 0) rfl) (pv 1) (fun _ _ => rfl))))), ?_⟩
  obtain ⟨h01, hz, dx, fs, ha, r, b, rfl, hr', hb'⟩ := hb
  have hlt : i < xs.length := (List.getElem?_eq_some_iff.mp hx).1
  have ha' := sg _ _ ha
  refine ⟨_, rfl, _, _, rfl, rfl, _, rfl, ?_⟩
  rw [show decide ((0 : Int) ≤ (i : Int)) = true by simp]
  refine iteT ⟨_, rfl, a, _, dx, _, _, rfl, ha', T.cBits, T.nBits_size, lBits_size, _, _, rfl, rfl, _, rfl, ?_⟩
  rw [show decide ((i : Int) < ((xs.length : Nat) : Int)) = true from decide_eq_true (by omega)]
  exact iteF ⟨_, rfl, a, _, dx, _, _, rfl, ha', T.cBits, T.nBits__row, lBits__row, _, rfl, r, _, _, _, rfl, rfl, SqL.of (sg _ _ hr'), atI_n rfl (map_int_get hx), q⟩
theorem sc_Bits_before_block : FnScope ["self", "block", "digit"] ["self", "block", "digit"] (defScope s_Bits_before_block) := ⟨rfl, rfl, rfl, by decide +kernel, rfl, by decide +kernel, by decide +kernel⟩
theorem md_Bits_before_block (D : Dm K (cB K) "before_block" "Bits.before_block" s_Bits_before_block) (T : Tx K mg) : Md P w K mg base (cB K) "before_block" ["self", "block", "digit"] [] (k + 1) (spBitsBb K) := by
  refine md_mk D sc_Bits_before_block (fun _ _ _ _ _ _ us hl => match us, hl with | [_, _, _], _ => rfl) (fun vs H Q E h => ?_) (fun f cdv A outer s H vs Q E hr h => ?_)
  · obtain ⟨G, xs, a, j, rfl, _⟩ := h; rfl
  obtain ⟨G, xs, a, j, rfl, sg, hb, hj, q⟩ := h
  refine ⟨_, (pss_cons (ps_if (pt_cmpR op_eq (pv 2) pe_int (nomark _))
      (pss_one (ps_ret (pe_ix ix_list (pe_fld (pv 0) rfl) (pv 1) (fun _ _ => rfl))))
      pss_nil)
    (pss_one ps_never)), ?_⟩
  obtain ⟨h01, hz, dx, fs, ha, r, b, rfl, hr', hb'⟩ := hb
  have ha' := sg _ _ ha
  refine ⟨_, rfl, rfl, _, rfl, ?_⟩
  exact iteT ⟨_, rfl, a, _, dx, _, _, rfl, ha', T.cBits, T.nBits__before, lBits__before, _, rfl, b, _, _, _, rfl, rfl, SqL.of (sg _ _ hb'), atI_n rfl (map_int_get (befs_get hj)), q⟩
theorem sc_Bits_init : FnScope ["self", "row", "place", "digit", "start"] ["self", "row"] (defScope s_Bits_init) := ⟨rfl, rfl, rfl, by decide +kernel, rfl, by decide +kernel, by decide +kernel⟩
theorem mkd_Bits (D : Di K mg "Bits" (cB K) "Bits.__init__" s_Bits_init) (T : Tx K mg) : Mkd P w K mg base "Bits" (cB K) ["self", "row"] (k + 2) (spBitsI K) := by
  refine mkd_mk D sc_Bits_init (fun _ _ _ _ _ _ us hl => match us, hl with | [_, _], _ => rfl) (fun vs H Q E h => ?_) (fun f cdv A outer s H vs Q E hr h => ?_)
  · obtain ⟨G, xs, a, dx, l, rfl, _⟩ := h; rfl
  obtain ⟨G, xs, a, dx, l, rfl, sg, ga, ha, hl, h01, hz, q⟩ := h
  refine ⟨_, (pss_cons (ps_for PassesOwn.never rfl (pi_enum (by rfl) T.enumerate (pa_cons (pv 1) pa_nil)) (pg_tup rfl (pgs_cons (pg_name (i := 2) sc_Bits_init.nd rfl (Or.inl rfl)) (pgs_cons (pg_name (i := 3) sc_Bits_init.nd rfl (Or.inl rfl)) pgs_nil)))
      (pss_one (ps_if (pt_cmpR op_notIn_seq (pv 3) (pe_tup (pa_cons pe_int (pa_cons pe_int pa_nil))) (by rfl))
        (pss_one ps_never)
        pss_nil)))
    (pss_cons (ps_fld (pv 0) (pe_callTy call_list_of (by rfl) T.list (by decide +kernel) (pa_cons (pv 1) pa_nil)) rfl)
    (pss_cons (ps_fld (pv 0) (pe_lst (pa_cons pe_int pa_nil)) rfl)
    (pss_cons (ps_for PassesOwn.never rfl (pi_range3 (by rfl) T.range (pa_cons pe_int (pa_cons (pe_callB call_len_seq (by rfl) T.len (by decide +kernel) (pa_cons (pe_fld (pv 0) rfl) pa_nil)) (pa_cons (pe_gi rfl T.BLOCK) pa_nil)))) (pg_name (i := 4) sc_Bits_init.nd rfl (Or.inl rfl))
      (pss_one (ps_expr (pe_bm PySem.F.plainAttrs_list PySem.F.slot_list_append PySem.F.type_list_append mt_append (pe_fld (pv 0) rfl) (pa_cons (pe_op op_add (pe_ix ix_list (pe_fld (pv 0) rfl) (pe_un un_neg pe_int) (fun _ _ => rfl)) (pe_callB (cr_sum rfl) (by rfl) T.sum (by decide +kernel) (pa_cons (pe_slice sl_list (pe_fld (pv 0) rfl) (po_some (pv 4)) (po_some (pe_op op_add (pv 4) (pe_gi rfl T.BLOCK)))) pa_nil))) pa_nil)))))
    (pss_cons (ps_fld (pv 0) (pe_callB call_len_seq (by rfl) T.len (by decide +kernel) (pa_cons (pe_fld (pv 0) rfl) pa_nil)) rfl)
    (pss_one (ps_fld (pv 0) (pe_ix ix_list (pe_fld (pv 0) rfl) (pe_un un_neg pe_int) (fun _ _ => rfl)) rfl))))))), ?_⟩
  refine ⟨_, rfl, l, _, rfl, SqL.of hl, for_it (walk_enum (xs := xs.map V.int)) (fun i σ H1 => ∃ x2 x3, σ = [some (.ref a), some (.ref l), x2, x3, none] ∧ Same H H1) ⟨none, none, rfl, Same.refl H⟩ (fun i σ H1 _ ⟨_, _, _, s1⟩ => SqL.of (s1 _ _ hl)) ?_ ?_⟩
  · rintro i x σ H1 H2 hi ⟨x2, x3, rfl, s1⟩ ⟨p, u, y, rfl, np, rfl, e1, e2⟩
    cases (Option.some.inj e1)
    refine ⟨p, _, rfl, SqT.of upd_same, rfl, _, _, rfl, _, _, rfl, rfl, ?_⟩
    have hi' : i < xs.length := by simpa using hi
    have hy : y = .int xs[i] := by
      have e3 := map_int_get (List.getElem?_eq_getElem hi')
      exact Option.some.inj (e2.symm.trans e3)
    subst hy
    refine ⟨_, rfl, by show 2 ≤ sizeLine; decide, fun t nt => ⟨t, _, rfl, .inr (SqT.of upd_same), rfl, rfl, ?_⟩⟩
    rw [show (if true = true then !inV (V.int xs[i]) [.int 0, .int 1] else inV (V.int xs[i]) [.int 0, .int 1]) = false from by rw [if_pos rfl, in01 (h01 _ (List.getElem_mem hi'))]; rfl]
    refine ⟨_, rfl, ?_⟩
    exact iteF ⟨_, _, rfl, s1.trans ((Same.up np).trans (Same.up nt))⟩
  rintro σ H1 ⟨x2, x3, rfl, s1⟩
  have ha1 := s1 _ _ ha
  have g1 : Gr (· = a) G H G H1 := (Gr.of sg s1).mono
  refine ⟨_, rfl, l, _, rfl, .inl (SqL.of (s1 _ _ hl)), fun r nr => ⟨_, rfl, a, cB K, dx, [], rfl, ?_⟩⟩
  have ra : a ≠ r := ne_of_none ha1 nr
  refine ⟨by rw [upd_ne ra]; exact ha1, T.cBits, T.nBits__row, by decide, ?_⟩
  rw [pBits0]
  have g2 : Gr (· = a) G H G (upd (upd H1 r (.lst (xs.map V.int))) a (.ins (cB K) dx (fBits1 (.ref r)))) := (g1.al nr).wr (.inr rfl) ga (by rw [upd_ne ra]; exact ha1)
  have gr0 : G r = none := g1.g0 nr
  have nrH : H r = none := s1.free nr
  refine ⟨by show 1 ≤ sizeLine; decide, fun b nb' => ⟨_, rfl, a, cB K, dx, fBits1 (.ref r), rfl, ?_⟩⟩
  generalize hE2 : upd (upd H1 r (.lst (xs.map V.int))) a (.ins (cB K) dx (fBits1 (.ref r))) = H2 at *
  have h2a : H2 a = some (.ins (cB K) dx (fBits1 (.ref r))) := by rw [← hE2, upd_same]
  have h2r : H2 r = some (.lst (xs.map V.int)) := by rw [← hE2, upd_ne ra.symm, upd_same]
  have ba : a ≠ b := ne_of_none h2a nb'
  have br : r ≠ b := ne_of_none h2r nb'
  have gb0 : G b = none := g2.g0 nb'
  have nbH : H b = none := g2.dom b nb'
  refine ⟨by rw [upd_ne ba]; exact h2a, T.cBits, T.nBits__before, by show 1 < 1000; decide, ?_⟩
  rw [pBits1]
  have g3 : Gr (· = a) G H G (upd (upd H2 b (.lst [.int 0])) a (.ins (cB K) dx (fBits2 (.ref r) (.ref b)))) := (g2.al nb').wr (.inr rfl) ga (by rw [upd_ne ba]; exact h2a)
  generalize hE3 : upd (upd H2 b (.lst [.int 0])) a (.ins (cB K) dx (fBits2 (.ref r) (.ref b))) = H3 at *
  have h3a : H3 a = some (.ins (cB K) dx (fBits2 (.ref r) (.ref b))) := by rw [← hE3, upd_same]
  have h3r : H3 r = some (.lst (xs.map V.int)) := by rw [← hE3, upd_ne ra.symm, upd_ne br]; exact h2r
  have h3b : H3 b = some (.lst [.int 0]) := by rw [← hE3, upd_ne ba.symm, upd_same]
  refine ⟨_, rfl, a, _, dx, _, _, rfl, h3a, T.cBits, T.nBits__row, lBits2__row, r, _, rfl, .inl (SqL.of h3r), 0, _, 32, nb xs.length, rfl, by rw [List.length_map]; exact rg32 hz, ?_⟩
  refine for_it walk_rangeC (fun i σ H4 => ∃ x4, σ = [some (.ref a), some (.ref l), x2, x3, x4] ∧ Gr (· = a) G H G H4 ∧ H4 a = some (.ins (cB K) dx (fBits2 (.ref r) (.ref b))) ∧ H4 r = some (.lst (xs.map V.int)) ∧ H4 b = some (.lst ((bp xs (i + 1)).map V.int)))
    ⟨none, rfl, g3, h3a, h3r, h3b⟩ (fun _ _ _ _ _ => trivial) ?_ ?_
  · rintro i x σ H4 H5 hi ⟨x4, rfl, g4, h4a, h4r, h4b⟩ ⟨rfl, rfl⟩
    have hi' := nb_lt hi
    refine ⟨_, rfl, a, _, dx, _, _, rfl, h4a, T.cBits, T.nBits__before, lBits2__before, .inl ⟨rfl, _, SqL.of h4b⟩, ?_⟩
    refine ⟨_, rfl, a, _, dx, _, _, rfl, h4a, T.cBits, T.nBits__before, lBits2__before, 1, rfl, ?_⟩
    have e4 : ((bp xs (i + 1)).map V.int) = (bp xs i).map V.int ++ [.int (sm xs (32 * i))] := by rw [bp_succ, List.map_append]; rfl
    refine ⟨b, _, _, _, rfl, rfl, SqL.of (e4 ▸ h4b), atI_last _ _, ?_⟩
    refine ⟨_, rfl, a, _, dx, _, _, rfl, h4a, T.cBits, T.nBits__row, lBits2__row, _, rfl, _, rfl, _, rfl, _, _, rfl, rfl, _, rfl, r, xs.map V.int, rfl, SqL.of h4r, fun z nz => ?_⟩
    rw [cut_any (i := 32 * i) (j := 32 * i + 32) (by omega) (by omega) (by rw [List.length_map]; omega), ← List.map_drop, ← List.map_take]
    have rz : r ≠ z := ne_of_none h4r nz
    have bz : b ≠ z := ne_of_none h4b nz
    have az : a ≠ z := ne_of_none h4a nz
    have ab : a ≠ b := ba
    refine ⟨z, _, rfl, SqL.of upd_same, _, _, rfl, rfl, b, _, _, rfl, rfl, by rw [upd_ne bz]; exact h4b, ?_, ?_⟩
    · rw [List.length_map, bp_len]; exact smallT (by have := nb_lt hi; omega)
    have e5 : (bp xs (i + 1)).map V.int ++ [.int (sm xs (32 * i) + ((xs.drop (32 * i)).take (32 * i + 32 - 32 * i)).sum)] = (bp xs (i + 1 + 1)).map V.int := by
      rw [bp_succ xs (i + 1), List.map_append, show 32 * (i + 1) = 32 * i + 32 by omega, sm_add, show 32 * i + 32 - 32 * i = 32 by omega]
      rfl
    rw [e5]
    refine ⟨_, rfl, (g4.al nz).wr (.inl nbH) gb0 (by rw [upd_ne bz]; exact h4b), by rw [upd_ne ab, upd_ne az]; exact h4a, by rw [upd_ne br, upd_ne rz]; exact h4r, upd_same⟩
  rintro σ H4 ⟨x4, rfl, g4, h4a, h4r, h4b⟩
  refine ⟨_, rfl, a, _, dx, _, _, rfl, h4a, T.cBits, T.nBits__row, lBits2__row, r, _, rfl, .inl (SqL.of h4r), _, rfl, a, cB K, dx, fBits2 (.ref r) (.ref b), rfl, h4a, T.cBits, T.nBits_size, by show 2 < 1000; decide, ?_⟩
  rw [pBits2, List.length_map]
  refine ⟨_, rfl, a, _, dx, _, _, rfl, upd_same, T.cBits, T.nBits__before, lBits3__before, 1, rfl, ?_⟩
  have e4 : ((bp xs (nb xs.length + 1)).map V.int) = (bp xs (nb xs.length)).map V.int ++ [.int xs.sum] := by
    rw [bp_succ, List.map_append, sm_all (nb_le _)]; rfl
  have h5b : upd H4 a (.ins (cB K) dx (fBits3 (.ref r) (.ref b) (.int xs.length))) b = some (.lst ((bp xs (nb xs.length)).map V.int ++ [.int xs.sum])) := by rw [upd_ne ba.symm, ← e4]; exact h4b
  refine ⟨b, _, _, _, rfl, rfl, SqL.of h5b, atI_last _ _, _, rfl, a, cB K, dx, _, rfl, upd_same, T.cBits, T.nBits_ones, by show 3 < 1000; decide, ?_⟩
  rw [pBits3]
  have g5 : Gr (· = a) G H G (upd H4 a (.ins (cB K) dx (fBits3 (.ref r) (.ref b) (.int xs.length)))) := g4.wr (.inr rfl) ga h4a
  have g6 : Gr (· = a) G H G (upd (upd H4 a (.ins (cB K) dx (fBits3 (.ref r) (.ref b) (.int xs.length)))) a (.ins (cB K) dx (fBits (.ref r) (.ref b) (.int xs.length) (.int xs.sum)))) := g5.wr (.inr rfl) ga upd_same
  have g7 := (g6.frz nrH (o := .lst (xs.map V.int)) (by rw [upd_ne ra.symm, upd_ne ra.symm]; exact h4r)).frz nbH (o := .lst ((befs xs).map V.int)) (by rw [upd_ne ba.symm, upd_ne ba.symm]; exact h4b)
  exact q _ _ _ g7 upd_same ⟨r, b, rfl, by rw [upd_ne br, upd_same], upd_same⟩
theorem sc_Bits_rank : FnScope ["self", "i", "digit", "block", "ones"] ["self", "i", "digit"] (defScope s_Bits_rank) := ⟨rfl, rfl, rfl, by decide +kernel, rfl, by decide +kernel, by decide +kernel⟩
theorem md_Bits_rank (D : Dn K (cB K) "rank" "Bits.rank" s_Bits_rank (.int 1)) (T : Tx K mg) : Md P w K mg base (cB K) "rank" ["self", "i", "digit"] [] (k + 1) (spBitsRk K) := by
  refine mn_mk (d := .int 1) D sc_Bits_rank 3 1 rfl (fun _ _ _ _ _ _ _ us its hl hi => match us, its, hl, hi with | [_, _, _], [_], _, _ => ⟨_, rfl, rfl⟩) (fun vs H Q E h => ?_) (fun f cdv A outer s H vs Q E hr h => ?_)
  · obtain ⟨G, xs, a, i, d, rfl, _⟩ := h; rfl
  obtain ⟨G, xs, a, i, d, rfl, sg, hb, hi, q⟩ := h
  refine ⟨_, (pss_cons (ps_if (pt_not (pt_chain op_le op_le pe_int (pv 1) (pe_fld (pv 0) rfl)))
      (pss_one ps_never)
      pss_nil)
    (pss_cons (ps_set (i := 3) sc_Bits_rank.nd rfl (Or.inl rfl) (pe_op op_fdiv (pv 1) (pe_gi rfl T.BLOCK)))
    (pss_cons (ps_set (i := 4) sc_Bits_rank.nd rfl (Or.inl rfl) (pe_op op_add (pe_ix ix_list (pe_fld (pv 0) rfl) (pv 3) (fun _ _ => rfl)) (pe_callB (cr_sum rfl) (by rfl) T.sum (by decide +kernel) (pa_cons (pe_slice sl_list (pe_fld (pv 0) rfl) (po_some (pe_op op_mul (pv 3) (pe_gi rfl T.BLOCK))) (po_some (pv 1))) pa_nil))))
    (pss_cons (ps_if (pt_cmpR op_eq (pv 2) pe_int (nomark _))
      (pss_one (ps_ret (pv 4)))
      pss_nil)
    (pss_one (ps_ret (pe_op op_sub (pv 1) (pv 4)))))))), ?_⟩
  obtain ⟨h01, hz, dx, fs, ha, r, b, rfl, hr', hb'⟩ := hb
  have ha' := sg _ _ ha
  refine ⟨_, rfl, _, _, rfl, rfl, _, rfl, ?_⟩
  rw [show decide ((0 : Int) ≤ (i : Int)) = true by simp]
  refine iteT ⟨_, rfl, a, _, dx, _, _, rfl, ha', T.cBits, T.nBits_size, lBits_size, _, _, rfl, rfl, _, rfl, ?_⟩
  rw [show decide ((i : Int) ≤ ((xs.length : Nat) : Int)) = true from decide_eq_true (by omega)]
  have ei : ((i : Nat) : Int) / 32 = ((i / 32 : Nat) : Int) := by omega
  have hbi : i / 32 ≤ nb xs.length := by unfold nb; omega
  refine iteF ⟨_, rfl, (i : Nat), 32, rfl, rfl, ⟨by decide, by decide⟩, ?_⟩
  refine ⟨_, rfl, a, _, dx, _, _, rfl, ha', T.cBits, T.nBits__before, lBits__before, _, rfl, b, _, _, _, rfl, rfl, SqL.of (sg _ _ hb'), atI_n ei (map_int_get (befs_get hbi)), ?_⟩
  refine ⟨_, rfl, a, _, dx, _, _, rfl, ha', T.cBits, T.nBits__row, lBits__row, _, rfl, _, _, rfl, rfl, .inr ⟨by decide, by decide⟩, _, rfl, _, rfl, _, rfl, r, xs.map V.int, rfl, SqL.of (sg _ _ hr'), fun z nz => ?_⟩
  rw [cut_any (i := 32 * (i / 32)) (j := i) (by omega) rfl (by rw [List.length_map]; omega), ← List.map_drop, ← List.map_take]
  have s2 : Same H (upd H z (.lst (((xs.drop (32 * (i / 32))).take (i - 32 * (i / 32))).map V.int))) := Same.up nz
  refine ⟨z, _, rfl, SqL.of upd_same, _, _, rfl, rfl, _, rfl, rfl, _, rfl, ?_⟩
  have es : sm xs (32 * (i / 32)) + ((xs.drop (32 * (i / 32))).take (i - 32 * (i / 32))).sum = sm xs i := by
    rw [← sm_add, show 32 * (i / 32) + (i - 32 * (i / 32)) = i by omega]
  have qq := q _ s2
  unfold rk at qq
  rw [← es] at qq
  by_cases e1 : d = 1
  · subst e1
    rw [if_pos rfl] at qq
    exact iteT ⟨_, rfl, qq⟩
  · rw [if_neg e1] at qq
    rw [show decide (V.int d = V.int 1) = false from decide_eq_false (fun z => e1 (by injection z))]
    exact iteF ⟨_, rfl, _, rfl, _, _, rfl, rfl, qq⟩
theorem sc_Bits_select : FnScope ["self", "k", "digit", "low", "high", "middle", "left", "place"] ["self", "k", "digit"] (defScope s_Bits_select) := ⟨rfl, rfl, rfl, by decide +kernel, rfl, by decide +kernel, by decide +kernel⟩
theorem md_Bits_select (D : Dn K (cB K) "select" "Bits.select" s_Bits_select (.int 1)) (T : Tx K mg) (h_Bits_rank : Md P w K mg base (cB K) "rank" ["self", "i", "digit"] [] k (spBitsRk K)) (h_Bits_before_block : Md P w K mg base (cB K) "before_block" ["self", "block", "digit"] [] k (spBitsBb K)) :
    Md P w K mg base (cB K) "select" ["self", "k", "digit"] [.int 1] (k + 1) (spBitsSel K) := by
  refine mn_mk (d := .int 1) D sc_Bits_select 2 0 rfl (fun _ _ _ _ _ _ _ us its hl hi => match us, its, hl, hi with | [_, _], [_], _, _ => ⟨_, rfl, rfl⟩) (fun vs H Q E h => ?_) (fun f cdv A outer s H vs Q E hr h => ?_)
  · obtain ⟨G, xs, a, i, d, rfl, _⟩ := h; rfl
  obtain ⟨G, xs, a, n, p, rfl, sg, hb, hp, hk, q⟩ := h
  refine ⟨_, (pss_cons (ps_if (pt_cmpR op_lt (pv 1) pe_int (nomark _))
      (pss_one ps_never)
      pss_nil)
    (pss_cons (ps_if (pt_cmpR op_ge (pv 1) (pe_md h_Bits_rank T.cBits hr (pv 0) (pa_cons (pe_fld (pv 0) rfl) (pa_cons (pv 2) pa_nil))) (nomark _))
      (pss_one (ps_ret pe_non))
      pss_nil)
    (pss_cons (ps_set (i := 3) sc_Bits_select.nd rfl (Or.inl rfl) pe_int)
    (pss_cons (ps_set (i := 4) sc_Bits_select.nd rfl (Or.inl rfl) (pe_op op_sub (pe_callB call_len_seq (by rfl) T.len (by decide +kernel) (pa_cons (pe_fld (pv 0) rfl) pa_nil)) pe_int))
    (pss_cons (ps_while PassesOwn.never (pt_cmpR op_gt (pe_op op_sub (pv 4) (pv 3)) pe_int (nomark _))
      (pss_cons (ps_set (i := 5) sc_Bits_select.nd rfl (Or.inl rfl) (pe_op op_fdiv (pe_op op_add (pv 3) (pv 4)) pe_int))
      (pss_one (ps_if (pt_cmpR op_le (pe_md h_Bits_before_block T.cBits hr (pv 0) (pa_cons (pv 5) (pa_cons (pv 2) pa_nil))) (pv 1) (nomark _))
        (pss_one (ps_set (i := 3) sc_Bits_select.nd rfl (Or.inl rfl) (pv 5)))
        (pss_one (ps_set (i := 4) sc_Bits_select.nd rfl (Or.inl rfl) (pv 5)))))))
    (pss_cons (ps_set (i := 6) sc_Bits_select.nd rfl (Or.inl rfl) (pe_op op_sub (pv 1) (pe_md h_Bits_before_block T.cBits hr (pv 0) (pa_cons (pv 3) (pa_cons (pv 2) pa_nil)))))
    (pss_cons (ps_set (i := 7) sc_Bits_select.nd rfl (Or.inl rfl) (pe_op op_mul (pv 3) (pe_gi rfl T.BLOCK)))
    (pss_cons (ps_while PassesOwn.never (PW.pt (pw_or (pt_cmpR op_ne (pe_ix ix_list (pe_fld (pv 0) rfl) (pv 7) (fun _ _ => rfl)) (pv 2) (nomark _)) (pw_or1 (pt_cmpR op_gt (pv 6) pe_int (nomark _)))))
      (pss_cons (ps_aug (i := 6) sc_Bits_select.nd rfl (Or.inl rfl) (pe_callTy call_int1 (by rfl) T.int (by decide +kernel) (pa_cons (pe_cmpR op_eq (pe_ix ix_list (pe_fld (pv 0) rfl) (pv 7) (fun _ _ => rfl)) (pv 2) (nomark _)) pa_nil)) ip_sub)
      (pss_one (ps_aug (i := 7) sc_Bits_select.nd rfl (Or.inl rfl) pe_int ip_add))))
    (pss_one (ps_ret (pv 7))))))))))), ?_⟩
  obtain ⟨h01, hz, dx, fs, ha, r, b, rfl, hr', hb'⟩ := id hb
  have hlt : p < xs.length := (List.getElem?_eq_some_iff.mp hp).1
  have hps : sm xs (p + 1) = n + 1 := by rw [sm_succ hp, hk]
  have hall : ((n : Nat) : Int) + 1 ≤ sm xs xs.length := by rw [← hps]; exact sm_mono h01 (by omega)
  refine ⟨_, rfl, _, _, rfl, rfl, _, rfl, ?_⟩
  rw [show decide (((n : Nat) : Int) < 0) = false from decide_eq_false (by omega)]
  refine iteF ⟨_, rfl, _, rfl, a, dx, _, rfl, sg _ _ ha, lBits_no_rank, _, rfl, a, _, dx, _, _, rfl, sg _ _ ha, T.cBits, T.nBits_size, lBits_size, _, rfl, G, xs, a, xs.length, 1, rfl, sg, hb, Nat.le_refl _, fun H1 s1 => ?_⟩
  refine ⟨_, _, rfl, rfl, _, rfl, ?_⟩
  rw [show decide (rk xs 1 xs.length ≤ ((n : Nat) : Int)) = false from decide_eq_false (by rw [rk, if_pos rfl]; omega)]
  have g1 : Same G H1 := sg.trans s1
  have ha1 := g1 _ _ ha
  refine iteF ⟨_, rfl, a, _, dx, _, _, rfl, ha1, T.cBits, T.nBits__before, lBits__before, b, _, rfl, .inl (SqL.of (g1 _ _ hb')), _, _, rfl, rfl, ?_⟩
  refine ⟨fun m σ H2 => ∃ (lo hi : Nat) (x5 : Option V), σ = [some (.ref a), some (.int n), some (.int 1), some (.int (lo : Nat)), some (.int (hi : Nat)), x5, none, none] ∧ Same H1 H2 ∧ lo < hi ∧ hi ≤ nb xs.length ∧ 32 * lo ≤ p ∧ p < 32 * hi ∧ m = hi - lo,
    ⟨_, 0, nb xs.length, none, ?_, Same.refl H1, ?_, Nat.le_refl _, by omega, ?_, rfl⟩, ?_⟩
  · have e : (((befs xs).map V.int).length : Int) - 1 = nb xs.length := by rw [List.length_map, befs_len]; omega
    show [some (V.ref a), some (V.int n), some (.int 1), some (.int 0), some (.int ((((befs xs).map V.int).length : Int) - 1)), none, none, none] = _
    rw [e]
    rfl
  · unfold nb; omega
  · have := nb_le xs.length; omega
  rintro m σ H2 ⟨lo, hi, x5, rfl, s2, hlh, hhi, hlo, hph, rfl⟩
  have g2 := g1.trans s2
  have ha2 := g2 _ _ ha
  have hmid : ((lo : Int) + (hi : Int)) / 2 = (((lo + hi) / 2 : Nat) : Int) := by omega
  refine ⟨_, rfl, _, rfl, _, _, rfl, rfl, _, _, rfl, rfl, _, rfl, ?_⟩
  by_cases hw : hi - lo ≤ 1
  · rw [show decide ((1 : Int) < (hi : Int) - (lo : Int)) = false from decide_eq_false (by omega)]
    refine iteF ⟨_, rfl, _, rfl, a, dx, _, rfl, ha2, lBits_no_before_block, _, rfl, _, rfl, G, xs, a, lo, rfl, g2, hb, by omega, _, _, rfl, rfl, _, rfl, (lo : Nat), 32, rfl, rfl, .inr ⟨by decide, by decide⟩, ?_⟩
    refine ⟨fun m σ H3 => ∃ (pl : Nat) (x3 x4 x5 : Option V), σ = [some (.ref a), some (.int n), some (.int 1), x3, x4, x5, some (.int (n - sm xs pl)), some (.int (pl : Nat))] ∧ Same H2 H3 ∧ pl ≤ p ∧ m = p - pl,
      ⟨_, 32 * lo, some (.int lo), some (.int hi), x5, ?_, Same.refl H2, hlo, rfl⟩, ?_⟩
    · show [some (V.ref a), some (V.int n), some (.int 1), some (.int lo), some (.int hi), x5, some (.int (n - sm xs (32 * lo))), some (.int ((lo : Int) * 32))] = _
      rw [show (lo : Int) * 32 = ((32 * lo : Nat) : Int) by omega]
    rintro m σ H3 ⟨pl, x3, x4, x5, rfl, s3, hpl, rfl⟩
    have g3 := g2.trans s3
    have ha3 := g3 _ _ ha
    have hpx : pl < xs.length := by omega
    have hx := List.getElem?_eq_getElem hpx
    refine ⟨_, rfl, a, _, dx, _, _, rfl, ha3, T.cBits, T.nBits__row, lBits__row, _, rfl, r, _, _, _, rfl, rfl, SqL.of (g3 _ _ hr'), atI_n rfl (map_int_get hx), _, rfl, rfl, _, rfl, ?_⟩
    rcases Nat.lt_or_ge pl p with hlt' | hge
    · have hsm := sm_succ hx
      have hmo : sm xs (pl + 1) ≤ n := by rw [← hk]; exact sm_mono h01 hlt'
      rcases h01 _ (List.getElem_mem hpx) with h0 | h0
      · rw [show (!decide (V.int xs[pl] = V.int 1)) = true from by rw [h0]; rfl]
        refine iteT (iteT ⟨fun σ' H' => ∃ m', m' < p - pl ∧ _, fun _ _ h => h, ?_⟩)
        refine ⟨_, rfl, _, rfl, a, _, dx, _, _, rfl, ha3, T.cBits, T.nBits__row, lBits__row, _, rfl, r, _, _, _, rfl, rfl, SqL.of (g3 _ _ hr'), atI_n rfl (map_int_get hx), _, rfl, rfl, .inr ⟨_, rfl, _, _, rfl, rfl, ?_⟩⟩
        refine ⟨_, rfl, _, _, rfl, rfl, p - (pl + 1), by omega, pl + 1, x3, x4, x5, ?_, s3, hlt', rfl⟩
        show [_, _, _, _, _, _, some (V.int ((n : Int) - sm xs pl - (if decide (V.int xs[pl] = V.int 1) = true then 1 else 0))), some (V.int ((pl : Int) + 1))] = _
        rw [show decide (V.int xs[pl] = V.int 1) = false from by rw [h0]; rfl, hsm, h0, if_neg Bool.false_ne_true, Int.sub_zero, Int.add_zero]
        rfl
      · rw [show (!decide (V.int xs[pl] = V.int 1)) = false from by rw [h0]; rfl]
        refine iteF ⟨_, rfl, _, _, rfl, rfl, _, rfl, ?_⟩
        rw [show decide ((0 : Int) < (n : Int) - sm xs pl) = true from decide_eq_true (by omega)]
        refine iteT ⟨fun σ' H' => ∃ m', m' < p - pl ∧ _, fun _ _ h => h, ?_⟩
        refine ⟨_, rfl, _, rfl, a, _, dx, _, _, rfl, ha3, T.cBits, T.nBits__row, lBits__row, _, rfl, r, _, _, _, rfl, rfl, SqL.of (g3 _ _ hr'), atI_n rfl (map_int_get hx), _, rfl, rfl, .inr ⟨_, rfl, _, _, rfl, rfl, ?_⟩⟩
        refine ⟨_, rfl, _, _, rfl, rfl, p - (pl + 1), by omega, pl + 1, x3, x4, x5, ?_, s3, hlt', rfl⟩
        show [_, _, _, _, _, _, some (V.int ((n : Int) - sm xs pl - (if decide (V.int xs[pl] = V.int 1) = true then 1 else 0))), some (V.int ((pl : Int) + 1))] = _
        rw [show decide (V.int xs[pl] = V.int 1) = true from by rw [h0]; rfl, hsm, h0, if_pos rfl, show (n : Int) - sm xs pl - 1 = n - (sm xs pl + 1) by omega]
        rfl
    · have : pl = p := by omega
      subst this
      have h1 : xs[pl] = 1 := by rw [hx] at hp; exact Option.some.inj hp
      rw [show (!decide (V.int xs[pl] = V.int 1)) = false from by rw [h1]; rfl]
      refine iteF ⟨_, rfl, _, _, rfl, rfl, _, rfl, ?_⟩
      rw [show decide ((0 : Int) < (n : Int) - sm xs pl) = false from decide_eq_false (by omega)]
      exact iteF ⟨_, rfl, q H3 (s1.trans (s2.trans s3))⟩
  · rw [show decide ((1 : Int) < (hi : Int) - (lo : Int)) = true from decide_eq_true (by omega)]
    refine iteT ⟨fun σ' H' => ∃ m', m' < hi - lo ∧ _, fun _ _ h => h, ?_⟩
    refine ⟨_, rfl, _, rfl, _, _, rfl, rfl, _, _, rfl, rfl, ⟨by decide, by decide⟩, _, rfl, a, dx, _, rfl, ha2, lBits_no_before_block, _, rfl, _, rfl, G, xs, a, (lo + hi) / 2, ?_, g2, hb, by omega, ?_⟩
    · show [V.ref a, .int (((lo : Int) + (hi : Int)) / 2), .int 1] = _
      rw [hmid]
    refine ⟨_, rfl, _, _, rfl, rfl, _, rfl, ?_⟩
    have hset : some (V.int (((lo : Int) + (hi : Int)) / 2)) = some (V.int (((lo + hi) / 2 : Nat) : Int)) := by rw [hmid]
    by_cases hm : 32 * ((lo + hi) / 2) ≤ p
    · have : sm xs (32 * ((lo + hi) / 2)) ≤ n := by rw [← hk]; exact sm_mono h01 hm
      rw [show decide (sm xs (32 * ((lo + hi) / 2)) ≤ (n : Int)) = true from decide_eq_true this]
      refine iteT ⟨_, rfl, hi - (lo + hi) / 2, by omega, (lo + hi) / 2, hi, some (.int (((lo + hi) / 2 : Nat) : Int)), ?_, s2, by omega, hhi, hm, hph, rfl⟩
      show [_, _, _, some (V.int (((lo : Int) + (hi : Int)) / 2)), _, some (V.int (((lo : Int) + (hi : Int)) / 2)), _, _] = _
      rw [hset]
    · have : (n : Int) + 1 ≤ sm xs (32 * ((lo + hi) / 2)) := by rw [← hps]; exact sm_mono h01 (by omega)
      rw [show decide (sm xs (32 * ((lo + hi) / 2)) ≤ (n : Int)) = false from decide_eq_false (by omega)]
      refine iteF ⟨_, rfl, (lo + hi) / 2 - lo, by omega, lo, (lo + hi) / 2, some (.int (((lo + hi) / 2 : Nat) : Int)), ?_, s2, by omega, by omega, hlo, by omega, rfl⟩
      show [_, _, _, _, some (V.int (((lo : Int) + (hi : Int)) / 2)), some (V.int (((lo : Int) + (hi : Int)) / 2)), _, _] = _
      rw [hset]
end
end K5
set_option Elab.async false
set_option linter.all false
set_option maxRecDepth 100000
set_option maxHeartbeats 4000000
namespace K5
open PySem PySem.Spec PyProof.Rows L2
/-! ### rows of symbols, plainly -/
abbrev nV (x : Nat) : V := .int ((x : Nat) : Int)
abbrev vN (xs : List Nat) : List V := xs.map nV
theorem vN_get {xs : List Nat} {i x : Nat} (h : xs[i]? = some x) : (vN xs)[i]? = some (nV x) := by rw [List.getElem?_map, h]; rfl
/-- the bit of x at sh -/
def bt (sh x : Nat) : Nat := x / 2 ^ sh % 2
theorem bt_01 (sh x : Nat) : bt sh x = 0 ∨ bt sh x = 1 := by unfold bt; omega
theorem bt_V (sh x : Nat) : Builtin.bitAnd ((x : Int) / 2 ^ sh) 1 = ((bt sh x : Nat) : Int) := by
  rw [bitAnd_m1]
  unfold bt
  rw [Int.natCast_emod, Int.natCast_ediv, Int.natCast_pow]
  rfl
def dgs (sh : Nat) (R : List Nat) : List Int := R.map fun x => ((bt sh x : Nat) : Int)
theorem dgs_bt (sh : Nat) (R : List Nat) : Bt (dgs sh R) := fun x hx => by
  obtain ⟨y, _, rfl⟩ := List.mem_map.mp hx
  rcases bt_01 sh y with h | h <;> rw [h]
  · exact .inl rfl
  · exact .inr rfl
theorem dgs_len (sh : Nat) (R : List Nat) : (dgs sh R).length = R.length := by simp [dgs]
/-- those with the bit d -/
def pd (sh d : Nat) (R : List Nat) : List Nat := R.filter fun x => bt sh x == d
def nx (sh : Nat) (R : List Nat) : List Nat := pd sh 0 R ++ pd sh 1 R
theorem pd_app (sh d : Nat) (A B : List Nat) : pd sh d (A ++ B) = pd sh d A ++ pd sh d B := by simp [pd]
theorem sm_dgs1 (sh : Nat) : ∀ R : List Nat, (dgs sh R).sum = ((pd sh 1 R).length : Int)
  | [] => rfl
  | x :: R => by
    have ih := sm_dgs1 sh R
    unfold dgs pd at *
    rw [List.map_cons, List.sum_cons, ih, List.filter_cons]
    rcases bt_01 sh x with h | h <;> rw [h]
    · simp
    · simp; omega
theorem pd_len01 (sh : Nat) : ∀ R : List Nat, (pd sh 0 R).length + (pd sh 1 R).length = R.length
  | [] => rfl
  | x :: R => by
    have ih := pd_len01 sh R
    unfold pd at *
    rw [List.filter_cons, List.filter_cons]
    rcases bt_01 sh x with h | h <;> rw [h] <;> simp <;> omega
theorem sm_dgs (sh : Nat) (R : List Nat) (p : Nat) : sm (dgs sh R) p = ((pd sh 1 (R.take p)).length : Int) := by
  rw [← sm_dgs1]
  unfold sm dgs
  rw [List.map_take]
theorem rk_1 (sh : Nat) (R : List Nat) (p : Nat) : rk (dgs sh R) 1 p = ((pd sh 1 (R.take p)).length : Int) := by rw [rk, if_pos rfl, sm_dgs]
theorem rk_0 (sh : Nat) (R : List Nat) (p : Nat) (h : p ≤ R.length) : rk (dgs sh R) 0 p = ((pd sh 0 (R.take p)).length : Int) := by
  rw [rk, if_neg (by decide), sm_dgs]
  have := pd_len01 sh (R.take p)
  rw [List.length_take, Nat.min_eq_left h] at this
  omega
/-- where the place p comes to -/
def blw (sh d : Nat) (R : List Nat) (p : Nat) : Nat := if d = 0 then (pd sh 0 (R.take p)).length else (pd sh 0 R).length + (pd sh 1 (R.take p)).length
theorem nx_len (sh : Nat) (R : List Nat) : (nx sh R).length = R.length := by unfold nx; rw [List.length_append, pd_len01]
theorem blw_at (sh : Nat) {R : List Nat} {p s : Nat} (h : R[p]? = some s) : (nx sh R)[blw sh (bt sh s) R p]? = some s := by
  have hlt := (List.getElem?_eq_some_iff.mp h).1
  have e : R = R.take p ++ s :: R.drop (p + 1) := by
    have h2 : R[p] = s := (List.getElem?_eq_some_iff.mp h).2
    rw [← h2, List.getElem_cons_drop, List.take_append_drop]
  have e2 : ∀ d, bt sh s = d → (pd sh d R)[(pd sh d (R.take p)).length]? = some s := fun d hd => by
    have e3 : pd sh d R = pd sh d (R.take p) ++ s :: pd sh d (R.drop (p + 1)) := by
      conv => lhs; rw [e]
      rw [pd_app]
      congr 1
      unfold pd
      rw [List.filter_cons, hd, if_pos (by simp)]
    rw [e3, List.getElem?_append_right (Nat.le_refl _), Nat.sub_self]
    rfl
  unfold nx blw
  rcases bt_01 sh s with hb | hb
  · rw [hb, if_pos rfl]
    have := e2 0 hb
    rw [List.getElem?_append_left (List.getElem?_eq_some_iff.mp this).1]
    exact this
  · rw [hb, if_neg (by decide)]
    have := e2 1 hb
    rw [List.getElem?_append_right (by omega), show (pd sh 0 R).length + (pd sh 1 (R.take p)).length - (pd sh 0 R).length = (pd sh 1 (R.take p)).length by omega]
    exact this
/-- the stretch of those with the bit d -/
theorem blw_cut (sh : Nat) {d : Nat} (hd : d = 0 ∨ d = 1) {R : List Nat} {f b : Nat} (hf : f ≤ b) (hb : b ≤ R.length) :
    blw sh d R f ≤ blw sh d R b ∧ blw sh d R b ≤ (nx sh R).length ∧ ((nx sh R).drop (blw sh d R f)).take (blw sh d R b - blw sh d R f) = pd sh d ((R.drop f).take (b - f)) := by
  have e1 : R.take b = R.take f ++ (R.drop f).take (b - f) := by
    rw [← List.take_add, Nat.add_sub_cancel' hf]
  have e2 : R = R.take b ++ R.drop b := (List.take_append_drop b R).symm
  have e3 : ∀ d, pd sh d R = pd sh d (R.take f) ++ (pd sh d ((R.drop f).take (b - f)) ++ pd sh d (R.drop b)) := fun d => by
    conv => lhs; rw [e2, e1]
    rw [pd_app, pd_app, List.append_assoc]
  have e4 : ∀ d, (pd sh d (R.take b)).length = (pd sh d (R.take f)).length + (pd sh d ((R.drop f).take (b - f))).length := fun d => by
    rw [e1, pd_app, List.length_append]
  have cut : ∀ (A B C : List Nat) (n m : Nat), n = A.length → m = n + B.length → ((A ++ (B ++ C)).drop n).take (m - n) = B := fun A B C n m h1 h2 => by
    subst h1 h2
    rw [List.drop_left, Nat.add_sub_cancel_left, List.take_left]
  rcases hd with rfl | rfl
  · unfold blw nx
    rw [if_pos rfl, if_pos rfl, e4 0]
    refine ⟨by omega, ?_, ?_⟩
    · rw [List.length_append, e3 0, List.length_append, List.length_append]; omega
    · conv => lhs; rw [e3 0]
      rw [List.append_assoc, List.append_assoc]
      exact cut _ _ _ _ _ rfl rfl
  · unfold blw nx
    rw [if_neg (by decide), if_neg (by decide), e4 1]
    refine ⟨by omega, ?_, ?_⟩
    · rw [List.length_append, e3 1, List.length_append, List.length_append]; omega
    · have e5 : pd sh 0 R ++ pd sh 1 R = (pd sh 0 R ++ pd sh 1 (R.take f)) ++ (pd sh 1 ((R.drop f).take (b - f)) ++ pd sh 1 (R.drop b)) := by
        rw [List.append_assoc, ← e3 1]
      rw [e5]
      exact cut _ _ _ _ _ (by rw [List.length_append]) (by omega)
/-- the row of the level i, of n -/
def rst (R : List Nat) (n : Nat) : Nat → List Nat
  | 0 => R
  | i + 1 => nx (n - 1 - i) (rst R n i)
theorem rst_len (R : List Nat) (n : Nat) : ∀ i, (rst R n i).length = R.length
  | 0 => rfl
  | i + 1 => by rw [rst, nx_len, rst_len R n i]
theorem two_step (sh x : Nat) : x / 2 ^ sh = 2 * (x / 2 ^ (sh + 1)) + bt sh x := by
  unfold bt
  rw [Nat.pow_succ, ← Nat.div_div_eq_div_mul]
  omega
/-- how many bits the symbols below z have -/
def bl (z : Nat) : Nat := Builtin.Int.intBits ((z : Int) - 1)
theorem bl_lt {x z : Nat} (h : x < z) : x < 2 ^ bl z := by
  unfold bl Builtin.Int.intBits
  by_cases hz : z = 1
  · subst hz
    have : x = 0 := by omega
    subst this
    exact Nat.two_pow_pos _
  · have e : ((z : Int) - 1 == 0) = false := by simp; omega
    rw [e, if_neg Bool.false_ne_true, show ((z : Int) - 1).natAbs = z - 1 by omega]
    have := @Nat.lt_log2_self (z - 1)
    omega
theorem bl_le {z : Nat} (h : z ≤ 65536) : bl z ≤ 17 := by
  unfold bl Builtin.Int.intBits
  split
  · omega
  · have h2 : ((z : Int) - 1).natAbs < 2 ^ 17 := by
      have : (2 : Nat) ^ 17 = 131072 := by decide
      omega
    have h3 : ((z : Int) - 1).natAbs ≠ 0 := by
      intro e
      rename_i hn
      apply hn
      simp
      omega
    have := (Nat.log2_lt h3).mpr h2
    omega
/-- the places of one symbol s: the way through the levels -/
def wpl (R : List Nat) (n s p : Nat) : Nat → Nat
  | 0 => p
  | i + 1 => blw (n - 1 - i) (bt (n - 1 - i) s) (rst R n i) (wpl R n s p i)
theorem wpl_at {R : List Nat} {n s p : Nat} (h : R[p]? = some s) : ∀ i, (rst R n i)[wpl R n s p i]? = some s
  | 0 => h
  | i + 1 => blw_at _ (wpl_at h i)
/-- the stretch that comes of [0, b) on the level i -/
theorem wpl_cut {R : List Nat} {n s b : Nat} (hb : b ≤ R.length) (hR : ∀ x ∈ R, x < 2 ^ n) (hs : s < 2 ^ n) : ∀ i, i ≤ n → wpl R n s 0 i ≤ wpl R n s b i ∧ wpl R n s b i ≤ R.length ∧
    ((rst R n i).drop (wpl R n s 0 i)).take (wpl R n s b i - wpl R n s 0 i) = (R.take b).filter fun x => x / 2 ^ (n - i) == s / 2 ^ (n - i)
  | 0, _ => by
    refine ⟨Nat.zero_le _, hb, ?_⟩
    show (R.drop 0).take (b - 0) = _
    rw [List.drop_zero, Nat.sub_zero, Nat.sub_zero]
    refine (List.filter_eq_self.mpr fun x hx => ?_).symm
    rw [Nat.div_eq_of_lt (hR x (List.mem_of_mem_take hx)), Nat.div_eq_of_lt hs]
    rfl
  | i + 1, hi => by
    obtain ⟨h1, h2, h3⟩ := wpl_cut hb hR hs i (by omega)
    obtain ⟨k1, k2, k3⟩ := blw_cut (n - 1 - i) (bt_01 (n - 1 - i) s) (R := rst R n i) h1 (by rw [rst_len]; exact h2)
    refine ⟨k1, ?_, ?_⟩
    · rw [nx_len, rst_len] at k2; exact k2
    · show ((nx (n - 1 - i) (rst R n i)).drop (blw _ _ _ _)).take (blw _ _ _ _ - blw _ _ _ _) = _
      rw [k3, h3]
      unfold pd
      rw [List.filter_filter]
      congr 1
      funext x
      have e1 := two_step (n - 1 - i) x
      have e2 := two_step (n - 1 - i) s
      rw [show n - 1 - i + 1 = n - i by omega] at e1 e2
      rw [show n - (i + 1) = n - 1 - i by omega, e1, e2]
      have b1 := bt_01 (n - 1 - i) x
      have b2 := bt_01 (n - 1 - i) s
      rw [Bool.eq_iff_iff, Bool.and_eq_true, beq_iff_eq, beq_iff_eq, beq_iff_eq]
      omega
theorem wpl_cnt {R : List Nat} {n s b : Nat} (hb : b ≤ R.length) (hR : ∀ x ∈ R, x < 2 ^ n) (hs : s < 2 ^ n) : wpl R n s b n - wpl R n s 0 n = (R.take b).count s ∧ wpl R n s 0 n ≤ wpl R n s b n := by
  obtain ⟨h1, h2, h3⟩ := wpl_cut hb hR hs n (Nat.le_refl _)
  refine ⟨?_, h1⟩
  have := congrArg List.length h3
  rw [List.length_take, List.length_drop, rst_len, Nat.min_eq_left (by omega)] at this
  rw [this, List.count_eq_countP, List.countP_eq_length_filter]
  congr 2
  funext x
  rw [Nat.sub_self, Nat.pow_zero, Nat.div_one, Nat.div_one]
end K5
set_option Elab.async false
set_option linter.all false
set_option maxRecDepth 100000
set_option maxHeartbeats 4000000
namespace K5
open PySem PySem.Spec PyProof.Rows L2
/-! ### waves -/
abbrev cWv (K : PySem.W.Frag) : Addr := He.ga K "Wave"
def WaveP (K : PySem.W.Frag) (G : Hp) (R : List Nat) (z : Nat) (fs : List (Str × V)) : Prop := ∃ (lv : Addr) (as : List Addr), fs = fWave (nV z) (nV R.length) (.ref lv) ∧ G lv = some (.lst (as.map V.ref)) ∧ as.length = bl z ∧
  ∀ i a, as[i]? = some a → IsBits K G (dgs (bl z - 1 - i) (rst R (bl z) i)) a
def IsWave (K : PySem.W.Frag) (G : Hp) (R : List Nat) (z : Nat) (a : Addr) : Prop := (∀ x ∈ R, x < z) ∧ 1 ≤ z ∧ z ≤ 65536 ∧ R.length ≤ 100000 ∧ ∃ dx fs, G a = some (.ins (cWv K) dx fs) ∧ WaveP K G R z fs
theorem WaveP.mono {K : PySem.W.Frag} {G G' : Hp} {R : List Nat} {z : Nat} {fs : List (Str × V)} (s : Same G G') (h : WaveP K G R z fs) : WaveP K G' R z fs := by
  obtain ⟨lv, as, e, h1, h2, h3⟩ := h
  exact ⟨lv, as, e, s _ _ h1, h2, fun i a hi => (h3 i a hi).mono s⟩
theorem IsWave.mono {K : PySem.W.Frag} {G G' : Hp} {R : List Nat} {z : Nat} {a : Addr} (s : Same G G') (h : IsWave K G R z a) : IsWave K G' R z a := by
  obtain ⟨h1, h2, h3, h4, dx, fs, h5, h6⟩ := h
  exact ⟨h1, h2, h3, h4, dx, fs, s _ _ h5, h6.mono s⟩
def spBelow (K : PySem.W.Frag) : Sp := fun vs H Q _ => ∃ (G : Hp) (sh d : Nat) (R : List Nat) (a : Addr) (p : Nat), vs = [.ref a, nV p, nV d] ∧ Same G H ∧ IsBits K G (dgs sh R) a ∧ p ≤ R.length ∧ (d = 0 ∨ d = 1) ∧ ∀ H', Same H H' → Q (nV (blw sh d R p)) H'
def spParted : Sp := fun vs H Q _ => ∃ (sh d : Nat) (R : List Nat) (l ld : Addr), vs = [.ref l, .ref ld, nV d] ∧ H l = some (.lst (vN R)) ∧ H ld = some (.lst ((dgs sh R).map V.int)) ∧ R.length ≤ 100000 ∧ ∀ p H', Same H H' → H p = none → H' p = some (.lst (vN (pd sh d R))) → Q (.ref p) H'
def spWaveI (K : PySem.W.Frag) : Sp := fun vs H Q _ => ∃ (G : Hp) (R : List Nat) (z : Nat) (a dx l : Addr), vs = [.ref a, .ref l, nV z] ∧ Same G H ∧ G a = none ∧ H a = some (.ins (cWv K) dx []) ∧ H l = some (.lst (vN R)) ∧ (∀ x ∈ R, x < z) ∧ 1 ≤ z ∧ z ≤ 65536 ∧ R.length ≤ 100000 ∧
  ∀ G' fs H', Gr (· = a) G H G' H' → H' a = some (.ins (cWv K) dx fs) → WaveP K G' R z fs → Q .non H'
def spWaveAt (K : PySem.W.Frag) : Sp := fun vs H Q _ => ∃ (G : Hp) (R : List Nat) (z : Nat) (a : Addr) (p s : Nat), vs = [.ref a, nV p] ∧ Same G H ∧ IsWave K G R z a ∧ R[p]? = some s ∧ ∀ H', Same H H' → Q (nV s) H'
def spWaveDg (K : PySem.W.Frag) : Sp := fun vs H Q _ => ∃ (G : Hp) (R : List Nat) (z : Nat) (a : Addr) (s : Nat), vs = [.ref a, nV s] ∧ Same G H ∧ IsWave K G R z a ∧ s < z ∧ ∀ p H', Same H H' → H p = none → H' p = some (.lst ((List.range (bl z)).map fun i => nV (bt (bl z - 1 - i) s))) → Q (.ref p) H'
def spWaveEn (K : PySem.W.Frag) : Sp := fun vs H Q _ => ∃ (G : Hp) (R : List Nat) (z : Nat) (a : Addr) (s b : Nat), vs = [.ref a, nV s, nV 0, nV b] ∧ Same G H ∧ IsWave K G R z a ∧ s < z ∧ b ≤ R.length ∧ ∀ p H', Same H H' → H p = none → H' p = some (.tup [nV (wpl R (bl z) s 0 (bl z)), nV (wpl R (bl z) s b (bl z))]) → Q (.ref p) H'
def spWaveRk (K : PySem.W.Frag) : Sp := fun vs H Q _ => ∃ (G : Hp) (R : List Nat) (z : Nat) (a : Addr) (s b : Nat), vs = [.ref a, nV s, nV b] ∧ Same G H ∧ IsWave K G R z a ∧ s < z ∧ b ≤ R.length ∧ ∀ H', Same H H' → Q (nV ((R.take b).count s)) H'
theorem map_get {α β : Type} {f : α → β} {xs : List α} {i : Nat} {y : β} (h : (xs.map f)[i]? = some y) : ∃ x, xs[i]? = some x ∧ y = f x := by
  rw [List.getElem?_map] at h
  cases e : xs[i]? with
  | none => rw [e] at h; cases h
  | some x => rw [e] at h; exact ⟨x, rfl, (Option.some.inj h).symm⟩
theorem flt_list {α β : Type} (d : α) (xs : List α) (p : α → Bool) (f : α → β) : ((List.range xs.length).filter fun i => p (xs.getD i d)).map (fun i => f (xs.getD i d)) = (xs.filter p).map f := by
  have e : (List.range xs.length).map (fun i => xs.getD i d) = xs := by
    refine List.ext_getElem? fun i => ?_
    rw [List.getElem?_map]
    rcases Nat.lt_or_ge i xs.length with h | h
    · rw [List.getElem?_range h]
      simp [h]
    · rw [List.getElem?_eq_none (by simpa using h), List.getElem?_eq_none (by simpa using h)]
      rfl
  conv => rhs; rw [← e]
  rw [List.filter_map, List.map_map]
  rfl
/-- a comprehension without a test: the i-th item is v i -/
theorem lc_map {J : It} {n : Nat} {Gd : Hp → Prop} {Y : Nat → Hp → V → Hp → Prop} (w : Walk J n Gd Y) {g : TG} {tt : TT} {te : TE} {vs : List Nat} {σ : L2.St} {G0 H1 : Hp} {D : Addr} {Qd : Hp → Prop} (hD : H1 D = none) (s0 : Same G0 H1)
    (hG : ∀ G H, Gr W0 G0 H1 G H → Gd H) (v : Nat → V) (hn : n ≤ 1000000)
    (hs : ∀ i x G H H' (K : VK) (Z : Hp → Prop), i < n → Gr W0 G0 H1 G H → G D = none → Y i H x H' → (∀ G' H4, Gr W0 G H G' H4 → K (v i) H4) →
      g x (wipe σ vs) H' fun σ2 H2 => wipe σ2 vs = wipe σ vs ∧ tt σ2 H2 fun b H3 => if b = true then te σ2 H3 K else Z H3)
    (hd : ∀ G H, Gr W0 G0 H1 G H → H D = some (.lst ((List.range n).map v)) → G D = none → Qd H) :
    ∃ W : Nat → Nat → Hp → Prop, (∃ m, W 0 m (upd H1 D (.lst []))) ∧ ∀ i m H, W i m H →
      (J.stop i H ∧ Qd H) ∨ (J.go i H ∧ ∃ Nx : Hp → Prop, (∀ H', Nx H' → ∃ m', m' < m ∧ W (i + 1) m' H') ∧ ∀ x H', J.yld i H x H' → g x (wipe σ vs) H' fun σ2 H2 => wipe σ2 vs = wipe σ vs ∧ tt σ2 H2 fun b H3 =>
        if b = true then te σ2 H3 fun y H4 => ∃ acc, H4 D = some (.lst acc) ∧ acc.length < sizeLine ∧ Nx (upd H4 D (.lst (acc ++ [y]))) else Nx H3) :=
  lc_flt w hD s0 hG (fun _ => true) v hn (fun i x G H H' K Z hi gr gD y yes _ => hs i x G H H' K Z hi gr gD y fun G' H4 g => yes G' H4 rfl g) (fun G H gr h gD => hd G H gr (by rw [h, List.filter_eq_self.mpr fun _ _ => rfl]) gD)
theorem map_range_getD {α β : Type} (d : α) (xs : List α) (f : α → β) : (List.range xs.length).map (fun i => f (xs.getD i d)) = xs.map f := by
  refine List.ext_getElem? fun i => ?_
  rw [List.getElem?_map, List.getElem?_map]
  rcases Nat.lt_or_ge i xs.length with h | h
  · rw [List.getElem?_range h]
    simp [h]
  · rw [List.getElem?_eq_none (by simpa using h), List.getElem?_eq_none h]
    rfl
section
variable {P : Program} {w : World} {K : PySem.W.Frag} {mg : Str → Option Value} {base : Heap} {k : Nat}
/-- Bits(..), made -/
theorem mkBits {G H : Hp} {l x dx : Addr} {xs : List Int} {Q : VK} {E : XK} (nx' : H x = none) (nd : H dx = none) (ne : dx ≠ x) (s : Same G H) (hl : H l = some (.lst (xs.map V.int))) (h01 : Bt xs) (hz : xs.length ≤ 100000) (q : ∀ G' H', Gr W0 G H G' H' → IsBits K G' xs x → Q .non H') :
    spBitsI K [.ref x, .ref l] (upd (upd H dx (.own x)) x (.ins (cB K) dx [])) Q E := by
  have nxu : upd H dx (.own x) x = none := by rw [upd_ne ne.symm]; exact nx'
  have hlx : l ≠ x := ne_of_none hl nx'
  have hld : l ≠ dx := ne_of_none hl nd
  refine ⟨G, xs, x, dx, l, rfl, s.trans ((Same.up nd).trans (Same.up nxu)), same_none s nx', upd_same, by rw [upd_ne hlx, upd_ne hld]; exact hl, h01, hz, fun G' fs H' g hx hp => ?_⟩
  obtain ⟨g1, s1⟩ := Gr.init s nx' nd ne g hx
  exact q _ H' g1 ⟨h01, hz, dx, fs, upd_same, hp.mono s1⟩
theorem sc_below : FnScope ["bits", "place", "digit"] ["bits", "place", "digit"] (defScope s_below) := ⟨rfl, rfl, rfl, by decide +kernel, rfl, by decide +kernel, by decide +kernel⟩
theorem hd_below (D : Df K mg "below" s_below) (T : Tx K mg) (h_Bits_rank : Md P w K mg base (cB K) "rank" ["self", "i", "digit"] [] k (spBitsRk K)) : Hd P w K mg base "below" ["bits", "place", "digit"] (k + 1) (spBelow K) := by
  refine hd_mk D sc_below (fun _ _ _ _ _ _ us hl => match us, hl with | [_, _, _], _ => rfl) (fun vs H Q E h => ?_) (fun f cdv A outer s H vs Q E hr h => ?_)
  · obtain ⟨G, sh, d, R, a, p, rfl, _⟩ := h; rfl
  obtain ⟨G, sh, d, R, a, p, rfl, sg, hb, hp, hd, q⟩ := h
  refine ⟨_, (pss_cons (ps_if (pt_cmpR op_eq (pv 2) pe_int (nomark _))
      (pss_one (ps_ret (pe_md h_Bits_rank T.cBits hr (pv 0) (pa_cons (pv 1) (pa_cons pe_int pa_nil)))))
      pss_nil)
    (pss_one (ps_ret (pe_op op_add (pe_md h_Bits_rank T.cBits hr (pv 0) (pa_cons (pe_fld (pv 0) rfl) (pa_cons pe_int pa_nil))) (pe_md h_Bits_rank T.cBits hr (pv 0) (pa_cons (pv 1) (pa_cons pe_int pa_nil))))))), ?_⟩
  obtain ⟨h01, hz, dx, fs, ha, r, b, rfl, hr', hb'⟩ := id hb
  have hl := dgs_len sh R
  refine ⟨_, rfl, rfl, _, rfl, ?_⟩
  rcases hd with rfl | rfl
  · refine iteT ⟨_, rfl, a, dx, _, rfl, sg _ _ ha, lBits_no_rank, _, rfl, G, _, a, p, 0, rfl, sg, hb, by omega, fun H1 s1 => ?_⟩
    have := q H1 s1
    unfold blw at this
    rw [if_pos rfl] at this
    rw [rk_0 sh R p hp]
    exact this
  · refine iteF ⟨_, rfl, a, dx, _, rfl, sg _ _ ha, lBits_no_rank, _, rfl, a, _, dx, _, _, rfl, sg _ _ ha, T.cBits, T.nBits_size, lBits_size, G, _, a, (dgs sh R).length, 0, rfl, sg, hb, Nat.le_refl _, fun H1 s1 => ?_⟩
    have g1 := sg.trans s1
    refine ⟨_, rfl, a, dx, _, rfl, g1 _ _ ha, lBits_no_rank, _, rfl, G, _, a, p, 1, rfl, g1, hb, by omega, fun H2 s2 => ⟨_, _, rfl, rfl, ?_⟩⟩
    have := q H2 (s1.trans s2)
    unfold blw at this
    rw [if_neg (by decide)] at this
    rw [rk_1, hl, rk_0 sh R _ (Nat.le_refl _), List.take_length]
    exact this
theorem sc_parted : FnScope ["row", "digits", "digit", "symbol", "own"] ["row", "digits", "digit"] (defScope s_parted) := ⟨rfl, rfl, rfl, by decide +kernel, rfl, by decide +kernel, by decide +kernel⟩
theorem hd_parted (D : Df K mg "parted" s_parted) (T : Tx K mg) : Hd P w K mg base "parted" ["row", "digits", "digit"] (k + 1) spParted := by
  refine hd_mk D sc_parted (fun _ _ _ _ _ _ us hl => match us, hl with | [_, _, _], _ => rfl) (fun vs H Q E h => ?_) (fun f cdv A outer s H vs Q E hr h => ?_)
  · obtain ⟨sh, d, R, l, ld, rfl, _⟩ := h; rfl
  obtain ⟨sh, d, R, l, ld, rfl, h1, h2, hz, q⟩ := h
  refine ⟨_, (pss_one (ps_ret (pe_lc (own := [("symbol", 3), ("own", 4)]) (g := gTup K 2 (gCons (gName 3) (gCons (gName 4) gNil))) rfl sc_parted.nd (pi_zip (by rfl) T.zip (pa_cons (pv 0) (pa_cons (pv 1) pa_nil))) (blkOk_by (own := [("symbol", 3), ("own", 4)]) (N := ["row", "digits", "digit", "symbol", "own"]) (sc := defScope s_parted) (by decide +kernel)) (fun _ _ _ _ _ => (pg_tup rfl (pgs_cons (pg_name (i := 3) sc_parted.nd rfl (Or.inl rfl)) (pgs_cons (pg_name (i := 4) sc_parted.nd rfl (Or.inl rfl)) pgs_nil)))) (fun _ _ _ _ _ => (pts_one (pt_cmpR op_eq (pv 4) (pv 2) (nomark _)))) (fun _ _ _ _ _ => (pv 3))))), ?_⟩
  refine ⟨_, rfl, _, rfl, l, ld, _, _, rfl, SqL.of h1, SqL.of h2, fun D hD => lc_flt (walk_zip (n := R.length) (by rw [List.length_map, List.length_map, dgs_len, Nat.min_self])) hD (Same.refl H) (fun G1 H1 gr => ⟨SqL.of (gr.same _ _ h1), SqL.of (gr.same _ _ h2)⟩) (fun i => bt sh (R.getD i 0) == d) (fun i => nV (R.getD i 0)) (by omega) ?_ ?_⟩
  · rintro i x G1 H1 H2 kk Z hi gr gD ⟨t, x1, y1, rfl, nt, rfl, e1, e2⟩ yes no
    have hR := List.getElem?_eq_getElem hi
    have hg : R.getD i 0 = R[i] := by rw [List.getD_eq_getElem?_getD, hR]; rfl
    obtain rfl : nV R[i] = x1 := Option.some.inj ((vN_get hR).symm.trans e1)
    have e3 : ((dgs sh R).map V.int)[i]? = some (.int ((bt sh R[i] : Nat) : Int)) := by
      unfold dgs
      rw [List.getElem?_map, List.getElem?_map, hR]
      rfl
    obtain rfl : V.int ((bt sh R[i] : Nat) : Int) = y1 := Option.some.inj (e3.symm.trans e2)
    have sg := gr.sub.trans (Same.up (o := .tup [nV R[i], V.int ((bt sh R[i] : Nat) : Int)]) nt)
    have gr2 := Gr.alloc (W := W0) (o := .tup [nV R[i], V.int ((bt sh R[i] : Nat) : Int)]) gr.sub nt
    refine ⟨t, _, rfl, SqT.of upd_same, rfl, _, _, rfl, _, _, rfl, rfl, rfl, ⟨_, rfl, _, rfl, rfl, _, rfl, ?_⟩⟩
    rw [hg] at yes no
    by_cases hb : bt sh R[i] = d
    · rw [show decide (V.int ((bt sh R[i] : Nat) : Int) = V.int ((d : Nat) : Int)) = true from decide_eq_true (by rw [hb])]
      exact iteT ⟨_, rfl, yes _ _ (by rw [beq_iff_eq]; exact hb) gr2⟩
    · rw [show decide (V.int ((bt sh R[i] : Nat) : Int) = V.int ((d : Nat) : Int)) = false from decide_eq_false (fun z => hb (by injection z with z; omega))]
      exact iteF (no _ _ (beq_eq_false_iff_ne.mpr hb) gr2)
  · intro G1 H1 gr h3 gD
    refine q D H1 gr.same hD ?_
    rw [h3]
    congr 2
    exact flt_list 0 R (fun x => bt sh x == d) nV
theorem sc_Wave_at : FnScope ["self", "place", "symbol", "bits", "digit"] ["self", "place"] (defScope s_Wave_at) := ⟨rfl, rfl, rfl, by decide +kernel, rfl, by decide +kernel, by decide +kernel⟩
theorem md_Wave_at (D : Dm K (cWv K) "at" "Wave.at" s_Wave_at) (T : Tx K mg) (h_Bits_at : Md P w K mg base (cB K) "at" ["self", "place"] [] k (spBitsAt K)) (h_below : Hd P w K mg base "below" ["bits", "place", "digit"] k (spBelow K)) : Md P w K mg base (cWv K) "at" ["self", "place"] [] (k + 1) (spWaveAt K) := by
  refine md_mk D sc_Wave_at (fun _ _ _ _ _ _ us hl => match us, hl with | [_, _], _ => rfl) (fun vs H Q E h => ?_) (fun f cdv A outer s H vs Q E hr h => ?_)
  · obtain ⟨G, R, z, a, p, sy, rfl, _⟩ := h; rfl
  obtain ⟨G, R, z, a, p, sy, rfl, sg, hw, hp, q⟩ := h
  refine ⟨_, (pss_cons (ps_if (pt_not (pt_chain op_le op_lt pe_int (pv 1) (pe_fld (pv 0) rfl)))
      (pss_one ps_never)
      pss_nil)
    (pss_cons (ps_set (i := 2) sc_Wave_at.nd rfl (Or.inl rfl) pe_int)
    (pss_cons (ps_for PassesOwn.never rfl (pi_list (pe_fld (pv 0) rfl)) (pg_name (i := 3) sc_Wave_at.nd rfl (Or.inl rfl))
      (pss_cons (ps_set (i := 4) sc_Wave_at.nd rfl (Or.inl rfl) (pe_md h_Bits_at T.cBits hr (pv 3) (pa_cons (pv 1) pa_nil)))
      (pss_cons (ps_set (i := 1) sc_Wave_at.nd rfl (Or.inl rfl) (pe_hd h_below hr rfl (pa_cons (pv 3) (pa_cons (pv 1) (pa_cons (pv 4) pa_nil)))))
      (pss_one (ps_set (i := 2) sc_Wave_at.nd rfl (Or.inl rfl) (pe_op op_add (pe_op op_mul pe_int (pv 2)) (pv 4)))))))
    (pss_one (ps_ret (pv 2)))))), ?_⟩
  obtain ⟨hR, hz1, hz2, hlen, dx, fs, ha, lv, as, rfl, hlv, hal, hbits⟩ := hw
  have ha' := sg _ _ ha
  have hlt := (List.getElem?_eq_some_iff.mp hp).1
  have hsz : sy < z := hR sy (List.mem_of_getElem? hp)
  have hs2 := bl_lt hsz
  have hbl := bl_le hz2
  refine ⟨_, rfl, _, _, rfl, rfl, _, rfl, ?_⟩
  rw [show decide ((0 : Int) ≤ ((p : Nat) : Int)) = true by simp]
  refine iteT ⟨_, rfl, a, _, dx, _, _, rfl, ha', T.cWave, T.nWave_length, lWave_length, _, _, rfl, rfl, _, rfl, ?_⟩
  rw [show decide (((p : Nat) : Int) < ((R.length : Nat) : Int)) = true from decide_eq_true (by omega)]
  refine iteF ⟨_, rfl, a, _, dx, _, _, rfl, ha', T.cWave, T.nWave_levels, lWave_levels, lv, rfl, ⟨_, SqL.of (sg _ _ hlv)⟩, ?_⟩
  refine for_it (walk_list (xs := as.map V.ref)) (fun i σ H1 => ∃ x3 x4, σ = [some (.ref a), some (nV (wpl R (bl z) sy p i)), some (nV (sy / 2 ^ (bl z - i))), x3, x4] ∧ Same H H1)
    ⟨none, none, ?_, Same.refl H⟩ (fun i σ H1 _ ⟨_, _, _, s1⟩ => SqL.of (s1 _ _ (sg _ _ hlv))) ?_ ?_
  · show [some (V.ref a), some (nV p), some (.int 0), none, none] = _
    rw [Nat.sub_zero, Nat.div_eq_of_lt hs2]
    rfl
  · rintro i x σ H1 H2 hi ⟨x3, x4, rfl, s1⟩ ⟨rfl, hx⟩
    rw [List.length_map, hal] at hi
    obtain ⟨b, hb, rfl⟩ := map_get hx
    have hB := hbits i b hb
    have g1 := sg.trans s1
    obtain ⟨_, _, dxb, fsb, hbb, _⟩ := id hB
    have hpl := wpl_at (n := bl z) hp i
    have hd : (dgs (bl z - 1 - i) (rst R (bl z) i))[wpl R (bl z) sy p i]? = some ((bt (bl z - 1 - i) sy : Nat) : Int) := by
      unfold dgs
      rw [List.getElem?_map, hpl]
      rfl
    refine ⟨_, rfl, b, dxb, fsb, rfl, g1 _ _ hbb, ?_, _, rfl, G, _, b, _, _, rfl, g1, hB, hd, ?_⟩
    · obtain ⟨_, _, rfl, _⟩ := (show BitsP G _ fsb from by obtain ⟨_, _, dx2, fs2, h5, h6⟩ := hB; rw [hbb] at h5; cases h5; exact h6)
      exact lBits_no_at
    refine ⟨_, rfl, _, rfl, _, rfl, G, bl z - 1 - i, bt (bl z - 1 - i) sy, rst R (bl z) i, b, wpl R (bl z) sy p i, rfl, g1, hB, Nat.le_of_lt (List.getElem?_eq_some_iff.mp hpl).1, bt_01 _ _, fun H2 s2 => ?_⟩
    refine ⟨_, rfl, _, _, rfl, rfl, .inl ⟨by decide, by decide⟩, _, rfl, _, _, rfl, rfl, some (.ref b), some (nV (bt (bl z - 1 - i) sy)), ?_, s1.trans s2⟩
    show [some (V.ref a), some (nV (blw _ _ _ _)), some (.int (2 * ((sy / 2 ^ (bl z - i) : Nat) : Int) + ((bt (bl z - 1 - i) sy : Nat) : Int))), _, _] = _
    have e1 := two_step (bl z - 1 - i) sy
    rw [show bl z - 1 - i + 1 = bl z - i by omega] at e1
    rw [show bl z - (i + 1) = bl z - 1 - i by omega, e1]
    rfl
  · rintro σ H1 ⟨x3, x4, rfl, s1⟩
    refine ⟨_, rfl, ?_⟩
    rw [List.length_map, hal, Nat.sub_self, Nat.pow_zero, Nat.div_one]
    exact q H1 s1
theorem sc_Wave_digits_of : FnScope ["self", "symbol", "shift"] ["self", "symbol"] (defScope s_Wave_digits_of) := ⟨rfl, rfl, rfl, by decide +kernel, rfl, by decide +kernel, by decide +kernel⟩
theorem md_Wave_digits_of (D : Dm K (cWv K) "digits_of" "Wave.digits_of" s_Wave_digits_of) (T : Tx K mg) : Md P w K mg base (cWv K) "digits_of" ["self", "symbol"] [] (k + 1) (spWaveDg K) := by
  refine md_mk D sc_Wave_digits_of (fun _ _ _ _ _ _ us hl => match us, hl with | [_, _], _ => rfl) (fun vs H Q E h => ?_) (fun f cdv A outer s H vs Q E hr h => ?_)
  · obtain ⟨G, R, z, a, sy, rfl, _⟩ := h; rfl
  obtain ⟨G, R, z, a, sy, rfl, sg, hw, hsz, q⟩ := h
  refine ⟨_, (pss_cons (ps_if (pt_not (pt_chain op_le op_lt pe_int (pv 1) (pe_fld (pv 0) rfl)))
      (pss_one ps_never)
      pss_nil)
    (pss_one (ps_ret (pe_lc (own := [("shift", 2)]) (g := gName 2) (tt := tYes) rfl sc_Wave_digits_of.nd (pi_revR (by rfl) T.reversed (prg_1 (by rfl) T.range (pe_callB call_len_seq (by rfl) T.len (by decide +kernel) (pa_cons (pe_fld (pv 0) rfl) pa_nil)))) (blkOk_by (own := [("shift", 2)]) (N := ["self", "symbol", "shift"]) (sc := defScope s_Wave_digits_of) (by decide +kernel)) (fun _ _ _ _ _ => (pg_name (i := 2) sc_Wave_digits_of.nd rfl (Or.inl rfl))) (fun _ _ _ _ _ => pts_nil) (fun _ _ _ _ _ => (pe_op op_and (pe_op op_shr (pv 1) (pv 2)) pe_int)))))), ?_⟩
  obtain ⟨hR, hz1, hz2, hlen, dx, fs, ha, lv, as, rfl, hlv, hal, hbits⟩ := hw
  have ha' := sg _ _ ha
  have hbl := bl_le hz2
  refine ⟨_, rfl, _, _, rfl, rfl, _, rfl, ?_⟩
  rw [show decide ((0 : Int) ≤ ((sy : Nat) : Int)) = true by simp]
  refine iteT ⟨_, rfl, a, _, dx, _, _, rfl, ha', T.cWave, T.nWave_size, lWave_size, _, _, rfl, rfl, _, rfl, ?_⟩
  rw [show decide (((sy : Nat) : Int) < ((z : Nat) : Int)) = true from decide_eq_true (by omega)]
  have hl17 : (as.map V.ref).length = bl z := by rw [List.length_map, hal]
  refine iteF ⟨_, rfl, a, _, dx, _, _, rfl, ha', T.cWave, T.nWave_levels, lWave_levels, lv, _, rfl, .inl (SqL.of (sg _ _ hlv)), _, rfl, by decide, by decide, by rw [hl17]; omega, by rw [hl17]; omega, ?_⟩
  have htn : (((as.map V.ref).length : Int) - 0).toNat = bl z := by rw [hl17]; omega
  rw [htn]
  refine fun D hD => lc_map walk_rangeC hD (Same.refl H) (fun _ _ _ => trivial) (fun i => nV (bt (bl z - 1 - i) sy)) (by omega) ?_ ?_
  · rintro i x G1 H1 H2 kk Z hi gr gD ⟨rfl, rfl⟩ yes
    refine ⟨rfl, ty_yes ⟨_, rfl, _, rfl, _, _, rfl, rfl, by omega, _, _, rfl, rfl, ?_⟩⟩
    have := yes _ _ (Gr.refl gr.sub)
    rw [show nV (bt (bl z - 1 - i) sy) = V.int (Builtin.bitAnd ((sy : Int) / 2 ^ ((0 : Int) + (bl z : Int) - 1 + (i : Int) * (-1)).toNat) 1) from by
      rw [show ((0 : Int) + (bl z : Int) - 1 + (i : Int) * (-1)).toNat = bl z - 1 - i by omega, bt_V]] at this
    exact this
  · intro G1 H1 gr h3 gD
    exact q D H1 gr.same hD h3
theorem sc_Wave_ends : FnScope ["self", "symbol", "first", "behind", "bits", "digit"] ["self", "symbol", "first", "behind"] (defScope s_Wave_ends) := ⟨rfl, rfl, rfl, by decide +kernel, rfl, by decide +kernel, by decide +kernel⟩
theorem md_Wave_ends (D : Dm K (cWv K) "ends" "Wave.ends" s_Wave_ends) (T : Tx K mg) (h_Wave_digits_of : Md P w K mg base (cWv K) "digits_of" ["self", "symbol"] [] k (spWaveDg K)) (h_below : Hd P w K mg base "below" ["bits", "place", "digit"] k (spBelow K)) :
    Md P w K mg base (cWv K) "ends" ["self", "symbol", "first", "behind"] [] (k + 1) (spWaveEn K) := by
  refine md_mk D sc_Wave_ends (fun _ _ _ _ _ _ us hl => match us, hl with | [_, _, _, _], _ => rfl) (fun vs H Q E h => ?_) (fun f cdv A outer s H vs Q E hr h => ?_)
  · obtain ⟨G, R, z, a, sy, b, rfl, _⟩ := h; rfl
  obtain ⟨G, R, z, a, sy, b, rfl, sg, hw, hsz, hb, q⟩ := h
  refine ⟨_, (pss_cons (ps_for PassesOwn.never rfl (pi_zip (by rfl) T.zip (pa_cons (pe_fld (pv 0) rfl) (pa_cons (pe_md h_Wave_digits_of T.cWave hr (pv 0) (pa_cons (pv 1) pa_nil)) pa_nil))) (pg_tup rfl (pgs_cons (pg_name (i := 4) sc_Wave_ends.nd rfl (Or.inl rfl)) (pgs_cons (pg_name (i := 5) sc_Wave_ends.nd rfl (Or.inl rfl)) pgs_nil)))
      (pss_cons (ps_set (i := 2) sc_Wave_ends.nd rfl (Or.inl rfl) (pe_hd h_below hr rfl (pa_cons (pv 4) (pa_cons (pv 2) (pa_cons (pv 5) pa_nil)))))
      (pss_one (ps_set (i := 3) sc_Wave_ends.nd rfl (Or.inl rfl) (pe_hd h_below hr rfl (pa_cons (pv 4) (pa_cons (pv 3) (pa_cons (pv 5) pa_nil))))))))
    (pss_one (ps_ret (pe_tup (pa_cons (pv 2) (pa_cons (pv 3) pa_nil)))))), ?_⟩
  obtain ⟨hR, hz1, hz2, hlen, dx, fs, ha, lv, as, rfl, hlv, hal, hbits⟩ := id hw
  have ha' := sg _ _ ha
  have hbl := bl_le hz2
  have hn : ∀ x ∈ R, x < 2 ^ bl z := fun x hx => bl_lt (hR x hx)
  refine ⟨_, rfl, a, _, dx, _, _, rfl, ha', T.cWave, T.nWave_levels, lWave_levels, _, rfl, a, dx, _, rfl, ha', lWave_no_digits_of, _, rfl, G, R, z, a, sy, rfl, sg, hw, hsz, fun l H1 s1 nl hl => ?_⟩
  have g1 := sg.trans s1
  refine ⟨lv, l, _, _, rfl, SqL.of (g1 _ _ hlv), SqL.of hl, ?_⟩
  refine for_it (walk_zip (n := bl z) (by rw [List.length_map, List.length_map, List.length_range, hal, Nat.min_self])) (fun i σ H2 => ∃ x4 x5, σ = [some (.ref a), some (nV sy), some (nV (wpl R (bl z) sy 0 i)), some (nV (wpl R (bl z) sy b i)), x4, x5] ∧ Same H1 H2)
    ⟨none, none, rfl, Same.refl H1⟩ (fun i σ H2 _ ⟨_, _, _, s2⟩ => ⟨SqL.of (s2 _ _ (g1 _ _ hlv)), SqL.of (s2 _ _ hl)⟩) ?_ ?_
  · rintro i x σ H2 H3 hi ⟨x4, x5, rfl, s2⟩ ⟨t, x1, y1, rfl, nt, rfl, e1, e2⟩
    obtain ⟨c, hc, rfl⟩ := map_get e1
    obtain ⟨j, hj, rfl⟩ := map_get e2
    rw [List.getElem?_range hi] at hj
    cases (Option.some.inj hj)
    have g3 := (g1.trans s2).trans (Same.up (o := .tup [V.ref c, nV (bt (bl z - 1 - i) sy)]) nt)
    have hB := hbits i c hc
    obtain ⟨k1, k2, _⟩ := wpl_cut hb hn (bl_lt hsz) i (by omega)
    refine ⟨t, _, rfl, SqT.of upd_same, rfl, _, _, rfl, _, _, rfl, rfl, _, rfl, _, rfl, _, rfl, ?_⟩
    refine ⟨G, bl z - 1 - i, bt (bl z - 1 - i) sy, rst R (bl z) i, c, wpl R (bl z) sy 0 i, rfl, g3, hB, by rw [rst_len]; omega, bt_01 _ _, fun H4 s4 => ?_⟩
    refine ⟨_, rfl, _, rfl, _, rfl, G, bl z - 1 - i, bt (bl z - 1 - i) sy, rst R (bl z) i, c, wpl R (bl z) sy b i, rfl, g3.trans s4, hB, by rw [rst_len]; omega, bt_01 _ _, fun H5 s5 => ?_⟩
    exact ⟨_, _, rfl, ((s2.trans (Same.up nt)).trans s4).trans s5⟩
  · rintro σ H2 ⟨x4, x5, rfl, s2⟩
    exact ⟨_, rfl, _, rfl, by show 2 ≤ sizeLine; decide, fun p np => q p _ ((s1.trans s2).trans (Same.up np)) ((s1.trans s2).free np) upd_same⟩
theorem sc_Wave_rank : FnScope ["self", "symbol", "i", "digits", "first", "behind"] ["self", "symbol", "i"] (defScope s_Wave_rank) := ⟨rfl, rfl, rfl, by decide +kernel, rfl, by decide +kernel, by decide +kernel⟩
theorem md_Wave_rank (D : Dm K (cWv K) "rank" "Wave.rank" s_Wave_rank) (T : Tx K mg) (h_Wave_digits_of : Md P w K mg base (cWv K) "digits_of" ["self", "symbol"] [] k (spWaveDg K)) (h_Wave_ends : Md P w K mg base (cWv K) "ends" ["self", "symbol", "first", "behind"] [] k (spWaveEn K)) :
    Md P w K mg base (cWv K) "rank" ["self", "symbol", "i"] [] (k + 1) (spWaveRk K) := by
  refine md_mk D sc_Wave_rank (fun _ _ _ _ _ _ us hl => match us, hl with | [_, _, _], _ => rfl) (fun vs H Q E h => ?_) (fun f cdv A outer s H vs Q E hr h => ?_)
  · obtain ⟨G, R, z, a, sy, b, rfl, _⟩ := h; rfl
  obtain ⟨G, R, z, a, sy, b, rfl, sg, hw, hsz, hb, q⟩ := h
  refine ⟨_, (pss_cons (ps_set (i := 3) sc_Wave_rank.nd rfl (Or.inl rfl) (pe_md h_Wave_digits_of T.cWave hr (pv 0) (pa_cons (pv 1) pa_nil)))
    (pss_cons (ps_if (pt_not (pt_chain op_le op_le pe_int (pv 2) (pe_fld (pv 0) rfl)))
      (pss_one ps_never)
      pss_nil)
    (pss_cons (ps_asg (pe_md h_Wave_ends T.cWave hr (pv 0) (pa_cons (pv 1) (pa_cons pe_int (pa_cons (pv 2) pa_nil)))) (pg_tup rfl (pgs_cons (pg_name (i := 4) sc_Wave_rank.nd rfl (Or.inl rfl)) (pgs_cons (pg_name (i := 5) sc_Wave_rank.nd rfl (Or.inl rfl)) pgs_nil))))
    (pss_one (ps_ret (pe_op op_sub (pv 5) (pv 4))))))), ?_⟩
  obtain ⟨hR, hz1, hz2, hlen, dx, fs, ha, lv, as, rfl, hlv, hal, hbits⟩ := id hw
  have hn : ∀ x ∈ R, x < 2 ^ bl z := fun x hx => bl_lt (hR x hx)
  refine ⟨_, rfl, a, dx, _, rfl, sg _ _ ha, lWave_no_digits_of, _, rfl, G, R, z, a, sy, rfl, sg, hw, hsz, fun l H1 s1 nl hl => ?_⟩
  have g1 := sg.trans s1
  refine ⟨_, rfl, _, _, rfl, rfl, _, rfl, ?_⟩
  rw [show decide ((0 : Int) ≤ ((b : Nat) : Int)) = true by simp]
  refine iteT ⟨_, rfl, a, _, dx, _, _, rfl, g1 _ _ ha, T.cWave, T.nWave_length, lWave_length, _, _, rfl, rfl, _, rfl, ?_⟩
  rw [show decide (((b : Nat) : Int) ≤ ((R.length : Nat) : Int)) = true from decide_eq_true (by omega)]
  refine iteF ⟨_, rfl, a, dx, _, rfl, g1 _ _ ha, lWave_no_ends, _, rfl, _, rfl, G, R, z, a, sy, b, rfl, g1, hw, hsz, hb, fun p H2 s2 np hp => ?_⟩
  refine ⟨p, _, rfl, SqT.of hp, rfl, _, _, rfl, _, _, rfl, rfl, _, rfl, _, rfl, _, _, rfl, rfl, ?_⟩
  obtain ⟨c1, c2⟩ := wpl_cnt hb hn (bl_lt hsz)
  have := q H2 (s1.trans s2)
  rw [← c1] at this
  show Q (V.int (((wpl R (bl z) sy b (bl z) : Nat) : Int) - ((wpl R (bl z) sy 0 (bl z) : Nat) : Int))) H2
  rw [show ((wpl R (bl z) sy b (bl z) : Nat) : Int) - ((wpl R (bl z) sy 0 (bl z) : Nat) : Int) = ((wpl R (bl z) sy b (bl z) - wpl R (bl z) sy 0 (bl z) : Nat) : Int) by omega]
  exact this
theorem sc_Wave_init : FnScope ["self", "row", "size", "place", "symbol", "rest", "shift", "digits"] ["self", "row", "size"] (defScope s_Wave_init) := ⟨rfl, rfl, rfl, by decide +kernel, rfl, by decide +kernel, by decide +kernel⟩
theorem mkd_Wave (D : Di K mg "Wave" (cWv K) "Wave.__init__" s_Wave_init) (T : Tx K mg) (h_Bits_init : Mkd P w K mg base "Bits" (cB K) ["self", "row"] k (spBitsI K)) (h_parted : Hd P w K mg base "parted" ["row", "digits", "digit"] k spParted) :
    Mkd P w K mg base "Wave" (cWv K) ["self", "row", "size"] (k + 2) (spWaveI K) := by
  refine mkd_mk D sc_Wave_init (fun _ _ _ _ _ _ us hl => match us, hl with | [_, _, _], _ => rfl) (fun vs H Q E h => ?_) (fun f cdv A outer s H vs Q E hr h => ?_)
  · obtain ⟨G, R, z, a, dx, l, rfl, _⟩ := h; rfl
  obtain ⟨G, R, z, a, dx, l, rfl, sg, ga, ha, hl, hR, hz1, hz2, hlen, q⟩ := h
  refine ⟨_, (pss_cons (ps_if (pt_not (pt_chain op_le op_le pe_int (pv 2) (pe_gi rfl T.MOST_SYMBOLS)))
      (pss_one ps_never)
      pss_nil)
    (pss_cons (ps_for PassesOwn.never rfl (pi_enum (by rfl) T.enumerate (pa_cons (pv 1) pa_nil)) (pg_tup rfl (pgs_cons (pg_name (i := 3) sc_Wave_init.nd rfl (Or.inl rfl)) (pgs_cons (pg_name (i := 4) sc_Wave_init.nd rfl (Or.inl rfl)) pgs_nil)))
      (pss_one (ps_if (pt_not (pt_chain op_le op_lt pe_int (pv 4) (pv 2)))
        (pss_one ps_never)
        pss_nil)))
    (pss_cons (ps_fld (pv 0) (pv 2) rfl)
    (pss_cons (ps_fld (pv 0) (pe_callB call_len_seq (by rfl) T.len (by decide +kernel) (pa_cons (pv 1) pa_nil)) rfl)
    (pss_cons (ps_fld (pv 0) (pe_lst pa_nil) rfl)
    (pss_cons (ps_set (i := 5) sc_Wave_init.nd rfl (Or.inl rfl) (pe_callTy call_list_of (by rfl) T.list (by decide +kernel) (pa_cons (pv 1) pa_nil)))
    (pss_one (ps_for PassesOwn.never rfl (pi_revR (by rfl) T.reversed (prg_1 (by rfl) T.range (pe_bits (pe_op op_sub (pv 2) pe_int)))) (pg_name (i := 6) sc_Wave_init.nd rfl (Or.inr rfl))
      (pss_cons (ps_setLc (i := 7) (own := [("symbol", 4)]) (g := gName 4) (tt := tYes) rfl sc_Wave_init.nd rfl rfl (sw_true rfl rfl rfl (by decide +kernel)) (pi_list (pv 5)) (blkOk_by (own := [("symbol", 4)]) (N := ["self", "row", "size", "place", "symbol", "rest", "shift", "digits"]) (sc := defScope s_Wave_init) (by decide +kernel)) (fun _ _ _ _ _ => (pg_name (i := 4) sc_Wave_init.nd rfl (Or.inl rfl))) (fun _ _ _ _ _ => pts_nil) (fun _ _ _ _ _ => (pe_op op_and (pe_op op_shr (pv 4) (pv 6)) pe_int)))
      (pss_cons (ps_expr (pe_bm PySem.F.plainAttrs_list PySem.F.slot_list_append PySem.F.type_list_append mt_append (pe_fld (pv 0) rfl) (pa_cons (pe_mkd h_Bits_init hr rfl (pa_cons (pv 7) pa_nil)) pa_nil)))
      (pss_one (ps_set (i := 5) sc_Wave_init.nd rfl (Or.inl rfl) (pe_op op_cat (pe_hd h_parted hr rfl (pa_cons (pv 5) (pa_cons (pv 7) (pa_cons pe_int pa_nil)))) (pe_hd h_parted hr rfl (pa_cons (pv 5) (pa_cons (pv 7) (pa_cons pe_int pa_nil))))))))))))))))), ?_⟩
  have hbl := bl_le hz2
  refine ⟨_, rfl, _, _, rfl, rfl, _, rfl, ?_⟩
  rw [show decide ((1 : Int) ≤ ((z : Nat) : Int)) = true from decide_eq_true (by omega)]
  refine iteT ⟨_, _, rfl, rfl, _, rfl, ?_⟩
  rw [show decide (((z : Nat) : Int) ≤ 65536) = true from decide_eq_true (by omega)]
  refine iteF ⟨_, rfl, l, _, rfl, SqL.of hl, ?_⟩
  refine for_it (walk_enum (xs := vN R)) (fun i σ H1 => ∃ x3 x4, σ = [some (.ref a), some (.ref l), some (nV z), x3, x4, none, none, none] ∧ Same H H1) ⟨none, none, rfl, Same.refl H⟩ (fun i σ H1 _ ⟨_, _, _, s1⟩ => SqL.of (s1 _ _ hl)) ?_ ?_
  · rintro i x σ H1 H2 hi ⟨x3, x4, rfl, s1⟩ ⟨p, u, y, rfl, np, rfl, e1, e2⟩
    cases (Option.some.inj e1)
    obtain ⟨sy, hsy, rfl⟩ := map_get e2
    have hlt := hR sy (List.mem_of_getElem? hsy)
    refine ⟨p, _, rfl, SqT.of upd_same, rfl, _, _, rfl, _, _, rfl, rfl, ?_⟩
    refine ⟨_, rfl, _, _, rfl, rfl, _, rfl, ?_⟩
    rw [show decide ((0 : Int) ≤ ((sy : Nat) : Int)) = true by simp]
    refine iteT ⟨_, rfl, _, _, rfl, rfl, _, rfl, ?_⟩
    rw [show decide (((sy : Nat) : Int) < ((z : Nat) : Int)) = true from decide_eq_true (by omega)]
    exact iteF ⟨_, _, rfl, s1.trans (Same.up np)⟩
  rintro σ H1 ⟨x3, x4, rfl, s1⟩
  have ha1 := s1 _ _ ha
  have hl1 := s1 _ _ hl
  have la : l ≠ a := fun e => by rw [e, ha] at hl; cases hl
  have g1 : Gr (· = a) G H G H1 := (Gr.of sg s1).mono
  refine ⟨_, rfl, _, rfl, a, cWv K, dx, [], rfl, ha1, T.cWave, T.nWave_size, by decide, ?_⟩
  rw [pWave0]
  have g2 : Gr (· = a) G H G (upd H1 a (.ins (cWv K) dx (fWave1 (nV z)))) := g1.wr (.inr rfl) ga ha1
  have hl2 : upd H1 a (.ins (cWv K) dx (fWave1 (nV z))) l = some (.lst (vN R)) := by rw [upd_ne la]; exact hl1
  refine ⟨_, rfl, l, _, rfl, .inl (SqL.of hl2), _, rfl, a, cWv K, dx, _, rfl, upd_same, T.cWave, T.nWave_length, by show 1 < 1000; decide, ?_⟩
  rw [pWave1, List.length_map]
  have g3 : Gr (· = a) G H G (upd (upd H1 a (.ins (cWv K) dx (fWave1 (nV z)))) a (.ins (cWv K) dx (fWave2 (nV z) (nV R.length)))) := g2.wr (.inr rfl) ga upd_same
  have hl3 : upd (upd H1 a (.ins (cWv K) dx (fWave1 (nV z)))) a (.ins (cWv K) dx (fWave2 (nV z) (nV R.length))) l = some (.lst (vN R)) := by rw [upd_ne la]; exact hl2
  have ha3 : upd (upd H1 a (.ins (cWv K) dx (fWave1 (nV z)))) a (.ins (cWv K) dx (fWave2 (nV z) (nV R.length))) a = some (.ins (cWv K) dx (fWave2 (nV z) (nV R.length))) := upd_same
  generalize upd (upd H1 a (.ins (cWv K) dx (fWave1 (nV z)))) a (.ins (cWv K) dx (fWave2 (nV z) (nV R.length))) = H3 at *
  refine ⟨by show 0 ≤ sizeLine; decide, fun lv nlv => ⟨_, rfl, a, cWv K, dx, fWave2 (nV z) (nV R.length), rfl, ?_⟩⟩
  have av : a ≠ lv := ne_of_none ha3 nlv
  have lvl : l ≠ lv := ne_of_none hl3 nlv
  refine ⟨by rw [upd_ne av]; exact ha3, T.cWave, T.nWave_levels, by show 2 < 1000; decide, ?_⟩
  rw [pWave2]
  have glv := g3.g0 nlv
  have nvH := g3.dom lv nlv
  have g4 : Gr (· = a) G H G (upd (upd H3 lv (.lst [])) a (.ins (cWv K) dx (fWave (nV z) (nV R.length) (.ref lv)))) := (g3.al nlv).wr (.inr rfl) ga (by rw [upd_ne av]; exact ha3)
  have hl4 : upd (upd H3 lv (.lst [])) a (.ins (cWv K) dx (fWave (nV z) (nV R.length) (.ref lv))) l = some (.lst (vN R)) := by rw [upd_ne la, upd_ne lvl]; exact hl3
  have hv4 : upd (upd H3 lv (.lst [])) a (.ins (cWv K) dx (fWave (nV z) (nV R.length) (.ref lv))) lv = some (.lst []) := by rw [upd_ne av.symm, upd_same]
  have ha4 : upd (upd H3 lv (.lst [])) a (.ins (cWv K) dx (fWave (nV z) (nV R.length) (.ref lv))) a = some (.ins (cWv K) dx (fWave (nV z) (nV R.length) (.ref lv))) := upd_same
  generalize upd (upd H3 lv (.lst [])) a (.ins (cWv K) dx (fWave (nV z) (nV R.length) (.ref lv))) = H4 at *
  refine ⟨_, rfl, l, _, rfl, .inl (SqL.of hl4), fun r nr => ?_⟩
  have ar : a ≠ r := ne_of_none ha4 nr
  have lvr : lv ≠ r := ne_of_none hv4 nr
  have g5 := g4.al (o := .lst (vN R)) nr
  have ha5 : upd H4 r (.lst (vN R)) a = some (.ins (cWv K) dx (fWave (nV z) (nV R.length) (.ref lv))) := by rw [upd_ne ar]; exact ha4
  have hv5 : upd H4 r (.lst (vN R)) lv = some (.lst []) := by rw [upd_ne lvr]; exact hv4
  have hr5 : upd H4 r (.lst (vN R)) r = some (.lst (vN R)) := upd_same
  generalize upd H4 r (.lst (vN R)) = H5 at *
  have hbz : Builtin.Int.intBits ((z : Int) - 1) = bl z := rfl
  refine ⟨_, rfl, _, _, rfl, rfl, _, rfl, _, rfl, by decide, by decide, by rw [hbz]; omega, by rw [hbz]; omega, ?_⟩
  have htn : (((Builtin.Int.intBits ((z : Int) - 1) : Nat) : Int) - 0).toNat = bl z := by rw [hbz]; omega
  rw [htn]
  refine for_it walk_rangeC (fun i σ Hi => ∃ (x4 x6 x7 : Option V) (Gi : Hp) (as : List Addr) (ri : Addr), σ = [some (.ref a), some (.ref l), some (nV z), x3, x4, some (.ref ri), x6, x7] ∧ Gr (· = a) G H Gi Hi ∧ Hi a = some (.ins (cWv K) dx (fWave (nV z) (nV R.length) (.ref lv))) ∧ Hi lv = some (.lst (as.map V.ref)) ∧ Gi lv = none ∧ as.length = i ∧
      (∀ j b, as[j]? = some b → IsBits K Gi (dgs (bl z - 1 - j) (rst R (bl z) j)) b) ∧ Hi ri = some (.lst (vN (rst R (bl z) i))) ∧ ri ≠ lv)
    ⟨x4, none, none, G, [], r, rfl, g5, ha5, hv5, glv, rfl, fun j b h => by simp at h, hr5, lvr.symm⟩ (fun _ _ _ _ _ => trivial) ?_ ?_
  · rintro i x σ Hi H6 hi ⟨x4, x6, x7, Gi, as, ri, rfl, gi, hai, hvi, gvi, hal, hbi, hri, vr⟩ ⟨rfl, rfl⟩
    have hlR := rst_len R (bl z) i
    generalize hRr : rst R (bl z) i = Rr at *
    refine ⟨_, rfl, ri, rfl, ⟨_, SqL.of hri⟩, fun D hD => ?_⟩
    refine lc_map (walk_list (xs := vN Rr)) hD gi.sub (fun G1 H1 gr => SqL.of (gr.same _ _ hri)) (fun j => V.int ((bt (bl z - 1 - i) (Rr.getD j 0) : Nat) : Int)) (by rw [List.length_map]; omega) ?_ ?_
    · rintro j y G1 H1 H2 kk Z hj gr gD ⟨rfl, hy⟩ yes
      obtain ⟨sy, hsy, rfl⟩ := map_get hy
      refine ⟨rfl, ty_yes ⟨_, rfl, _, rfl, _, _, rfl, rfl, by omega, _, _, rfl, rfl, ?_⟩⟩
      have := yes _ _ (Gr.refl gr.sub)
      rw [show V.int ((bt (bl z - 1 - i) (Rr.getD j 0) : Nat) : Int) = V.int (Builtin.bitAnd ((sy : Int) / 2 ^ ((0 : Int) + (bl z : Int) - 1 + (i : Int) * (-1)).toNat) 1) from by
        rw [show ((0 : Int) + (bl z : Int) - 1 + (i : Int) * (-1)).toNat = bl z - 1 - i by omega, bt_V, List.getD_eq_getElem?_getD, hsy]; rfl] at this
      exact this
    · intro G6 H6 g6 hD6 gD6
      have hd6 : H6 D = some (.lst ((dgs (bl z - 1 - i) Rr).map V.int)) := by
        rw [hD6, List.length_map, map_range_getD 0 Rr (fun x => V.int ((bt (bl z - 1 - i) x : Nat) : Int))]
        unfold dgs
        rw [List.map_map]
        rfl
      have ha6 := g6.same _ _ hai
      have hv6 := g6.same _ _ hvi
      have hr6 := g6.same _ _ hri
      have gv6 := g6.free gvi hvi
      refine ⟨_, rfl, a, _, dx, _, _, rfl, ha6, T.cWave, T.nWave_levels, lWave_levels, .inl ⟨rfl, _, SqL.of hv6⟩, _, rfl, ?_⟩
      refine fun b db n1 n2 n3 => mkBits n1 n2 n3 g6.sub hd6 (dgs_bt _ _) (by rw [dgs_len]; omega) fun G7 H7 g7 hB => ⟨rfl, ?_⟩
      have ha7 := g7.same _ _ ha6
      have hv7 := g7.same _ _ hv6
      have hr7 := g7.same _ _ hr6
      have hd7 := g7.same _ _ hd6
      have gv7 := g7.free gv6 hv6
      have gg7 : Gr (· = a) G H G7 H7 := (gi.trans g6.mono).trans g7.mono
      refine ⟨lv, _, _, rfl, rfl, hv7, smallT (by rw [List.length_map]; omega), ?_⟩
      have va : lv ≠ a := fun e => by rw [e, hai] at hvi; cases hvi
      have vd : D ≠ lv := fun e => by rw [e, hvi] at hD; cases hD
      have e8 : as.map V.ref ++ [V.ref b] = (as ++ [b]).map V.ref := by rw [List.map_append]; rfl
      have g8 : Gr (· = a) G H G7 (upd H7 lv (.lst (as.map V.ref ++ [V.ref b]))) := gg7.wr (.inl nvH) gv7 hv7
      have ha8 : upd H7 lv (.lst (as.map V.ref ++ [V.ref b])) a = some (.ins (cWv K) dx (fWave (nV z) (nV R.length) (.ref lv))) := by rw [upd_ne va.symm]; exact ha7
      have hr8 : upd H7 lv (.lst (as.map V.ref ++ [V.ref b])) ri = some (.lst (vN Rr)) := by rw [upd_ne vr]; exact hr7
      have hd8 : upd H7 lv (.lst (as.map V.ref ++ [V.ref b])) D = some (.lst ((dgs (bl z - 1 - i) Rr).map V.int)) := by rw [upd_ne vd]; exact hd7
      have hv8 : upd H7 lv (.lst (as.map V.ref ++ [V.ref b])) lv = some (.lst ((as ++ [b]).map V.ref)) := by rw [upd_same, e8]
      generalize upd H7 lv (.lst (as.map V.ref ++ [V.ref b])) = H8 at *
      refine ⟨_, rfl, _, rfl, bl z - 1 - i, 0, Rr, ri, D, rfl, hr8, hd8, by omega, fun p0 H9 s9 n9 h9 => ?_⟩
      refine ⟨_, rfl, _, rfl, bl z - 1 - i, 1, Rr, ri, D, rfl, s9 _ _ hr8, s9 _ _ hd8, by omega, fun p1 H10 s10 n10 h10 => ?_⟩
      have hlen2 := pd_len01 (bl z - 1 - i) Rr
      refine ⟨p0, p1, _, _, rfl, rfl, s10 _ _ h9, h10, small (by rw [List.length_map, List.length_map]; omega), fun p np => ?_⟩
      have s11 : Same H8 (upd H10 p (.lst (vN (pd (bl z - 1 - i) 0 Rr) ++ vN (pd (bl z - 1 - i) 1 Rr)))) := (s9.trans s10).trans (Same.up np)
      refine ⟨x4, _, _, G7, as ++ [b], p, rfl, g8.trans (Gr.of g8.sub s11).mono, s11 _ _ ha8, s11 _ _ hv8, gv7, by rw [List.length_append, hal]; rfl, fun j c hj => ?_, ?_, (ne_of_none ((s9.trans s10) _ _ hv8) np).symm⟩
      · rcases Nat.lt_or_ge j as.length with h | h
        · rw [List.getElem?_append_left h] at hj
          exact (hbi j c hj).mono (g6.ext.trans g7.ext)
        · rw [List.getElem?_append_right h] at hj
          have hj' : j = i := by
            have := (List.getElem?_eq_some_iff.mp hj).1
            simp at this
            omega
          subst hj'
          rw [hal, Nat.sub_self] at hj
          cases (Option.some.inj hj)
          rw [hRr]
          exact hB
      · rw [upd_same, ← List.map_append, rst, hRr]
        rfl
  · rintro σ Hi ⟨x4, x6, x7, Gi, as, ri, rfl, gi, hai, hvi, gvi, hal, hbi, hri, _⟩
    have g9 := gi.frz nvH hvi
    exact q _ _ _ g9 hai ⟨lv, as, rfl, upd_same, hal, fun j b hj => (hbi j b hj).mono (same_frz gi.sub hvi)⟩
end
end K5
set_option Elab.async false
set_option linter.all false
set_option maxRecDepth 100000
set_option maxHeartbeats 4000000
namespace K5
open PySem PySem.Spec PyProof.Rows L2
/-! ### ways, and the sorted rows, plainly -/
abbrev Way := List Nat
def Tr.kids : Tr → List Tr
  | .tx _ => []
  | .el _ cs => cs
def Tr.ch (t : Tr) (j : Nat) : Tr := t.kids.getD j (.tx Str.empty)
def Tr.go : Tr → Way → Tr
  | t, [] => t
  | t, j :: w => (t.ch j).go w
def Tr.ok : Tr → Way → Prop
  | _, [] => True
  | t, j :: w => j < t.kids.length ∧ (t.ch j).ok w
theorem go_app : ∀ (t : Tr) (u v : Way), t.go (u ++ v) = (t.go u).go v
  | t, [], v => rfl
  | t, j :: u, v => go_app (t.ch j) u v
theorem ok_app : ∀ (t : Tr) (u v : Way), t.ok (u ++ v) ↔ t.ok u ∧ (t.go u).ok v
  | t, [], v => by simp [Tr.ok, Tr.go]
  | t, j :: u, v => by
    show (j < t.kids.length ∧ (t.ch j).ok (u ++ v)) ↔ (j < t.kids.length ∧ (t.ch j).ok u) ∧ ((t.ch j).go u).ok v
    rw [ok_app (t.ch j) u v, and_assoc]
theorem go_snoc (t : Tr) (u : Way) (j : Nat) : t.go (u ++ [j]) = (t.go u).ch j := go_app t u [j]
theorem ok_snoc (t : Tr) (u : Way) (j : Nat) : t.ok (u ++ [j]) ↔ t.ok u ∧ j < (t.go u).kids.length := by rw [ok_app]; simp [Tr.ok]
def lab (nm : List Str) : Tr → Nat
  | .tx _ => 0
  | .el n _ => 1 + nm.idxOf n
def Tr.fl (t : Tr) : Bool := !t.kids.isEmpty
def nfl (t : Tr) : Nat := if t.fl then 1 else 0
def sym (nm : List Str) (t : Tr) : Nat := 2 * lab nm t + nfl t
theorem fl_iff {t : Tr} : t.fl = true ↔ 0 < t.kids.length := by
  unfold Tr.fl
  cases t.kids <;> simp
/-- is it the last child -/
def lst (r : Tr) (w : Way) : Nat := if w = [] then 1 else if w.getLastD 0 + 1 = (r.go w.dropLast).kids.length then 1 else 0
theorem lst_snoc (r : Tr) (w : Way) (j : Nat) : lst r (w ++ [j]) = if j + 1 = (r.go w).kids.length then 1 else 0 := by
  unfold lst
  rw [if_neg (by simp), List.dropLast_concat]
  simp
def kidsW (r : Tr) (w : Way) : List Way := (List.range (r.go w).kids.length).map fun j => w ++ [j]
def isL (r : Tr) (nm : List Str) (l : Nat) (w : Way) : Bool := lab nm (r.go w) == l && (r.go w).fl
def famL (r : Tr) (nm : List Str) (S : List Way) (l : Nat) : List Way := S.filter (isL r nm l)
def fam (r : Tr) (nm : List Str) (S : List Way) : List Way := (List.range nm.length).flatMap fun l => famL r nm S (l + 1)
structure Ord (r : Tr) (nm : List Str) (S : List Way) : Prop where
  eq : S = [] :: (fam r nm S).flatMap (kidsW r)
  nodup : S.Nodup
  ok : ∀ w ∈ S, r.ok w
  mem : ∀ w, r.ok w → w ∈ S
  named : ∀ w ∈ S, ∀ n cs, r.go w = .el n cs → n ∈ nm
  names : ∀ n ∈ nm, ∃ w ∈ S, ∃ cs, r.go w = .el n cs
  asc : nm.Pairwise fun a b => a.cps.toList < b.cps.toList
/-- how many with children have a label up to l -/
def stc (r : Tr) (nm : List Str) (S : List Way) : Nat → Nat
  | 0 => 0
  | l + 1 => stc r nm S l + (famL r nm S (l + 1)).length
theorem stc_len (r : Tr) (nm : List Str) (S : List Way) : ∀ l, ((List.range l).flatMap fun l => famL r nm S (l + 1)).length = stc r nm S l
  | 0 => rfl
  | l + 1 => by rw [List.range_succ, List.flatMap_append, List.length_append, stc_len r nm S l]; simp [stc]
theorem sym_inj {nm : List Str} {t u : Tr} (h : sym nm t = sym nm u) : lab nm t = lab nm u ∧ t.fl = u.fl := by
  unfold sym nfl at h
  cases h1 : t.fl <;> cases h2 : u.fl <;> rw [h1, h2] at h <;> simp at h <;> refine ⟨by omega, ?_⟩ <;> first | rfl | omega
theorem cnt_sym (r : Tr) (nm : List Str) {l : Nat} : ∀ S : List Way, (S.map fun w => sym nm (r.go w)).count (2 * l + 1) = (famL r nm S l).length
  | [] => rfl
  | w :: S => by
    rw [List.map_cons, List.count_cons, cnt_sym r nm S]
    unfold famL
    rw [List.filter_cons]
    by_cases h : isL r nm l w = true
    · rw [if_pos h]
      have h2 := h
      unfold isL at h2
      rw [Bool.and_eq_true, beq_iff_eq] at h2
      rw [if_pos (by unfold sym nfl; rw [h2.1, h2.2]; simp)]
      rfl
    · rw [if_neg h, if_neg ?_]
      · rfl
      · intro e
        rw [beq_iff_eq] at e
        unfold sym nfl at e
        apply h
        unfold isL
        rw [Bool.and_eq_true, beq_iff_eq]
        cases hf : (r.go w).fl <;> rw [hf] at e <;> simp at e
        · omega
        · exact ⟨by omega, rfl⟩
/-- in the flattened list, an item of the i-th part -/
theorem flat_get {α β : Type} {f : α → List β} : ∀ {xs : List α} {i : Nat} {x : α} {j : Nat} {y : β}, xs[i]? = some x → (f x)[j]? = some y → (xs.flatMap f)[((xs.take i).flatMap f).length + j]? = some y
  | a :: xs, 0, x, j, y, h, hy => by
    cases (Option.some.inj h)
    simp only [List.take_zero, List.flatMap_nil, List.length_nil, Nat.zero_add, List.flatMap_cons]
    rw [List.getElem?_append_left (List.getElem?_eq_some_iff.mp hy).1]
    exact hy
  | a :: xs, i + 1, x, j, y, h, hy => by
    rw [List.take_succ_cons, List.flatMap_cons, List.flatMap_cons, List.length_append, Nat.add_assoc, List.getElem?_append_right (by omega), Nat.add_sub_cancel_left]
    exact flat_get (xs := xs) (by simpa using h) hy
theorem flt_get {α : Type} {p : α → Bool} : ∀ {xs : List α} {i : Nat} {x : α}, xs[i]? = some x → p x = true → (xs.filter p)[((xs.take i).filter p).length]? = some x
  | a :: xs, 0, x, h, hp => by
    cases (Option.some.inj h)
    rw [List.take_zero, List.filter_nil, List.filter_cons, if_pos hp]
    rfl
  | a :: xs, i + 1, x, h, hp => by
    have ih := flt_get (xs := xs) (i := i) (by simpa using h) hp
    rw [List.take_succ_cons, List.filter_cons, List.filter_cons]
    by_cases ha : p a = true
    · rw [if_pos ha, if_pos ha, List.length_cons, List.getElem?_cons_succ]
      exact ih
    · rw [if_neg ha, if_neg ha]
      exact ih
variable {r : Tr} {nm : List Str} {S : List Way}
theorem lab_le (O : Ord r nm S) {w : Way} (hw : w ∈ S) : lab nm (r.go w) ≤ nm.length := by
  cases e : r.go w with
  | tx s => exact Nat.zero_le _
  | el n cs =>
    have := List.idxOf_lt_length_of_mem (O.named w hw n cs e)
    simp [lab]; omega
theorem lab_pos {t : Tr} (h : t.fl = true) : 1 ≤ lab nm t := by
  cases t with
  | tx s => simp [Tr.fl, Tr.kids] at h
  | el n cs => simp [lab]
/-- a node with children in its family's place -/
theorem fam_at (O : Ord r nm S) {i : Nat} {w : Way} (hi : S[i]? = some w) (hf : (r.go w).fl = true) :
    (fam r nm S)[stc r nm S (lab nm (r.go w) - 1) + ((S.take i).map fun w => sym nm (r.go w)).count (sym nm (r.go w))]? = some w := by
  have h1 := lab_pos (nm := nm) hf
  have h2 := lab_le O (List.mem_of_getElem? hi)
  have e1 : sym nm (r.go w) = 2 * lab nm (r.go w) + 1 := by unfold sym nfl; rw [hf]; rfl
  have hL : isL r nm (lab nm (r.go w)) w = true := by unfold isL; rw [hf, Bool.and_true, beq_iff_eq]
  have hg := flt_get hi hL
  have hx : (List.range nm.length)[lab nm (r.go w) - 1]? = some (lab nm (r.go w) - 1) := List.getElem?_range (by omega)
  have hj : (famL r nm S (lab nm (r.go w) - 1 + 1))[((S.take i).map fun w => sym nm (r.go w)).count (sym nm (r.go w))]? = some w := by
    rw [show lab nm (r.go w) - 1 + 1 = lab nm (r.go w) by omega, e1, cnt_sym]
    exact hg
  have := flat_get (f := fun l => famL r nm S (l + 1)) hx hj
  rw [List.take_range, Nat.min_eq_left (by omega), stc_len] at this
  exact this
/-- where the family m begins -/
def pos (r : Tr) (nm : List Str) (S : List Way) (m : Nat) : Nat := 1 + (((fam r nm S).take m).flatMap (kidsW r)).length
theorem kidsW_len (r : Tr) (w : Way) : (kidsW r w).length = (r.go w).kids.length := by simp [kidsW]
theorem pos_0 : pos r nm S 0 = 1 := by simp [pos]
theorem pos_succ {m : Nat} {w : Way} (h : (fam r nm S)[m]? = some w) : pos r nm S (m + 1) = pos r nm S m + (r.go w).kids.length := by
  unfold pos
  rw [List.take_add_one, h, List.flatMap_append, List.length_append]
  simp [kidsW]
  omega
theorem fam_mem {w : Way} (h : w ∈ fam r nm S) : w ∈ S ∧ (r.go w).fl = true := by
  unfold fam famL at h
  obtain ⟨l, _, h⟩ := List.mem_flatMap.mp h
  obtain ⟨h1, h2⟩ := List.mem_filter.mp h
  unfold isL at h2
  rw [Bool.and_eq_true] at h2
  exact ⟨h1, h2.2⟩
/-- the children stand in a row -/
theorem kid_at (O : Ord r nm S) {m j : Nat} {w : Way} (h : (fam r nm S)[m]? = some w) (hj : j < (r.go w).kids.length) : S[pos r nm S m + j]? = some (w ++ [j]) := by
  have hk : (kidsW r w)[j]? = some (w ++ [j]) := by
    unfold kidsW
    rw [List.getElem?_map, List.getElem?_range hj]
    rfl
  have := flat_get (f := kidsW r) h hk
  rw [show pos r nm S m + j = (((fam r nm S).take m).flatMap (kidsW r)).length + j + 1 by unfold pos; omega]
  have e := congrArg (fun l => l[(((fam r nm S).take m).flatMap (kidsW r)).length + j + 1]?) O.eq
  exact e.trans (by rw [List.getElem?_cons_succ]; exact this)
def lsts (r : Tr) (S : List Way) : List Int := S.map fun w => ((lst r w : Nat) : Int)
theorem lst_01 (r : Tr) (w : Way) : lst r w = 0 ∨ lst r w = 1 := by unfold lst; split <;> first | exact .inr rfl | (split <;> simp)
theorem lsts_bt (r : Tr) (S : List Way) : Bt (lsts r S) := fun x hx => by
  obtain ⟨w, _, rfl⟩ := List.mem_map.mp hx
  rcases lst_01 r w with h | h <;> rw [h]
  · exact .inl rfl
  · exact .inr rfl
/-- the lasts of a family: all 0 but the last -/
theorem kids_sum (r : Tr) (w : Way) : ∀ i, i ≤ (r.go w).kids.length → (((kidsW r w).take i).map fun w => ((lst r w : Nat) : Int)).sum = if i = (r.go w).kids.length ∧ 0 < i then 1 else 0
  | 0, _ => by simp
  | i + 1, h => by
    have ih := kids_sum r w i (by omega)
    have hk : (kidsW r w)[i]? = some (w ++ [i]) := by
      unfold kidsW
      rw [List.getElem?_map, List.getElem?_range (by omega)]
      rfl
    rw [List.take_add_one, hk, List.map_append, List.sum_append, ih, if_neg (by omega)]
    simp only [Option.toList_some, List.map_cons, List.map_nil, List.sum_cons, List.sum_nil, lst_snoc]
    by_cases e : i + 1 = (r.go w).kids.length
    · rw [if_pos e, if_pos ⟨e, by omega⟩]; rfl
    · rw [if_neg e, if_neg (by omega)]; rfl
theorem fams_sum : ∀ F : List Way, (∀ w ∈ F, (r.go w).fl = true) → ((F.flatMap (kidsW r)).map fun w => ((lst r w : Nat) : Int)).sum = (F.length : Int)
  | [], _ => rfl
  | w :: F, h => by
    rw [List.flatMap_cons, List.map_append, List.sum_append, fams_sum F fun v hv => h v (List.mem_cons_of_mem _ hv)]
    have k := kids_sum r w (r.go w).kids.length (Nat.le_refl _)
    have hp := fl_iff.mp (h w (List.mem_cons_self ..))
    rw [List.take_of_length_le (by rw [kidsW_len]; exact Nat.le_refl _), if_pos ⟨rfl, hp⟩] at k
    rw [k, List.length_cons]
    omega
theorem fam_fl {m : Nat} {w : Way} (h : (fam r nm S)[m]? = some w) : 0 < (r.go w).kids.length := fl_iff.mp (fam_mem (List.mem_of_getElem? h)).2
theorem nil_in (O : Ord r nm S) : S[0]? = some [] := by rw [O.eq]; rfl
theorem take_pos (O : Ord r nm S) (m : Nat) : S.take (pos r nm S m) = [] :: ((fam r nm S).take m).flatMap (kidsW r) := by
  have e : S = ([] :: ((fam r nm S).take m).flatMap (kidsW r)) ++ ((fam r nm S).drop m).flatMap (kidsW r) := by
    conv => lhs; rw [O.eq, ← List.take_append_drop m (fam r nm S), List.flatMap_append]
    rfl
  have e2 := congrArg (fun l => l.take (pos r nm S m)) e
  exact e2.trans (List.take_left' (by unfold pos; rw [List.length_cons]; omega))
/-- the m-th end -/
theorem end_at (O : Ord r nm S) {m : Nat} (hm : m ≤ (fam r nm S).length) : (lsts r S)[pos r nm S m - 1]? = some 1 ∧ sm (lsts r S) (pos r nm S m - 1) = m := by
  have key : sm (lsts r S) (pos r nm S m) = m + 1 := by
    unfold sm lsts
    rw [← List.map_take, take_pos O, List.map_cons, List.sum_cons, fams_sum _ fun w hw => (fam_mem (List.mem_of_mem_take hw)).2, List.length_take, Nat.min_eq_left hm]
    show (1 : Int) + (m : Int) = m + 1
    omega
  have hp : 1 ≤ pos r nm S m := by unfold pos; omega
  have h1 : (lsts r S)[pos r nm S m - 1]? = some 1 := by
    unfold lsts
    rw [List.getElem?_map]
    cases m with
    | zero => rw [pos_0, nil_in O]; rfl
    | succ m =>
      have hw := List.getElem?_eq_getElem (show m < (fam r nm S).length by omega)
      have h0 := fam_fl hw
      have := kid_at O hw (j := (r.go (fam r nm S)[m]).kids.length - 1) (by omega)
      rw [pos_succ hw, show pos r nm S m + (r.go (fam r nm S)[m]).kids.length - 1 = pos r nm S m + ((r.go (fam r nm S)[m]).kids.length - 1) by omega, this]
      show some (((lst r _ : Nat) : Int)) = some 1
      rw [lst_snoc, if_pos (by omega)]
      rfl
  refine ⟨h1, ?_⟩
  have := sm_succ h1
  rw [show pos r nm S m - 1 + 1 = pos r nm S m by omega, key] at this
  omega
/-- the text's place -/
def txs (r : Tr) (S : List Way) : List Str := (S.filter fun w => (r.go w).isTx).map fun w => match r.go w with | .tx s => s | .el _ _ => Str.empty
theorem sym_0 {nm : List Str} {t : Tr} : (sym nm t == 0) = t.isTx := by
  cases t with
  | tx s => rfl
  | el n cs => simp [sym, lab, Tr.isTx]; omega
theorem cnt_0 (r : Tr) (nm : List Str) : ∀ S : List Way, (S.map fun w => sym nm (r.go w)).count 0 = (S.filter fun w => (r.go w).isTx).length
  | [] => rfl
  | w :: S => by
    rw [List.map_cons, List.count_cons, cnt_0 r nm S, List.filter_cons, sym_0]
    cases (r.go w).isTx <;> simp
theorem txs_at {i : Nat} {w : Way} {z : Str} (hi : S[i]? = some w) (hw : r.go w = .tx z) : (txs r S)[((S.take i).map fun w => sym nm (r.go w)).count 0]? = some z := by
  rw [cnt_0]
  unfold txs
  rw [List.getElem?_map, flt_get hi (by rw [hw]; rfl)]
  show some (match r.go w with | .tx s => s | .el _ _ => Str.empty) = some z
  rw [hw]
end K5
set_option Elab.async false
set_option linter.all false
set_option maxRecDepth 100000
set_option maxHeartbeats 4000000
namespace K5
open PySem PySem.Spec PyProof.Rows L2
/-! ### kept documents -/
abbrev cKp (K : PySem.W.Frag) : Addr := He.ga K "Kept"
abbrev syms (r : Tr) (nm : List Str) (S : List Way) : List Nat := S.map fun w => sym nm (r.go w)
structure KepD (r : Tr) (nm : List Str) (S : List Way) : Prop where
  O : Ord r nm S
  hz : S.length ≤ 50000
  hn : nm.length ≤ 30000
structure KepP (K : PySem.W.Frag) (G : Hp) (r : Tr) (nm : List Str) (S : List Way) (na ta wv lb st : Addr) : Prop where
  na : G na = some (.lst (nm.map V.str))
  ta : G ta = some (.lst ((txs r S).map V.str))
  wv : IsWave K G (syms r nm S) (2 * nm.length + 2) wv
  lb : IsBits K G (lsts r S) lb
  st : G st = some (.lst ((List.range (nm.length + 1)).map fun l => nV (stc r nm S l)))
def IsKep (K : PySem.W.Frag) (G : Hp) (r : Tr) (nm : List Str) (S : List Way) (a : Addr) : Prop := KepD r nm S ∧ ∃ dx na ta wv lb st, G a = some (.ins (cKp K) dx (fKept (.ref na) (.ref ta) (.ref wv) (.ref lb) (nV S.length) (.ref st))) ∧ KepP K G r nm S na ta wv lb st
theorem IsKep.mono {K : PySem.W.Frag} {G G' : Hp} {r : Tr} {nm : List Str} {S : List Way} {a : Addr} (s : Same G G') (h : IsKep K G r nm S a) : IsKep K G' r nm S a := by
  obtain ⟨h0, dx, na, ta, wv, lb, st, h1, h2⟩ := h
  exact ⟨h0, dx, na, ta, wv, lb, st, s _ _ h1, s _ _ h2.na, s _ _ h2.ta, h2.wv.mono s, h2.lb.mono s, s _ _ h2.st⟩
theorem IsBits.ins {K : PySem.W.Frag} {G : Hp} {xs : List Int} {a : Addr} (h : IsBits K G xs a) : ∃ dx x0 x1 x2 x3, G a = some (.ins (cB K) dx (fBits x0 x1 x2 x3)) := by
  obtain ⟨_, _, dx, fs, h1, r, b, rfl, _⟩ := h
  exact ⟨dx, _, _, _, _, h1⟩
theorem IsWave.ins {K : PySem.W.Frag} {G : Hp} {R : List Nat} {z : Nat} {a : Addr} (h : IsWave K G R z a) : ∃ dx x2, G a = some (.ins (cWv K) dx (fWave (nV z) (nV R.length) x2)) := by
  obtain ⟨_, _, _, _, dx, fs, h1, lv, as, rfl, _⟩ := h
  exact ⟨dx, _, h1⟩
abbrev nameV : Tr → V
  | .tx _ => .non
  | .el n _ => .str n
abbrev textV : Tr → V
  | .tx s => .str s
  | .el _ _ => .non
abbrev Kat (K : PySem.W.Frag) (G H : Hp) (r : Tr) (nm : List Str) (S : List Way) (a : Addr) (i : Nat) (w : Way) : Prop := Same G H ∧ IsKep K G r nm S a ∧ S[i]? = some w
def spSymb (K : PySem.W.Frag) : Sp := fun vs H Q _ => ∃ (G : Hp) (r : Tr) (nm : List Str) (S : List Way) (a : Addr) (i : Nat) (w : Way), vs = [.ref a, nV i] ∧ Kat K G H r nm S a i w ∧ ∀ H', Same H H' → Q (nV (sym nm (r.go w))) H'
def spFamNo (K : PySem.W.Frag) : Sp := fun vs H Q _ => ∃ (G : Hp) (r : Tr) (nm : List Str) (S : List Way) (a : Addr) (i : Nat) (w : Way), vs = [.ref a, nV i] ∧ Kat K G H r nm S a i w ∧ (r.go w).fl = true ∧ ∀ m H', (fam r nm S)[m]? = some w → Same H H' → Q (nV (1 + m)) H'
def spFamSt (K : PySem.W.Frag) : Sp := fun vs H Q _ => ∃ (G : Hp) (r : Tr) (nm : List Str) (S : List Way) (a : Addr) (m : Nat) (w : Way), vs = [.ref a, nV (1 + m)] ∧ Same G H ∧ IsKep K G r nm S a ∧ (fam r nm S)[m]? = some w ∧ ∀ p H', Same H H' → H p = none → H' p = some (.tup [nV (pos r nm S m), nV (pos r nm S (m + 1))]) → Q (.ref p) H'
def spName (K : PySem.W.Frag) : Sp := fun vs H Q _ => ∃ (G : Hp) (r : Tr) (nm : List Str) (S : List Way) (a : Addr) (i : Nat) (w : Way), vs = [.ref a, nV i] ∧ Kat K G H r nm S a i w ∧ ∀ H', Same H H' → Q (nameV (r.go w)) H'
def spText (K : PySem.W.Frag) : Sp := fun vs H Q _ => ∃ (G : Hp) (r : Tr) (nm : List Str) (S : List Way) (a : Addr) (i : Nat) (w : Way), vs = [.ref a, nV i] ∧ Kat K G H r nm S a i w ∧ ∀ H', Same H H' → Q (textV (r.go w)) H'
def spFam (K : PySem.W.Frag) : Sp := fun vs H Q _ => ∃ (G : Hp) (r : Tr) (nm : List Str) (S : List Way) (a : Addr) (i : Nat) (w : Way), vs = [.ref a, nV i] ∧ Kat K G H r nm S a i w ∧
  (∀ p b H', 0 < (r.go w).kids.length → Same H H' → H p = none → H' p = some (.tup [nV b, nV (b + (r.go w).kids.length)]) → (∀ j, j < (r.go w).kids.length → S[b + j]? = some (w ++ [j])) → Q (.ref p) H') ∧
  ((r.go w).kids = [] → ∀ H', Same H H' → Q .non H')
def spKWt (K : PySem.W.Frag) : Sp := fun vs H Q _ => ∃ (G : Hp) (r : Tr) (nm : List Str) (S : List Way) (a : Addr) (i : Nat) (w : Way), vs = [.ref a, nV i] ∧ Kat K G H r nm S a i w ∧ (r.go w).size ≤ 50000 ∧ ∀ H', Same H H' → Q (nV (r.go w).size) H'
def spSub (K : PySem.W.Frag) (n : Nat) : Sp := fun vs H Q _ => ∃ (G : Hp) (r : Tr) (nm : List Str) (S : List Way) (a : Addr) (i : Nat) (w : Way), vs = [.ref a, nV i] ∧ Kat K G H r nm S a i w ∧ (r.go w).depth ≤ n ∧ (r.go w).size ≤ 50000 ∧ ∀ G' v' H', Gr W0 G H G' H' → IsT G' (r.go w) v' → Q v' H'
theorem fl_kids {t : Tr} : t.fl = true ↔ t.kids ≠ [] := by unfold Tr.fl; cases t.kids <;> simp
theorem nfl_le (t : Tr) : nfl t ≤ 1 := by unfold nfl; split <;> omega
theorem sym_div (nm : List Str) (t : Tr) : sym nm t / 2 = lab nm t := by
  have := nfl_le t
  unfold sym
  omega
theorem sym_lt {r : Tr} {nm : List Str} {S : List Way} (O : Ord r nm S) {w : Way} (hw : w ∈ S) : sym nm (r.go w) < 2 * nm.length + 2 := by
  have := lab_le O hw
  have := nfl_le (r.go w)
  unfold sym
  omega
theorem int_div2 (n : Nat) : ((n : Nat) : Int) / 2 = ((n / 2 : Nat) : Int) := by omega
theorem int_mod2 (n : Nat) : ((n : Nat) : Int) % 2 = ((n % 2 : Nat) : Int) := by omega
theorem nV_eq (a b : Nat) : decide (nV a = nV b) = decide (a = b) := by
  by_cases h : a = b
  · rw [h]; simp
  · rw [decide_eq_false h, decide_eq_false (fun z => h (by injection z with z; omega))]
section
variable {P : Program} {w : World} {K : PySem.W.Frag} {mg : Str → Option Value} {base : Heap} {k : Nat}
theorem sc_Kept_symbol : FnScope ["self", "row"] ["self", "row"] (defScope s_Kept_symbol) := ⟨rfl, rfl, rfl, by decide +kernel, rfl, by decide +kernel, by decide +kernel⟩
theorem md_Kept_symbol (D : Dm K (cKp K) "symbol" "Kept.symbol" s_Kept_symbol) (T : Tx K mg) (h_Wave_at : Md P w K mg base (cWv K) "at" ["self", "place"] [] k (spWaveAt K)) : Md P w K mg base (cKp K) "symbol" ["self", "row"] [] (k + 1) (spSymb K) := by
  refine md_mk D sc_Kept_symbol (fun _ _ _ _ _ _ us hl => match us, hl with | [_, _], _ => rfl) (fun vs H Q E h => ?_) (fun f cdv A outer s H vs Q E hr h => ?_)
  · obtain ⟨G, r, nm, S, a, i, wy, rfl, _⟩ := h; rfl
  obtain ⟨G, r, nm, S, a, i, wy, rfl, ⟨sg, hk, hi⟩, q⟩ := h
  refine ⟨_, (pss_one (ps_ret (pe_md h_Wave_at T.cWave hr (pe_fld (pv 0) rfl) (pa_cons (pv 1) pa_nil)))), ?_⟩
  obtain ⟨kd, dx, na, ta, wv, lb, st, ha, kp⟩ := hk
  obtain ⟨dw, x2, hw⟩ := kp.wv.ins
  exact ⟨_, rfl, a, _, dx, _, _, rfl, sg _ _ ha, T.cKept, T.nKept_wave, lKept_wave, wv, dw, _, rfl, sg _ _ hw, lWave_no_at, _, rfl, G, _, _, wv, i, _, rfl, sg, kp.wv, by rw [List.getElem?_map, hi]; rfl, q⟩
theorem sc_Kept_family_number : FnScope ["self", "row", "symbol"] ["self", "row"] (defScope s_Kept_family_number) := ⟨rfl, rfl, rfl, by decide +kernel, rfl, by decide +kernel, by decide +kernel⟩
theorem md_Kept_family_number (D : Dm K (cKp K) "family_number" "Kept.family_number" s_Kept_family_number) (T : Tx K mg) (h_Kept_symbol : Md P w K mg base (cKp K) "symbol" ["self", "row"] [] k (spSymb K)) (h_Wave_rank : Md P w K mg base (cWv K) "rank" ["self", "symbol", "i"] [] k (spWaveRk K)) :
    Md P w K mg base (cKp K) "family_number" ["self", "row"] [] (k + 1) (spFamNo K) := by
  refine md_mk D sc_Kept_family_number (fun _ _ _ _ _ _ us hl => match us, hl with | [_, _], _ => rfl) (fun vs H Q E h => ?_) (fun f cdv A outer s H vs Q E hr h => ?_)
  · obtain ⟨G, r, nm, S, a, i, wy, rfl, _⟩ := h; rfl
  obtain ⟨G, r, nm, S, a, i, wy, rfl, ⟨sg, hk, hi⟩, hf, q⟩ := h
  refine ⟨_, (pss_cons (ps_set (i := 2) sc_Kept_family_number.nd rfl (Or.inl rfl) (pe_md h_Kept_symbol T.cKept hr (pv 0) (pa_cons (pv 1) pa_nil)))
    (pss_one (ps_ret (pe_op op_add (pe_op op_add pe_int (pe_ix ix_list (pe_fld (pv 0) rfl) (pe_op op_sub (pe_op op_fdiv (pv 2) pe_int) pe_int) (fun _ _ => rfl))) (pe_md h_Wave_rank T.cWave hr (pe_fld (pv 0) rfl) (pa_cons (pv 2) (pa_cons (pv 1) pa_nil))))))), ?_⟩
  obtain ⟨kd, dx, na, ta, wv, lb, st, ha, kp⟩ := id hk
  have hm := List.mem_of_getElem? hi
  have hlt := (List.getElem?_eq_some_iff.mp hi).1
  have h1 := lab_pos (nm := nm) hf
  have h2 := lab_le kd.O hm
  have hsd := sym_div nm (r.go wy)
  refine ⟨_, rfl, a, dx, _, rfl, sg _ _ ha, lKept_no_symbol, _, rfl, G, r, nm, S, a, i, wy, rfl, ⟨sg, hk, hi⟩, fun H1 s1 => ?_⟩
  have g1 := sg.trans s1
  obtain ⟨dw, x2, hw⟩ := kp.wv.ins
  refine ⟨_, rfl, a, _, dx, _, _, rfl, g1 _ _ ha, T.cKept, T.nKept_starts, lKept_starts, _, rfl, _, _, rfl, rfl, ⟨by decide, by decide⟩, _, _, rfl, rfl, st, _, _, nV (stc r nm S (lab nm (r.go wy) - 1)), rfl, rfl, SqL.of (g1 _ _ kp.st), atI_n (j := lab nm (r.go wy) - 1) (by omega) (by rw [List.getElem?_map, List.getElem?_range (by omega)]; rfl), _, _, rfl, rfl, ?_⟩
  refine ⟨_, rfl, a, _, dx, _, _, rfl, g1 _ _ ha, T.cKept, T.nKept_wave, lKept_wave, wv, dw, _, rfl, g1 _ _ hw, lWave_no_rank, _, rfl, _, rfl, G, _, _, wv, sym nm (r.go wy), i, rfl, g1, kp.wv, sym_lt kd.O hm, by rw [List.length_map]; omega, fun H2 s2 => ?_⟩
  refine ⟨_, _, rfl, rfl, ?_⟩
  have := q _ H2 (fam_at kd.O hi hf) (s1.trans s2)
  rw [← List.map_take]
  show Q (V.int ((1 : Int) + ((stc r nm S (lab nm (r.go wy) - 1) : Nat) : Int) + ((((S.take i).map fun w => sym nm (r.go w)).count (sym nm (r.go wy)) : Nat) : Int))) H2
  rw [show (1 : Int) + ((stc r nm S (lab nm (r.go wy) - 1) : Nat) : Int) + ((((S.take i).map fun w => sym nm (r.go w)).count (sym nm (r.go wy)) : Nat) : Int) = ((1 + (stc r nm S (lab nm (r.go wy) - 1) + ((S.take i).map fun w => sym nm (r.go w)).count (sym nm (r.go wy))) : Nat) : Int) by omega]
  exact this
theorem sc_Kept_family_stretch : FnScope ["self", "number"] ["self", "number"] (defScope s_Kept_family_stretch) := ⟨rfl, rfl, rfl, by decide +kernel, rfl, by decide +kernel, by decide +kernel⟩
theorem md_Kept_family_stretch (D : Dm K (cKp K) "family_stretch" "Kept.family_stretch" s_Kept_family_stretch) (T : Tx K mg) (h_Bits_select1 : Md P w K mg base (cB K) "select" ["self", "k", "digit"] [.int 1] k (spBitsSel K)) : Md P w K mg base (cKp K) "family_stretch" ["self", "number"] [] (k + 1) (spFamSt K) := by
  refine md_mk D sc_Kept_family_stretch (fun _ _ _ _ _ _ us hl => match us, hl with | [_, _], _ => rfl) (fun vs H Q E h => ?_) (fun f cdv A outer s H vs Q E hr h => ?_)
  · obtain ⟨G, r, nm, S, a, i, wy, rfl, _⟩ := h; rfl
  obtain ⟨G, r, nm, S, a, m, wy, rfl, sg, hk, hm, q⟩ := h
  refine ⟨_, (pss_one (ps_ret (pe_tup (pa_cons (pe_op op_add (pe_md h_Bits_select1 T.cBits hr (pe_fld (pv 0) rfl) (pa_cons (pe_op op_sub (pv 1) pe_int) pa_nil)) pe_int) (pa_cons (pe_op op_add (pe_md h_Bits_select1 T.cBits hr (pe_fld (pv 0) rfl) (pa_cons (pv 1) pa_nil)) pe_int) pa_nil))))), ?_⟩
  obtain ⟨kd, dx, na, ta, wv, lb, st, ha, kp⟩ := id hk
  have hlt := (List.getElem?_eq_some_iff.mp hm).1
  obtain ⟨db, x0, x1, x2, x3, hb⟩ := kp.lb.ins
  obtain ⟨e1, e2⟩ := end_at kd.O (m := m) (by omega)
  obtain ⟨e3, e4⟩ := end_at kd.O (m := m + 1) (by omega)
  have p1 : 1 ≤ pos r nm S m := by unfold pos; omega
  have p2 : 1 ≤ pos r nm S (m + 1) := by unfold pos; omega
  refine ⟨_, rfl, a, _, dx, _, _, rfl, sg _ _ ha, T.cKept, T.nKept_lasts, lKept_lasts, lb, db, _, rfl, sg _ _ hb, lBits_no_select, _, rfl, _, _, rfl, rfl, G, _, lb, m, _, ?_, sg, kp.lb, e1, e2, fun H1 s1 => ⟨_, _, rfl, rfl, ?_⟩⟩
  · show [V.ref lb, V.int (((1 + m : Nat) : Int) - 1), .int 1] = _
    rw [show ((1 + m : Nat) : Int) - 1 = ((m : Nat) : Int) by omega]
  have g1 := sg.trans s1
  refine ⟨_, rfl, a, _, dx, _, _, rfl, g1 _ _ ha, T.cKept, T.nKept_lasts, lKept_lasts, lb, db, _, rfl, g1 _ _ hb, lBits_no_select, _, rfl, G, _, lb, m + 1, _, ?_, g1, kp.lb, e3, e4, fun H2 s2 => ⟨_, _, rfl, rfl, ?_⟩⟩
  · show [V.ref lb, V.int ((1 + m : Nat) : Int), .int 1] = _
    rw [show 1 + m = m + 1 by omega]
  refine ⟨by show 2 ≤ sizeLine; decide, fun p np => q p _ ((s1.trans s2).trans (Same.up np)) ((s1.trans s2).free np) ?_⟩
  rw [upd_same]
  show some (HO.tup [V.int (((pos r nm S m - 1 : Nat) : Int) + 1), V.int (((pos r nm S (m + 1) - 1 : Nat) : Int) + 1)]) = _
  rw [show ((pos r nm S m - 1 : Nat) : Int) + 1 = ((pos r nm S m : Nat) : Int) by omega, show ((pos r nm S (m + 1) - 1 : Nat) : Int) + 1 = ((pos r nm S (m + 1) : Nat) : Int) by omega]
theorem sc_name : FnScope ["kept", "row", "label"] ["kept", "row"] (defScope s_name) := ⟨rfl, rfl, rfl, by decide +kernel, rfl, by decide +kernel, by decide +kernel⟩
theorem hd_name (D : Df K mg "name" s_name) (T : Tx K mg) (h_Kept_symbol : Md P w K mg base (cKp K) "symbol" ["self", "row"] [] k (spSymb K)) : Hd P w K mg base "name" ["kept", "row"] (k + 1) (spName K) := by
  refine hd_mk D sc_name (fun _ _ _ _ _ _ us hl => match us, hl with | [_, _], _ => rfl) (fun vs H Q E h => ?_) (fun f cdv A outer s H vs Q E hr h => ?_)
  · obtain ⟨G, r, nm, S, a, i, wy, rfl, _⟩ := h; rfl
  obtain ⟨G, r, nm, S, a, i, wy, rfl, ⟨sg, hk, hi⟩, q⟩ := h
  refine ⟨_, (pss_cons (ps_set (i := 2) sc_name.nd rfl (Or.inl rfl) (pe_op op_fdiv (pe_md h_Kept_symbol T.cKept hr (pv 0) (pa_cons (pv 1) pa_nil)) pe_int))
    (pss_cons (ps_if (pt_cmpR op_eq (pv 2) pe_int (nomark _))
      (pss_one (ps_ret pe_non))
      pss_nil)
    (pss_one (ps_ret (pe_ix ix_list (pe_fld (pv 0) rfl) (pe_op op_sub (pv 2) pe_int) (fun _ _ => rfl)))))), ?_⟩
  obtain ⟨kd, dx, na, ta, wv, lb, st, ha, kp⟩ := id hk
  have hm := List.mem_of_getElem? hi
  refine ⟨_, rfl, a, dx, _, rfl, sg _ _ ha, lKept_no_symbol, _, rfl, G, r, nm, S, a, i, wy, rfl, ⟨sg, hk, hi⟩, fun H1 s1 => ?_⟩
  have g1 := sg.trans s1
  refine ⟨_, _, rfl, rfl, ⟨by decide, by decide⟩, _, rfl, rfl, _, rfl, ?_⟩
  have hd : V.int (((sym nm (r.go wy) : Nat) : Int) / 2) = nV (lab nm (r.go wy)) := by rw [int_div2, sym_div]
  have qq := q H1 s1
  cases e : r.go wy with
  | tx z =>
    rw [e] at hd qq
    rw [show decide (V.int (((sym nm (Tr.tx z) : Nat) : Int) / 2) = V.int 0) = true from by rw [hd]; rfl]
    exact iteT qq
  | el n cs =>
    rw [e] at hd qq
    have hn := kd.O.named wy hm n cs e
    rw [show decide (V.int (((sym nm (Tr.el n cs) : Nat) : Int) / 2) = V.int 0) = false from by rw [hd]; exact (nV_eq _ 0).trans (decide_eq_false (by simp [lab]))]
    refine iteF ⟨_, rfl, a, _, dx, _, _, rfl, g1 _ _ ha, T.cKept, T.nKept_names, lKept_names, _, rfl, _, _, rfl, rfl, na, _, _, .str n, rfl, rfl, SqL.of (g1 _ _ kp.na), atI_n (j := nm.idxOf n) ?_ ?_, qq⟩
    · have := V.int.inj hd
      rw [this]
      simp only [lab]
      omega
    · rw [List.getElem?_map, List.getElem?_eq_getElem (List.idxOf_lt_length_of_mem hn), List.getElem_idxOf]
      rfl
theorem sc_text : FnScope ["kept", "row"] ["kept", "row"] (defScope s_text) := ⟨rfl, rfl, rfl, by decide +kernel, rfl, by decide +kernel, by decide +kernel⟩
theorem hd_text (D : Df K mg "text" s_text) (T : Tx K mg) (h_Kept_symbol : Md P w K mg base (cKp K) "symbol" ["self", "row"] [] k (spSymb K)) (h_Wave_rank : Md P w K mg base (cWv K) "rank" ["self", "symbol", "i"] [] k (spWaveRk K)) : Hd P w K mg base "text" ["kept", "row"] (k + 1) (spText K) := by
  refine hd_mk D sc_text (fun _ _ _ _ _ _ us hl => match us, hl with | [_, _], _ => rfl) (fun vs H Q E h => ?_) (fun f cdv A outer s H vs Q E hr h => ?_)
  · obtain ⟨G, r, nm, S, a, i, wy, rfl, _⟩ := h; rfl
  obtain ⟨G, r, nm, S, a, i, wy, rfl, ⟨sg, hk, hi⟩, q⟩ := h
  refine ⟨_, (pss_cons (ps_if (pt_cmpR op_gt (pe_md h_Kept_symbol T.cKept hr (pv 0) (pa_cons (pv 1) pa_nil)) pe_int (nomark _))
      (pss_one (ps_ret pe_non))
      pss_nil)
    (pss_one (ps_ret (pe_ix ix_list (pe_fld (pv 0) rfl) (pe_md h_Wave_rank T.cWave hr (pe_fld (pv 0) rfl) (pa_cons pe_int (pa_cons (pv 1) pa_nil))) (fun _ _ => rfl))))), ?_⟩
  obtain ⟨kd, dx, na, ta, wv, lb, st, ha, kp⟩ := id hk
  have hm := List.mem_of_getElem? hi
  have hlt := (List.getElem?_eq_some_iff.mp hi).1
  obtain ⟨dw, x2, hw⟩ := kp.wv.ins
  refine ⟨_, rfl, a, dx, _, rfl, sg _ _ ha, lKept_no_symbol, _, rfl, G, r, nm, S, a, i, wy, rfl, ⟨sg, hk, hi⟩, fun H1 s1 => ?_⟩
  have g1 := sg.trans s1
  refine ⟨_, _, rfl, rfl, _, rfl, ?_⟩
  cases e : r.go wy with
  | el n cs =>
    have qq := q H1 s1
    rw [e] at qq
    rw [show decide ((0 : Int) < ((sym nm (Tr.el n cs) : Nat) : Int)) = true from decide_eq_true (by simp [sym, lab]; omega)]
    exact iteT qq
  | tx z =>
    rw [show decide ((0 : Int) < ((sym nm (Tr.tx z) : Nat) : Int)) = false from decide_eq_false (by simp [sym, lab, nfl, Tr.fl, Tr.kids])]
    refine iteF ⟨_, rfl, a, _, dx, _, _, rfl, g1 _ _ ha, T.cKept, T.nKept_texts, lKept_texts, _, rfl, a, _, dx, _, _, rfl, g1 _ _ ha, T.cKept, T.nKept_wave, lKept_wave, wv, dw, _, rfl, g1 _ _ hw, lWave_no_rank, _, rfl, G, _, _, wv, 0, i, rfl, g1, kp.wv, by omega, by rw [List.length_map]; omega, fun H2 s2 => ?_⟩
    have qq := q H2 (s1.trans s2)
    rw [e] at qq
    refine ⟨ta, _, _, .str z, rfl, rfl, SqL.of ((g1.trans s2) _ _ kp.ta), atI_n rfl ?_, qq⟩
    rw [← List.map_take, List.getElem?_map, txs_at hi e]
    rfl
theorem sc_family : FnScope ["kept", "row"] ["kept", "row"] (defScope s_family) := ⟨rfl, rfl, rfl, by decide +kernel, rfl, by decide +kernel, by decide +kernel⟩
theorem hd_family (D : Df K mg "family" s_family) (T : Tx K mg) (h_Kept_symbol : Md P w K mg base (cKp K) "symbol" ["self", "row"] [] k (spSymb K)) (h_Kept_family_number : Md P w K mg base (cKp K) "family_number" ["self", "row"] [] k (spFamNo K)) (h_Kept_family_stretch : Md P w K mg base (cKp K) "family_stretch" ["self", "number"] [] k (spFamSt K)) :
    Hd P w K mg base "family" ["kept", "row"] (k + 1) (spFam K) := by
  refine hd_mk D sc_family (fun _ _ _ _ _ _ us hl => match us, hl with | [_, _], _ => rfl) (fun vs H Q E h => ?_) (fun f cdv A outer s H vs Q E hr h => ?_)
  · obtain ⟨G, r, nm, S, a, i, wy, rfl, _⟩ := h; rfl
  obtain ⟨G, r, nm, S, a, i, wy, rfl, ⟨sg, hk, hi⟩, q1, q0⟩ := h
  refine ⟨_, (pss_cons (ps_if (pt_cmpR op_eq (pe_op op_mod (pe_callTy call_int1 (by rfl) T.int (by decide +kernel) (pa_cons (pe_md h_Kept_symbol T.cKept hr (pv 0) (pa_cons (pv 1) pa_nil)) pa_nil)) pe_int) pe_int (nomark _))
      (pss_one (ps_ret pe_non))
      pss_nil)
    (pss_one (ps_ret (pe_md h_Kept_family_stretch T.cKept hr (pv 0) (pa_cons (pe_md h_Kept_family_number T.cKept hr (pv 0) (pa_cons (pv 1) pa_nil)) pa_nil))))), ?_⟩
  obtain ⟨kd, dx, na, ta, wv, lb, st, ha, kp⟩ := id hk
  refine ⟨_, rfl, a, dx, _, rfl, sg _ _ ha, lKept_no_symbol, _, rfl, G, r, nm, S, a, i, wy, rfl, ⟨sg, hk, hi⟩, fun H1 s1 => ?_⟩
  have g1 := sg.trans s1
  refine .inl ⟨_, rfl, _, _, rfl, rfl, by show (0 : Int) < 2; decide, rfl, _, rfl, ?_⟩
  have e0 : V.int (((sym nm (r.go wy) : Nat) : Int) % 2) = nV (nfl (r.go wy)) := by
    have := nfl_le (r.go wy)
    rw [int_mod2]
    unfold sym
    rw [show (2 * lab nm (r.go wy) + nfl (r.go wy)) % 2 = nfl (r.go wy) by omega]
  cases hf : (r.go wy).fl with
  | false =>
    rw [show decide (V.int (((sym nm (r.go wy) : Nat) : Int) % 2) = V.int 0) = true from by rw [e0]; unfold nfl; rw [hf]; rfl]
    exact iteT (q0 (by have := fl_kids (t := r.go wy); rw [hf] at this; simpa using this) H1 s1)
  | true =>
    rw [show decide (V.int (((sym nm (r.go wy) : Nat) : Int) % 2) = V.int 0) = false from by rw [e0]; unfold nfl; rw [hf]; rfl]
    refine iteF ⟨_, rfl, a, dx, _, rfl, g1 _ _ ha, lKept_no_family_stretch, _, rfl, a, dx, _, rfl, g1 _ _ ha, lKept_no_family_number, _, rfl, G, r, nm, S, a, i, wy, rfl, ⟨g1, hk, hi⟩, hf, fun m H2 hm s2 => ?_⟩
    refine ⟨G, r, nm, S, a, m, wy, rfl, g1.trans s2, hk, hm, fun p H3 s3 np hp => ?_⟩
    refine q1 p (pos r nm S m) H3 (fl_iff.mp hf) ((s1.trans s2).trans s3) ((s1.trans s2).free np) ?_ fun j hj => kid_at kd.O hm hj
    rw [← pos_succ hm]
    exact hp
/-- the tuple of the children's rows, got of a family or of (0, 0) -/
def FamT (G H : Hp) (r : Tr) (S : List Way) (wy : Way) (p : Addr) (b : Nat) (H' : Hp) : Prop := Same H H' ∧ H p = none ∧ H' p = some (.tup [nV b, nV (b + (r.go wy).kids.length)]) ∧ (∀ j, j < (r.go wy).kids.length → S[b + j]? = some (wy ++ [j])) ∧ b ≤ 50000 ∧ (r.go wy).kids.length ≤ 50000
theorem FamT.of {K : PySem.W.Frag} {G H H' : Hp} {r : Tr} {nm : List Str} {S : List Way} {a p : Addr} {i b : Nat} {wy : Way} (hk : Kat K G H r nm S a i wy) (h0 : 0 < (r.go wy).kids.length) (s1 : Same H H') (np : H p = none) (hb : H' p = some (.tup [nV b, nV (b + (r.go wy).kids.length)])) (hj : ∀ j, j < (r.go wy).kids.length → S[b + j]? = some (wy ++ [j])) : FamT G H r S wy p b H' := by
  have hz := hk.2.1.1.hz
  have h1 := (List.getElem?_eq_some_iff.mp (hj ((r.go wy).kids.length - 1) (by omega))).1
  exact ⟨s1, np, hb, hj, by omega, by omega⟩
theorem FamT.no {G H H1 : Hp} {r : Tr} {S : List Way} {p : Addr} {wy : Way} (he : (r.go wy).kids = []) (s1 : Same H H1) (np : H1 p = none) : FamT G H r S wy p 0 (upd H1 p (.tup [.int 0, .int 0])) := by
  refine ⟨s1.trans (Same.up np), s1.free np, ?_, fun j hj => by rw [he] at hj; simp at hj, by omega, by rw [he]; simp⟩
  rw [upd_same, he]
  rfl
theorem go_kid {r : Tr} {w : Way} {n : Str} {cs : List Tr} {x : Nat} {c : Tr} (e : r.go w = .el n cs) (hc : cs[x]? = some c) : r.go (w ++ [x]) = c := by
  rw [go_snoc, e]
  show cs.getD x _ = c
  rw [List.getD_eq_getElem?_getD, hc]
  rfl
def wsz (r : Tr) (us : List Way) : Nat := (us.map fun u => (r.go u).size).sum
theorem wsz_app (r : Tr) (us vs : List Way) : wsz r (us ++ vs) = wsz r us + wsz r vs := by simp [wsz]
theorem wsz_kids (r : Tr) (u : Way) : (r.go u).size = 1 + wsz r (kidsW r u) := by
  have e : ∀ (t : Tr), t.size = 1 + Tr.sizes t.kids := fun t => by cases t <;> simp [Tr.size, Tr.kids, Tr.sizes]
  have e2 : ∀ cs : List Tr, Tr.sizes cs = (cs.map Tr.size).sum := fun cs => by
    induction cs with
    | nil => rfl
    | cons c cs ih => rw [Tr.sizes, ih]; rfl
  rw [e, e2]
  unfold wsz kidsW
  rw [List.map_map]
  congr 2
  rw [← map_range_getD (.tx Str.empty) (r.go u).kids Tr.size]
  refine List.map_congr_left fun j _ => ?_
  show _ = (r.go (u ++ [j])).size
  rw [go_snoc]
  rfl
theorem wsz_len (r : Tr) : ∀ us : List Way, us.length ≤ wsz r us
  | [] => Nat.le_refl _
  | u :: us => by
    have := wsz_len r us
    have := (r.go u).size_pos
    simp only [wsz, List.map_cons, List.sum_cons, List.length_cons] at *
    omega
theorem sc_weight : FnScope ["kept", "row", "found", "waiting", "first", "behind", "below"] ["kept", "row"] (defScope s_weight) := ⟨rfl, rfl, rfl, by decide +kernel, rfl, by decide +kernel, by decide +kernel⟩
theorem hd_weight (D : Df K mg "weight" s_weight) (T : Tx K mg) (h_Kept_symbol : Md P w K mg base (cKp K) "symbol" ["self", "row"] [] k (spSymb K)) (h_family : Hd P w K mg base "family" ["kept", "row"] k (spFam K)) : Hd P w K mg base "weight" ["kept", "row"] (k + 1) (spKWt K) := by
  refine hd_mk D sc_weight (fun _ _ _ _ _ _ us hl => match us, hl with | [_, _], _ => rfl) (fun vs H Q E h => ?_) (fun f cdv A outer s H vs Q E hr h => ?_)
  · obtain ⟨G, r, nm, S, a, i, wy, rfl, _⟩ := h; rfl
  obtain ⟨G, r, nm, S, a, i, wy, rfl, ⟨sg, hk, hi⟩, hrz, q⟩ := h
  refine ⟨_, (pss_cons (ps_expr (pe_md h_Kept_symbol T.cKept hr (pv 0) (pa_cons (pv 1) pa_nil)))
    (pss_cons (ps_set (i := 2) sc_weight.nd rfl (Or.inl rfl) pe_int)
    (pss_cons (ps_set (i := 3) sc_weight.nd rfl (Or.inl rfl) (pe_lst (pa_cons (pv 1) pa_nil)))
    (pss_cons (ps_while PassesOwn.never (pt_cmpR op_gt (pe_callB call_len_seq (by rfl) T.len (by decide +kernel) (pa_cons (pv 3) pa_nil)) pe_int (nomark _))
      (pss_cons (ps_aug (i := 2) sc_weight.nd rfl (Or.inl rfl) pe_int ip_add)
      (pss_cons (ps_asg (pe_orT (pe_hd h_family hr rfl (pa_cons (pv 0) (pa_cons (pe_bm0 PySem.F.plainAttrs_list PySem.F.slot_list_pop PySem.F.type_list_pop mt_pop (pv 3)) pa_nil))) (pe_one (pe_tup (pa_cons pe_int (pa_cons pe_int pa_nil))))) (pg_tup rfl (pgs_cons (pg_name (i := 4) sc_weight.nd rfl (Or.inl rfl)) (pgs_cons (pg_name (i := 5) sc_weight.nd rfl (Or.inl rfl)) pgs_nil))))
      (pss_one (ps_expr (pe_bm PySem.F.plainAttrs_list PySem.F.slot_list_extend PySem.F.type_list_extend mt_extend (pv 3) (pa_cons (pe_lc (own := [("below", 6)]) (g := gName 6) (tt := tYes) rfl sc_weight.nd (pi_range2 (by rfl) T.range (pa_cons (pv 4) (pa_cons (pv 5) pa_nil))) (blkOk_by (own := [("below", 6)]) (N := ["kept", "row", "found", "waiting", "first", "behind", "below"]) (sc := defScope s_weight) (by decide +kernel)) (fun _ _ _ _ _ => (pg_name (i := 6) sc_weight.nd rfl (Or.inl rfl))) (fun _ _ _ _ _ => pts_nil) (fun _ _ _ _ _ => (pv 6))) pa_nil)))))))
    (pss_one (ps_ret (pv 2))))))), ?_⟩
  obtain ⟨kd, dx, na, ta, wv, lb, st, ha, kp⟩ := id hk
  refine ⟨_, rfl, a, dx, _, rfl, sg _ _ ha, lKept_no_symbol, _, rfl, G, r, nm, S, a, i, wy, rfl, ⟨sg, hk, hi⟩, fun H1 s1 => ?_⟩
  refine ⟨_, rfl, by show 1 ≤ sizeLine; decide, fun lw nw => ?_⟩
  have nwH := s1.free nw
  have g0 : Gr W0 G H G (upd H1 lw (.lst [nV i])) := (Gr.of sg s1).al nw
  refine ⟨fun m σ H2 => ∃ (fo : Nat) (is : List Nat) (us : List Way) (x4 x5 x6 : Option V), σ = [some (.ref a), some (nV i), some (nV fo), some (.ref lw), x4, x5, x6] ∧ Gr W0 G H G H2 ∧ H2 lw = some (.lst (vN is)) ∧ (is.map fun j => S[j]?) = us.map some ∧ fo + wsz r us = (r.go wy).size ∧ m = wsz r us,
    ⟨_, 0, [i], [wy], none, none, none, rfl, g0, upd_same, by simp [hi], by simp [wsz], rfl⟩, ?_⟩
  rintro m σ H2 ⟨fo, is, us, x4, x5, x6, rfl, gr, h2, hus, hsz, rfl⟩
  refine ⟨_, rfl, lw, _, rfl, .inl (SqL.of h2), _, _, rfl, rfl, _, rfl, ?_⟩
  have hlen : is.length = us.length := by have := congrArg List.length hus; simpa using this
  rcases List.eq_nil_or_concat us with rfl | ⟨us', u, rfl⟩
  · have : is = [] := List.length_eq_zero_iff.mp (by rw [hlen]; rfl)
    subst this
    refine iteF ⟨_, rfl, ?_⟩
    have := q H2 gr.same
    rw [← hsz] at this
    exact this
  · rw [List.concat_eq_append] at *
    obtain ⟨is', j, rfl⟩ : ∃ is' j, is = is' ++ [j] := by
      rcases List.eq_nil_or_concat is with h | ⟨is', j, h⟩
      · rw [h] at hlen; simp at hlen
      · exact ⟨is', j, by rw [h, List.concat_eq_append]⟩
    rw [List.map_append, List.map_append] at hus
    obtain ⟨hus', hju⟩ := List.append_inj hus (by rw [List.length_append, List.length_append] at hlen; simp at hlen ⊢; exact hlen)
    have hj : S[j]? = some u := by simpa using hju
    have hsu := wsz_kids r u
    rw [wsz_app] at hsz
    have hs1 : wsz r [u] = (r.go u).size := by simp [wsz]
    rw [show decide ((0 : Int) < ((vN (is' ++ [j])).length : Int)) = true by simp <;> omega]
    refine iteT ⟨fun σ' H' => ∃ m', m' < wsz r (us' ++ [u]) ∧ _, fun _ _ h => h, ?_⟩
    have h2' : H2 lw = some (.lst (vN is' ++ [nV j])) := by rw [h2]; simp [vN]
    refine ⟨_, rfl, _, _, rfl, rfl, ?_⟩
    refine ⟨_, rfl, _, rfl, .inl ⟨rfl, _, SqL.of h2'⟩, lw, _, nV j, rfl, rfl, h2', last_of _ _, ?_⟩
    rw [List.dropLast_concat]
    have g2 : Gr W0 G H G (upd H2 lw (.lst (vN is'))) := gr.wr (.inl nwH) (same_none sg nwH) h2
    have kt : Kat K G (upd H2 lw (.lst (vN is'))) r nm S a j u := ⟨g2.sub, hk, hj⟩
    refine (fun (cont : ∀ (p : Addr) (b : Nat) (H3 : Hp), FamT G (upd H2 lw (.lst (vN is'))) r S u p b H3 → _) => ⟨G, r, nm, S, a, j, u, rfl, kt, fun p b H3 h0 s3 np hp hkid => ⟨true, .inr (.inl ⟨_, SqT.of hp, rfl⟩), iteT (cont p b H3 (.of kt h0 s3 np hp hkid))⟩,
      fun he H3 s3 => ⟨false, rfl, iteF ⟨by show 2 ≤ sizeLine; decide, fun p np => cont p 0 _ (.no he s3 np)⟩⟩⟩) ?_
    rintro p b H3 ⟨s3, np, hp, hkid, hb, hn⟩
    have g3 := g2.trans (.of g2.sub s3)
    refine ⟨p, _, rfl, SqT.of hp, rfl, _, _, rfl, _, _, rfl, rfl, ?_⟩
    have h3 : H3 lw = some (.lst (vN is')) := s3 _ _ upd_same
    refine ⟨_, rfl, .inl ⟨rfl, _, SqL.of h3⟩, _, rfl, _, rfl, _, _, rfl, ⟨by omega, by omega, by omega, by omega⟩, fun D hD => ?_⟩
    have en : (((b + (r.go u).kids.length : Nat) : Int) - ((b : Nat) : Int)).toNat = (r.go u).kids.length := by omega
    rw [en]
    refine lc_map walk_range hD g3.sub (fun _ _ _ => trivial) (fun x => nV (b + x)) (by omega) ?_ ?_
    · rintro x y G1 H4 H5 kk Z hx gr' gD ⟨rfl, rfl⟩ yes
      exact ⟨rfl, ty_yes ⟨_, rfl, yes _ _ (Gr.refl gr'.sub)⟩⟩
    · intro G4 H4 g4 hD4 gD4
      have h4 := g4.same _ _ h3
      have e5 : vN is' ++ (List.range (r.go u).kids.length).map (fun x => nV (b + x)) = vN (is' ++ (List.range (r.go u).kids.length).map fun x => b + x) := by
        simp [vN]
      refine ⟨lw, D, _, _, rfl, rfl, h4, hD4, small ?_, ?_⟩
      · have := wsz_len r us'
        have hl5 : is'.length = us'.length := by have := congrArg List.length hus'; simpa using this
        simp only [List.length_map, List.length_range]
        omega
      rw [e5]
      have g5 := g3.trans (Gr.of g3.sub g4.same)
      refine ⟨wsz r (us' ++ kidsW r u), by rw [wsz_app, wsz_app, hs1]; omega, fo + 1, _, us' ++ kidsW r u, _, _, _, rfl, g5.wr (.inl nwH) (same_none sg nwH) h4, upd_same, ?_, by rw [wsz_app]; omega, rfl⟩
      rw [List.map_append, List.map_append, hus']
      congr 1
      unfold kidsW
      rw [List.map_map, List.map_map]
      exact List.map_congr_left fun x hx => hkid x (List.mem_range.mp hx)
theorem sc_subtree : FnScope ["kept", "row", "own", "first", "behind", "below"] ["kept", "row"] (defScope s_subtree) := ⟨rfl, rfl, rfl, by decide +kernel, rfl, by decide +kernel, by decide +kernel⟩
theorem hd_subtree (D : Df K mg "subtree" s_subtree) (T : Tx K mg) (h_text : Hd P w K mg base "text" ["kept", "row"] k (spText K)) (h_family : Hd P w K mg base "family" ["kept", "row"] k (spFam K)) (h_name : Hd P w K mg base "name" ["kept", "row"] k (spName K)) : ∀ n : Nat, Hd P w K mg base "subtree" ["kept", "row"] (k + n) (spSub K n)
  | 0 => by
    refine hd_vac D (fun _ _ _ _ _ _ us hl => match us, hl with | [_, _], _ => rfl) fun vs H Q E h => ?_
    obtain ⟨G, r, nm, S, a, i, wy, _, _, hd, _⟩ := h
    have := (r.go wy).depth_pos
    omega
  | n + 1 => by
    have h_subtree := hd_subtree D T h_text h_family h_name n
    have h_text := h_text.mono (Nat.le_add_right k n)
    have h_family := h_family.mono (Nat.le_add_right k n)
    have h_name := h_name.mono (Nat.le_add_right k n)
    refine hd_mk (k := k + n) D sc_subtree (fun _ _ _ _ _ _ us hl => match us, hl with | [_, _], _ => rfl) (fun vs H Q E h => ?_) (fun f cdv A outer s H vs Q E hr h => ?_)
    · obtain ⟨G, r, nm, S, a, i, wy, rfl, _⟩ := h; rfl
    obtain ⟨G, r, nm, S, a, i, wy, rfl, ⟨sg, hk, hi⟩, hd, hz, q⟩ := h
    refine ⟨_, (pss_cons (ps_set (i := 2) sc_subtree.nd rfl (Or.inl rfl) (pe_hd h_text hr rfl (pa_cons (pv 0) (pa_cons (pv 1) pa_nil))))
    (pss_cons (ps_if (pt_cmpR op_notN (pv 2) pe_non (nomark _))
      (pss_one (ps_ret (pv 2)))
      pss_nil)
    (pss_cons (ps_asg (pe_orT (pe_hd h_family hr rfl (pa_cons (pv 0) (pa_cons (pv 1) pa_nil))) (pe_one (pe_tup (pa_cons pe_int (pa_cons pe_int pa_nil))))) (pg_tup rfl (pgs_cons (pg_name (i := 3) sc_subtree.nd rfl (Or.inl rfl)) (pgs_cons (pg_name (i := 4) sc_subtree.nd rfl (Or.inl rfl)) pgs_nil))))
    (pss_one (ps_ret (pe_tup (pa_cons (pe_hd h_name hr rfl (pa_cons (pv 0) (pa_cons (pv 1) pa_nil))) (pa_cons (pe_lc (own := [("below", 5)]) (g := gName 5) (tt := tYes) rfl sc_subtree.nd (pi_range2 (by rfl) T.range (pa_cons (pv 3) (pa_cons (pv 4) pa_nil))) (blkOk_by (own := [("below", 5)]) (N := ["kept", "row", "own", "first", "behind", "below"]) (sc := defScope s_subtree) (by decide +kernel)) (fun _ _ _ _ _ => (pg_name (i := 5) sc_subtree.nd rfl (Or.inl rfl))) (fun _ _ _ _ _ => pts_nil) (fun _ _ _ _ _ => (pe_hd h_subtree hr rfl (pa_cons (pv 0) (pa_cons (pv 5) pa_nil))))) pa_nil)))))))), ?_⟩
    refine ⟨_, rfl, _, rfl, G, r, nm, S, a, i, wy, rfl, ⟨sg, hk, hi⟩, fun H1 s1 => ?_⟩
    refine ⟨_, rfl, rfl, _, rfl, ?_⟩
    cases e : r.go wy with
    | tx z =>
      have qq := q G (.str z) H1 (Gr.of sg s1) (by rw [e]; exact rfl)
      rw [show (!decide (textV (Tr.tx z) = V.non)) = true from rfl]
      exact iteT ⟨_, rfl, qq⟩
    | el nn cs =>
      rw [show (!decide (textV (Tr.el nn cs) = V.non)) = false from rfl]
      have g1 := sg.trans s1
      have kt : Kat K G H1 r nm S a i wy := ⟨g1, hk, hi⟩
      refine iteF ⟨_, rfl, _, rfl, ?_⟩
      refine (fun (cont : ∀ (p : Addr) (b : Nat) (H3 : Hp), FamT G H1 r S wy p b H3 → _) => ⟨G, r, nm, S, a, i, wy, rfl, kt, fun p b H3 h0 s3 np hp hkid => ⟨true, .inr (.inl ⟨_, SqT.of hp, rfl⟩), iteT (cont p b H3 (.of kt h0 s3 np hp hkid))⟩,
        fun he H3 s3 => ⟨false, rfl, iteF ⟨by show 2 ≤ sizeLine; decide, fun p np => cont p 0 _ (.no he s3 np)⟩⟩⟩) ?_
      rintro p b H3 ⟨s3, np, hp, hkid, hb, hn⟩
      have g3 := g1.trans s3
      refine ⟨p, _, rfl, SqT.of hp, rfl, _, _, rfl, _, _, rfl, rfl, ?_⟩
      refine ⟨_, rfl, _, rfl, G, r, nm, S, a, i, wy, rfl, ⟨g3, hk, hi⟩, fun H4 s4 => ?_⟩
      have g4 := g3.trans s4
      refine ⟨_, rfl, _, rfl, _, _, rfl, ⟨by omega, by omega, by omega, by omega⟩, fun D hD => ?_⟩
      have en : (((b + (r.go wy).kids.length : Nat) : Int) - ((b : Nat) : Int)).toNat = (r.go wy).kids.length := by omega
      rw [en]
      refine lc_rel walk_range hD g4 (fun _ _ _ => trivial) (fun i G y => ∃ c, (r.go wy).kids[i]? = some c ∧ IsT G c y) (fun i G G' y s ⟨c, e, h⟩ => ⟨c, e, h.mono s⟩) (by omega) ?_ ?_
      · rintro x y G1 H5 H6 kk Z hx gr' gD _ ⟨rfl, rfl⟩ hK
        have hx' : x < cs.length := by rw [e] at hx; exact hx
        have hc := List.getElem?_eq_getElem hx'
        have hgo : r.go (wy ++ [x]) = cs[x] := go_kid e hc
        have hdd := depths_get hc
        have hzz := sizes_get hc
        rw [e] at hd hz
        simp only [Tr.depth, Tr.size] at hd hz
        refine ⟨rfl, ty_yes ⟨_, rfl, _, rfl, G1, r, nm, S, a, b + x, wy ++ [x], rfl, ⟨gr'.sub, hk.mono gr'.ext, hkid x hx⟩, by rw [hgo]; omega, by rw [hgo]; omega, fun G' v' H' g2 k => hK G' H' v' g2 ⟨cs[x], by rw [e]; exact hc, by rw [hgo] at k; exact k⟩⟩⟩
      · intro G1 H5 ys gr' hy gD hl hrl
        refine ⟨by show 2 ≤ sizeLine; decide, fun p2 hp2 => ?_⟩
        have gg := (Gr.of sg ((s1.trans s3).trans s4)).trans gr'
        rw [e] at hl hrl
        obtain ⟨G2, g2, ht2, _⟩ := (gg.al (o := .tup [.str nn, .ref D]) hp2).elem (cs := cs) (vs := ys) (gg.dom p2 hp2) (((s1.trans s3).trans s4).free hD) upd_same (by rw [upd_ne (ne_of_none hy hp2)]; exact hy) (IsTs.of hl hrl)
        have := q G2 (.ref p2) _ g2 (by rw [e]; exact ht2)
        rw [e]
        exact this
end
end K5
set_option Elab.async false
set_option linter.all false
set_option maxRecDepth 100000
set_option maxHeartbeats 4000000
namespace K5
open PySem PySem.Spec PyProof.Rows L2
/-! ### parts above kept rows -/
def Rw (r : Tr) (S : List Way) (i : Nat) (t : Tr) : Prop := ∃ w, S[i]? = some w ∧ r.go w = t
def IsRow (r : Tr) (S : List Way) (G : Hp) (t : Tr) (v : V) : Prop := ∃ (i : Nat) (p : Addr), v = .ref p ∧ G p = some (.tup [.str "row", nV i]) ∧ Rw r S i t
mutual
/-- the part v shows the tree t -/
def IsP (r : Tr) (S : List Way) (G : Hp) : Tr → V → Prop
  | .tx s, v => IsRow r S G (.tx s) v ∨ ∃ p : Addr, v = .ref p ∧ G p = some (.tup [.str "text", .str s])
  | .el n cs, v => IsRow r S G (.el n cs) v ∨ ∃ (p l : Addr) (vs : List V), v = .ref p ∧ G p = some (.tup [.str "element", .str n, .ref l]) ∧ G l = some (.lst vs) ∧ IsPs r S G cs vs
def IsPs (r : Tr) (S : List Way) (G : Hp) : List Tr → List V → Prop
  | [], vs => vs = []
  | t :: ts, vs => ∃ (v : V) (q : List V), vs = v :: q ∧ IsP r S G t v ∧ IsPs r S G ts q
end
variable {r : Tr} {nm : List Str} {S : List Way}
theorem IsRow.mono {G G' : Hp} (s : Same G G') {t : Tr} {v : V} (h : IsRow r S G t v) : IsRow r S G' t v := by
  obtain ⟨i, p, e, h1, h2⟩ := h
  exact ⟨i, p, e, s _ _ h1, h2⟩
mutual
theorem IsP.mono {G G' : Hp} (s : Same G G') : ∀ {t : Tr} {v : V}, IsP r S G t v → IsP r S G' t v
  | .tx z, _, h => by
    rcases h with h | ⟨p, e, h1⟩
    · exact .inl (h.mono s)
    · exact .inr ⟨p, e, s _ _ h1⟩
  | .el n cs, v, h => by
    rcases h with h | ⟨a, l, vs, e, h1, h2, h3⟩
    · exact .inl (h.mono s)
    · exact .inr ⟨a, l, vs, e, s _ _ h1, s _ _ h2, IsPs.mono s h3⟩
theorem IsPs.mono {G G' : Hp} (s : Same G G') : ∀ {ts : List Tr} {vs : List V}, IsPs r S G ts vs → IsPs r S G' ts vs
  | [], _, h => h
  | t :: ts, vs, h => by
    obtain ⟨v, q, e, h1, h2⟩ := h
    exact ⟨v, q, e, IsP.mono s h1, IsPs.mono s h2⟩
end
def OwnP (r : Tr) (S : List Way) (G : Hp) : Tr → V → Prop
  | .tx s, v => ∃ p : Addr, v = .ref p ∧ G p = some (.tup [.str "text", .str s])
  | .el n cs, v => ∃ (p l : Addr) (vs : List V), v = .ref p ∧ G p = some (.tup [.str "element", .str n, .ref l]) ∧ G l = some (.lst vs) ∧ IsPs r S G cs vs
theorem IsP.split {G : Hp} {t : Tr} {v : V} (h : IsP r S G t v) : IsRow r S G t v ∨ OwnP r S G t v := by
  cases t with
  | tx s => exact h
  | el n cs => exact h
theorem IsPs.al {G : Hp} : ∀ {ts : List Tr} {vs : List V}, IsPs r S G ts vs ↔ Al (IsP r S G) ts vs
  | [], vs => ⟨fun h => by rw [show vs = [] from h]; exact Al.nil, fun h => List.length_eq_zero_iff.mp h.1⟩
  | t :: ts, vs => by
    constructor
    · rintro ⟨v, q, rfl, h1, h2⟩
      exact (Al.one h1).app (IsPs.al.mp h2)
    · intro h
      obtain ⟨v, e, hv⟩ := h.get (i := 0) (x := t) rfl
      cases vs with
      | nil => simp at e
      | cons v' q =>
        cases (Option.some.inj e)
        refine ⟨v, q, rfl, hv, IsPs.al.mpr ⟨by simpa using h.1, fun i x hx => ?_⟩⟩
        have := h.get (i := i + 1) (x := x) (by simpa using hx)
        simpa using this
theorem IsP.row {G : Hp} {t : Tr} {v : V} (h : IsRow r S G t v) : IsP r S G t v := by
  cases t with
  | tx s => exact .inl h
  | el n cs => exact .inl h
abbrev cVw (K : PySem.W.Frag) : Addr := He.ga K "View"
def IsVw (K : PySem.W.Frag) (G : Hp) (r : Tr) (nm : List Str) (S : List Way) (a : Addr) : Prop := ∃ dx kp, G a = some (.ins (cVw K) dx (fView (.ref kp))) ∧ IsKep K G r nm S kp
theorem IsVw.mono {K : PySem.W.Frag} {G G' : Hp} {a : Addr} (s : Same G G') (h : IsVw K G r nm S a) : IsVw K G' r nm S a := by
  obtain ⟨dx, kp, h1, h2⟩ := h
  exact ⟨dx, kp, s _ _ h1, h2.mono s⟩
/-- a view and a part, at H -/
structure VP (K : PySem.W.Frag) (G H : Hp) (r : Tr) (nm : List Str) (S : List Way) (a : Addr) (t : Tr) (v : V) : Prop where
  s : Same G H
  vw : IsVw K G r nm S a
  p : IsP r S G t v
  z : t.size ≤ 50000
theorem VP.up {K : PySem.W.Frag} {G H G' H' : Hp} {a : Addr} {t : Tr} {v : V} (h : VP K G H r nm S a t v) (g : Gr W0 G H G' H') : VP K G' H' r nm S a t v := ⟨g.sub, h.vw.mono g.ext, h.p.mono g.ext, h.z⟩
def spVWord (K : PySem.W.Frag) : Sp := fun vs H Q _ => ∃ (G : Hp) (r : Tr) (nm : List Str) (S : List Way) (a : Addr) (t : Tr) (v : V), vs = [.ref a, v] ∧ VP K G H r nm S a t v ∧ ∀ H', Same H H' → Q (nameV t) H'
def spVKids (K : PySem.W.Frag) : Sp := fun vs H Q _ => ∃ (G : Hp) (r : Tr) (nm : List Str) (S : List Way) (a : Addr) (t : Tr) (v : V), vs = [.ref a, v] ∧ VP K G H r nm S a t v ∧ ∀ G' l ws H', Gr W0 G H G' H' → G' l = some (.lst ws) → IsPs r S G' t.kids ws → Q (.ref l) H'
def spVWt (K : PySem.W.Frag) (n : Nat) : Sp := fun vs H Q _ => ∃ (G : Hp) (r : Tr) (nm : List Str) (S : List Way) (a : Addr) (t : Tr) (v : V), vs = [.ref a, v] ∧ VP K G H r nm S a t v ∧ t.depth ≤ n ∧ ∀ G' H', Gr W0 G H G' H' → Q (nV t.size) H'
def spVTree (K : PySem.W.Frag) (n : Nat) : Sp := fun vs H Q _ => ∃ (G : Hp) (r : Tr) (nm : List Str) (S : List Way) (a : Addr) (t : Tr) (v : V), vs = [.ref a, v] ∧ VP K G H r nm S a t v ∧ t.depth ≤ n ∧ ∀ G' v' H', Gr W0 G H G' H' → IsT G' t v' → Q v' H'
theorem kids_len (t : Tr) : t.kids.length < t.size + 1 := by
  cases t with
  | tx s => simp [Tr.kids]
  | el n cs =>
    have := sizes_len cs
    simp only [Tr.kids, Tr.size]
    omega
theorem kid_size {t c : Tr} {i : Nat} (h : t.kids[i]? = some c) : c.size < t.size ∧ c.depth < t.depth := by
  cases t with
  | tx s => simp [Tr.kids] at h
  | el n cs =>
    have h : cs[i]? = some c := h
    have := sizes_get h
    have := depths_get h
    simp only [Tr.size, Tr.depth]
    omega
theorem sizes_kids (t : Tr) : t.size = 1 + Tr.sizes t.kids := by cases t <;> simp [Tr.size, Tr.kids, Tr.sizes]
theorem sizes_sum : ∀ cs : List Tr, Tr.sizes cs = (cs.map Tr.size).sum
  | [] => rfl
  | c :: cs => by rw [Tr.sizes, sizes_sum cs]; rfl
theorem ne_str {a b : Str} (h : decide (V.str a = V.str b) = false) : decide (V.str a = V.str b) = false := h
section
variable {P : Program} {w : World} {K : PySem.W.Frag} {mg : Str → Option Value} {base : Heap} {k : Nat}
theorem Hd.alias {x y : Str} {ps : List Str} {sp : Sp} (h : Hd P w K mg base x ps k sp) (e : mg y = mg x) : Hd P w K mg base y ps k sp := by
  obtain ⟨f, fd, a, b, c, F⟩ := h.ex
  exact ⟨f, fd, e.trans a, b, c, F⟩
theorem sc_View_word : FnScope ["self", "part"] ["self", "part"] (defScope s_View_word) := ⟨rfl, rfl, rfl, by decide +kernel, rfl, by decide +kernel, by decide +kernel⟩
theorem md_View_word (D : Dm K (cVw K) "word" "View.word" s_View_word) (T : Tx K mg) (h_name : Hd P w K mg base "name" ["kept", "row"] k (spName K)) : Md P w K mg base (cVw K) "word" ["self", "part"] [] (k + 1) (spVWord K) := by
  refine md_mk D sc_View_word (fun _ _ _ _ _ _ us hl => match us, hl with | [_, _], _ => rfl) (fun vs H Q E h => ?_) (fun f cdv A outer s H vs Q E hr h => ?_)
  · obtain ⟨G, r, nm, S, a, t, v, rfl, _⟩ := h; rfl
  obtain ⟨G, r, nm, S, a, t, v, rfl, ⟨sg, ⟨dx, kp, ha, hkp⟩, hp, hz⟩, q⟩ := h
  refine ⟨_, (pss_cons (ps_if (pt_cmpR op_eq (pe_ix ix_tup (pv 1) pe_int (fun _ _ => rfl)) pe_str (nomark _))
      (pss_one (ps_ret (pe_hd h_name hr rfl (pa_cons (pe_fld (pv 0) rfl) (pa_cons (pe_ix ix_tup (pv 1) pe_int (fun _ _ => rfl)) pa_nil)))))
      pss_nil)
    (pss_cons (ps_if (pt_cmpR op_eq (pe_ix ix_tup (pv 1) pe_int (fun _ _ => rfl)) pe_str (nomark _))
      (pss_one (ps_ret pe_non))
      pss_nil)
    (pss_one (ps_ret (pe_ix ix_tup (pv 1) pe_int (fun _ _ => rfl)))))), ?_⟩
  rcases hp.split with ⟨i, p, rfl, h1, wy, h2, h3⟩ | hp
  · refine ⟨_, rfl, p, _, _, _, rfl, rfl, SqT.of (sg _ _ h1), at_0, rfl, _, rfl, ?_⟩
    rw [show decide (V.str "row" = V.str "row") = true from by decide +kernel]
    refine iteT ⟨_, rfl, a, _, dx, _, _, rfl, sg _ _ ha, T.cView, T.nView_kept, lView_kept, _, rfl, p, _, _, _, rfl, rfl, SqT.of (sg _ _ h1), at_1, G, r, nm, S, kp, i, wy, rfl, ⟨sg, hkp, h2⟩, fun H1 s1 => ?_⟩
    have := q H1 s1
    rw [← h3] at this
    exact this
  cases t with
  | tx z =>
    obtain ⟨p, rfl, h1⟩ := hp
    refine ⟨_, rfl, p, _, _, _, rfl, rfl, SqT.of (sg _ _ h1), at_0, rfl, _, rfl, ?_⟩
    rw [show decide (V.str "text" = V.str "row") = false from by decide +kernel]
    refine iteF ⟨_, rfl, p, _, _, _, rfl, rfl, SqT.of (sg _ _ h1), at_0, rfl, _, rfl, ?_⟩
    rw [show decide (V.str "text" = V.str "text") = true from by decide +kernel]
    exact iteT (q H (Same.refl H))
  | el n cs =>
    obtain ⟨p, l, vs, rfl, h1, h2, h3⟩ := hp
    refine ⟨_, rfl, p, _, _, _, rfl, rfl, SqT.of (sg _ _ h1), at_0, rfl, _, rfl, ?_⟩
    rw [show decide (V.str "element" = V.str "row") = false from by decide +kernel]
    refine iteF ⟨_, rfl, p, _, _, _, rfl, rfl, SqT.of (sg _ _ h1), at_0, rfl, _, rfl, ?_⟩
    rw [show decide (V.str "element" = V.str "text") = false from by decide +kernel]
    exact iteF ⟨_, rfl, p, _, _, _, rfl, rfl, SqT.of (sg _ _ h1), at_1, q H (Same.refl H)⟩
theorem sc_View_children : FnScope ["self", "part", "stretch", "row"] ["self", "part"] (defScope s_View_children) := ⟨rfl, rfl, rfl, by decide +kernel, rfl, by decide +kernel, by decide +kernel⟩
theorem md_View_children (D : Dm K (cVw K) "children" "View.children" s_View_children) (T : Tx K mg) (h_family : Hd P w K mg base "family" ["kept", "row"] k (spFam K)) : Md P w K mg base (cVw K) "children" ["self", "part"] [] (k + 1) (spVKids K) := by
  refine md_mk D sc_View_children (fun _ _ _ _ _ _ us hl => match us, hl with | [_, _], _ => rfl) (fun vs H Q E h => ?_) (fun f cdv A outer s H vs Q E hr h => ?_)
  · obtain ⟨G, r, nm, S, a, t, v, rfl, _⟩ := h; rfl
  obtain ⟨G, r, nm, S, a, t, v, rfl, ⟨sg, ⟨dx, kp, ha, hkp⟩, hp, hz⟩, q⟩ := h
  refine ⟨_, (pss_cons (ps_if (pt_cmpR op_eq (pe_ix ix_tup (pv 1) pe_int (fun _ _ => rfl)) pe_str (nomark _))
      (pss_cons (ps_set (i := 2) sc_View_children.nd rfl (Or.inl rfl) (pe_hd h_family hr rfl (pa_cons (pe_fld (pv 0) rfl) (pa_cons (pe_ix ix_tup (pv 1) pe_int (fun _ _ => rfl)) pa_nil))))
      (pss_cons (ps_if (pt_cmpR op_isN (pv 2) pe_non (nomark _))
        (pss_one (ps_ret (pe_lst pa_nil)))
        pss_nil)
      (pss_one (ps_ret (pe_lc (own := [("row", 3)]) (g := gName 3) (tt := tYes) rfl sc_View_children.nd (pi_range2 (by rfl) T.range (pa_cons (pe_ix ix_tup (pv 2) pe_int (fun _ _ => rfl)) (pa_cons (pe_ix ix_tup (pv 2) pe_int (fun _ _ => rfl)) pa_nil))) (blkOk_by (own := [("row", 3)]) (N := ["self", "part", "stretch", "row"]) (sc := defScope s_View_children) (by decide +kernel)) (fun _ _ _ _ _ => (pg_name (i := 3) sc_View_children.nd rfl (Or.inl rfl))) (fun _ _ _ _ _ => pts_nil) (fun _ _ _ _ _ => (pe_tup (pa_cons pe_str (pa_cons (pv 3) pa_nil)))))))))
      pss_nil)
    (pss_cons (ps_if (pt_cmpR op_eq (pe_ix ix_tup (pv 1) pe_int (fun _ _ => rfl)) pe_str (nomark _))
      (pss_one (ps_ret (pe_lst pa_nil)))
      pss_nil)
    (pss_one (ps_ret (pe_ix ix_tup (pv 1) pe_int (fun _ _ => rfl)))))), ?_⟩
  rcases hp.split with ⟨i, p, rfl, h1, wy, h2, h3⟩ | hp
  · refine ⟨_, rfl, p, _, _, _, rfl, rfl, SqT.of (sg _ _ h1), at_0, rfl, _, rfl, ?_⟩
    rw [show decide (V.str "row" = V.str "row") = true from by decide +kernel]
    have kt : Kat K G H r nm S kp i wy := ⟨sg, hkp, h2⟩
    refine iteT ⟨_, rfl, a, _, dx, _, _, rfl, sg _ _ ha, T.cView, T.nView_kept, lView_kept, _, rfl, p, _, _, _, rfl, rfl, SqT.of (sg _ _ h1), at_1, G, r, nm, S, kp, i, wy, rfl, kt, fun p1 b H3 h0 s3 np hp1 hkid => ?_, fun he H3 s3 => ?_⟩
    · obtain ⟨_, _, _, _, hb, hn⟩ := FamT.of kt h0 s3 np hp1 hkid
      have g3 := sg.trans s3
      refine ⟨_, rfl, rfl, _, rfl, ?_⟩
      rw [show decide (V.ref p1 = V.non) = false from by simp]
      refine iteF ⟨_, rfl, p1, _, _, _, rfl, rfl, SqT.of hp1, at_0, _, rfl, p1, _, _, _, rfl, rfl, SqT.of hp1, at_1, _, _, rfl, ⟨by omega, by omega, by omega, by omega⟩, fun D hD => ?_⟩
      have en : (((b + (r.go wy).kids.length : Nat) : Int) - ((b : Nat) : Int)).toNat = (r.go wy).kids.length := by omega
      rw [en]
      refine lc_rel walk_range hD g3 (fun _ _ _ => trivial) (fun j G y => IsRow r S G ((r.go wy).ch j) y) (fun j G G' y s h => h.mono s) (by omega) ?_ ?_
      · rintro x y G1 H5 H6 kk Z hx gr' gD _ ⟨rfl, rfl⟩ hK
        refine ⟨rfl, ty_yes ⟨_, rfl, by show 2 ≤ sizeLine; decide, fun p2 np2 => ?_⟩⟩
        have e1 : (b : Int) + (x : Int) = ((b + x : Nat) : Int) := by omega
        have g5 := Gr.alloc (W := W0) (o := .tup [.str "row", .int ((b : Int) + (x : Int))]) gr'.sub np2
        exact hK _ _ _ (g5.frz np2 upd_same) ⟨b + x, p2, rfl, by rw [upd_same, e1], wy ++ [x], hkid x hx, go_snoc _ _ _⟩
      · intro G1 H5 ys gr' hy gD hl hrl
        have gg := ((Gr.of sg s3).trans gr').frz (s3.free hD) hy
        refine q _ D ys H5 gg upd_same ?_
        rw [← h3]
        refine IsPs.mono (same_frz gr'.sub hy) (IsPs.al.mpr (.of hl fun j y hj => ?_))
        have hj' := (List.getElem?_eq_some_iff.mp hj).1
        refine ⟨(r.go wy).ch j, ?_, .row (hrl j y hj)⟩
        unfold Tr.ch
        rw [List.getD_eq_getElem?_getD, List.getElem?_eq_getElem (by omega)]
        rfl
    · refine ⟨_, rfl, rfl, _, rfl, ?_⟩
      rw [show decide (V.non = V.non) = true from by simp]
      refine iteT ⟨by show 0 ≤ sizeLine; decide, fun l nl => ?_⟩
      refine q _ l [] _ (((Gr.of sg s3).al nl).frz (s3.free nl) upd_same) upd_same ?_
      rw [← h3, he]
      exact rfl
  cases t with
  | tx z =>
    obtain ⟨p, rfl, h1⟩ := hp
    refine ⟨_, rfl, p, _, _, _, rfl, rfl, SqT.of (sg _ _ h1), at_0, rfl, _, rfl, ?_⟩
    rw [show decide (V.str "text" = V.str "row") = false from by decide +kernel]
    refine iteF ⟨_, rfl, p, _, _, _, rfl, rfl, SqT.of (sg _ _ h1), at_0, rfl, _, rfl, ?_⟩
    rw [show decide (V.str "text" = V.str "text") = true from by decide +kernel]
    refine iteT ⟨by show 0 ≤ sizeLine; decide, fun l nl => ?_⟩
    exact q _ l [] _ ((Gr.alloc sg nl).frz nl upd_same) upd_same rfl
  | el n cs =>
    obtain ⟨p, l, vs, rfl, h1, h2, h3⟩ := hp
    refine ⟨_, rfl, p, _, _, _, rfl, rfl, SqT.of (sg _ _ h1), at_0, rfl, _, rfl, ?_⟩
    rw [show decide (V.str "element" = V.str "row") = false from by decide +kernel]
    refine iteF ⟨_, rfl, p, _, _, _, rfl, rfl, SqT.of (sg _ _ h1), at_0, rfl, _, rfl, ?_⟩
    rw [show decide (V.str "element" = V.str "text") = false from by decide +kernel]
    exact iteF ⟨_, rfl, p, _, _, _, rfl, rfl, SqT.of (sg _ _ h1), rfl, q G l vs H (.refl sg) h2 h3⟩
end
end K5
set_option Elab.async false
set_option linter.all false
set_option maxRecDepth 100000
set_option maxHeartbeats 4000000
namespace K5
open PySem PySem.Spec PyProof.Rows L2
/-! ### View: weight, tree, numbered -/
variable {r : Tr} {nm : List Str} {S : List Way}
theorem VP.kid {K : PySem.W.Frag} {G H : Hp} {a : Addr} {t c : Tr} {v y : V} {i : Nat} (h : VP K G H r nm S a t v) (hc : t.kids[i]? = some c) (hy : IsP r S G c y) : VP K G H r nm S a c y := ⟨h.s, h.vw, hy, by have := (kid_size hc).1; have := h.z; omega⟩
theorem VP.go {K : PySem.W.Frag} {G H G' H' : Hp} {a : Addr} {t : Tr} {v : V} (h : VP K G H r nm S a t v) (g : Gr W0 G H G' H') {c : Tr} {y : V} {i : Nat} (hc : t.kids[i]? = some c) (hy : IsP r S G' c y) : VP K G' H' r nm S a c y := (h.up g).kid hc hy
/-- the numbers of the children -/
def nbs (x : Nat) : List Tr → List Nat
  | [] => []
  | c :: cs => x :: nbs (x + c.size) cs
theorem nbs_len : ∀ (x : Nat) (cs : List Tr), (nbs x cs).length = cs.length
  | _, [] => rfl
  | x, c :: cs => by rw [nbs, List.length_cons, List.length_cons, nbs_len]
theorem nbs_get : ∀ (x : Nat) (cs : List Tr) (i : Nat), i < cs.length → (nbs x cs)[i]? = some (x + Tr.sizes (cs.take i))
  | x, c :: cs, 0, _ => by simp [nbs, Tr.sizes]
  | x, c :: cs, i + 1, h => by
    rw [nbs, List.getElem?_cons_succ, nbs_get (x + c.size) cs i (by simpa using h), List.take_succ_cons, Tr.sizes]
    congr 1
    omega
theorem nbs_app : ∀ (x : Nat) (cs ds : List Tr), nbs x (cs ++ ds) = nbs x cs ++ nbs (x + Tr.sizes cs) ds
  | x, [], ds => by simp [nbs, Tr.sizes]
  | x, c :: cs, ds => by
    rw [List.cons_append, nbs, nbs, nbs_app, Tr.sizes, List.cons_append, Nat.add_assoc]
/-- the numbered children -/
def IsN (r : Tr) (S : List Way) (G : Hp) (x : Nat × Tr) (y : V) : Prop := ∃ (p : Addr) (v : V), y = .ref p ∧ G p = some (.tup [nV x.1, v]) ∧ IsP r S G x.2 v
theorem IsN.mono {G G' : Hp} (s : Same G G') {x : Nat × Tr} {y : V} (h : IsN r S G x y) : IsN r S G' x y := by
  obtain ⟨p, v, e, h1, h2⟩ := h
  exact ⟨p, v, e, s _ _ h1, h2.mono s⟩
def spVNum (K : PySem.W.Frag) (n : Nat) : Sp := fun vs H Q _ => ∃ (G : Hp) (r : Tr) (nm : List Str) (S : List Way) (a : Addr) (t : Tr) (v : V) (x : Nat), vs = [.ref a, nV x, v] ∧ VP K G H r nm S a t v ∧ t.depth ≤ n + 1 ∧ ∀ G' l ws H', Gr W0 G H G' H' → H l = none → H' l = some (.lst ws) → Al (IsN r S G') ((nbs (x + 1) t.kids).zip t.kids) ws → Q (.ref l) H'
def spVAt (K : PySem.W.Frag) : Sp := fun vs H Q _ => ∃ (G : Hp) (r : Tr) (nm : List Str) (S : List Way) (a : Addr) (t : Tr) (v : V) (wy : Way) (lw : Addr), vs = [.ref a, v, .ref lw] ∧ VP K G H r nm S a t v ∧ H lw = some (.lst (vN wy)) ∧ t.ok wy ∧ ∀ G' v' H', Gr W0 G H G' H' → IsP r S G' (t.go wy) v' → Q v' H'
section
variable {P : Program} {w : World} {K : PySem.W.Frag} {mg : Str → Option Value} {base : Heap} {k : Nat}
theorem IsVw.at_ {G H : Hp} {a : Addr} (s : Same G H) (h : IsVw K G r nm S a) : ∃ dx x0, H a = some (.ins (cVw K) dx (fView x0)) := by
  obtain ⟨dx, kp, h1, _⟩ := h
  exact ⟨dx, _, s _ _ h1⟩
theorem sc_View_weight : FnScope ["self", "part", "child"] ["self", "part"] (defScope s_View_weight) := ⟨rfl, rfl, rfl, by decide +kernel, rfl, by decide +kernel, by decide +kernel⟩
theorem md_View_weight (D : Dm K (cVw K) "weight" "View.weight" s_View_weight) (T : Tx K mg) (h_weight_moves : Hd P w K mg base "weight_moves" ["kept", "row"] k (spKWt K)) (h_View_children : Md P w K mg base (cVw K) "children" ["self", "part"] [] k (spVKids K)) : ∀ n : Nat, Md P w K mg base (cVw K) "weight" ["self", "part"] [] (k + n) (spVWt K n)
  | 0 => by
    refine md_vac D (fun _ _ _ _ _ _ us hl => match us, hl with | [_, _], _ => rfl) fun vs H Q E h => ?_
    obtain ⟨G, r, nm, S, a, t, v, _, _, hd, _⟩ := h
    have := t.depth_pos
    omega
  | n + 1 => by
    have h_View_weight := md_View_weight D T h_weight_moves h_View_children n
    have h_weight_moves := h_weight_moves.mono (Nat.le_add_right k n)
    have h_View_children := h_View_children.mono (Nat.le_add_right k n)
    refine md_mk (k := k + n) D sc_View_weight (fun _ _ _ _ _ _ us hl => match us, hl with | [_, _], _ => rfl) (fun vs H Q E h => ?_) (fun f cdv A outer s H vs Q E hr h => ?_)
    · obtain ⟨G, r, nm, S, a, t, v, rfl, _⟩ := h; rfl
    obtain ⟨G, r, nm, S, a, t, v, rfl, hvp, hd, q⟩ := h
    obtain ⟨sg, ⟨dx, kp, ha, hkp⟩, hp, hz⟩ := id hvp
    refine ⟨_, (pss_cons (ps_if (pt_cmpR op_eq (pe_ix ix_tup (pv 1) pe_int (fun _ _ => rfl)) pe_str (nomark _))
      (pss_one (ps_ret (pe_hd h_weight_moves hr rfl (pa_cons (pe_fld (pv 0) rfl) (pa_cons (pe_ix ix_tup (pv 1) pe_int (fun _ _ => rfl)) pa_nil)))))
      pss_nil)
    (pss_one (ps_ret (pe_op op_add pe_int (pe_callB (cr_sum rfl) (by rfl) T.sum (by decide +kernel) (pa_cons (pe_lc (own := [("child", 2)]) (g := gName 2) (tt := tYes) rfl sc_View_weight.nd (pi_list (pe_md h_View_children T.cView hr (pv 0) (pa_cons (pv 1) pa_nil))) (blkOk_by (own := [("child", 2)]) (N := ["self", "part", "child"]) (sc := defScope s_View_weight) (by decide +kernel)) (fun _ _ _ _ _ => (pg_name (i := 2) sc_View_weight.nd rfl (Or.inl rfl))) (fun _ _ _ _ _ => pts_nil) (fun _ _ _ _ _ => (pe_md h_View_weight T.cView hr (pv 0) (pa_cons (pv 2) pa_nil)))) pa_nil)))))), ?_⟩
    rcases hp.split with ⟨i, p, rfl, h1, wy, h2, h3⟩ | hp'
    · refine ⟨_, rfl, p, _, _, _, rfl, rfl, SqT.of (sg _ _ h1), at_0, rfl, _, rfl, ?_⟩
      rw [show decide (V.str "row" = V.str "row") = true from by decide +kernel]
      refine iteT ⟨_, rfl, a, _, dx, _, _, rfl, sg _ _ ha, T.cView, T.nView_kept, lView_kept, _, rfl, p, _, _, _, rfl, rfl, SqT.of (sg _ _ h1), at_1, G, r, nm, S, kp, i, wy, rfl, ⟨sg, hkp, h2⟩, by rw [h3]; exact hz, fun H1 s1 => ?_⟩
      have := q G H1 (Gr.of sg s1)
      rw [← h3] at this
      exact this
    have hfirst : ∃ p z rest, v = .ref p ∧ H p = some (.tup (.str z :: rest)) ∧ decide (V.str z = V.str "row") = false := by
      cases t with
      | tx z =>
        obtain ⟨p, rfl, h1⟩ := hp'
        exact ⟨p, _, _, rfl, sg _ _ h1, by decide +kernel⟩
      | el n cs =>
        obtain ⟨p, l, vs, rfl, h1, h2, h3⟩ := hp'
        exact ⟨p, _, _, rfl, sg _ _ h1, by decide +kernel⟩
    obtain ⟨p, z, rest, rfl, hpt, hne⟩ := hfirst
    refine ⟨_, rfl, p, _, _, _, rfl, rfl, SqT.of hpt, at_0, rfl, _, rfl, ?_⟩
    rw [hne]
    refine iteF ⟨_, rfl, a, dx, _, rfl, sg _ _ ha, lView_no_children, _, rfl, G, r, nm, S, a, t, .ref p, rfl, hvp, fun G1 l ws H1 g1 hl hws => ?_⟩
    have hl := g1.sub _ _ hl
    have hal := IsPs.al.mp hws
    have hkl := kids_len t
    refine ⟨l, rfl, ⟨_, SqL.of hl⟩, fun D hD => lc_map (walk_list (xs := ws)) hD g1.sub (fun G2 H2 gr => SqL.of (gr.same _ _ hl)) (fun i => nV (t.kids.getD i (.tx Str.empty)).size) (by rw [hal.len]; omega) ?_ ?_⟩
    · rintro i x G2 H2 H3 kk Z hi gr gD ⟨rfl, hx⟩ yes
      obtain ⟨c, hc, hcx⟩ := hal.at_ hx
      have hk := kid_size hc
      have g2 := (g1.trans (Gr.of g1.sub gr.same))
      obtain ⟨dx2, x02, ha2⟩ := (hvp.vw.mono (g1.ext.trans gr.ext)).at_ gr.sub
      refine ⟨rfl, ty_yes ⟨_, rfl, a, dx2, _, rfl, ha2, lView_no_weight, _, rfl, G2, r, nm, S, a, c, x, rfl, hvp.go (g1.trans gr) hc (hcx.mono gr.ext), by omega, fun G3 H4 g3 => ?_⟩⟩
      have := yes G3 H4 g3
      rw [show nV (t.kids.getD i (.tx Str.empty)).size = nV c.size by rw [List.getD_eq_getElem?_getD, hc]; rfl] at this
      exact this
    · intro G2 H2 g2 hD2 gD2
      have el : ws.length = t.kids.length := hal.len
      rw [el, map_range_getD (.tx Str.empty) t.kids (fun c => nV c.size)] at hD2
      have e2 : t.kids.map (fun c => nV c.size) = (t.kids.map fun c => ((c.size : Nat) : Int)).map V.int := by rw [List.map_map]; rfl
      refine ⟨D, _, rfl, SqL.of (e2 ▸ hD2), _, _, rfl, rfl, ?_⟩
      have := q G2 H2 (g1.trans g2)
      rw [sizes_kids, sizes_sum] at this
      have e3 : ∀ cs : List Tr, (cs.map fun c => ((c.size : Nat) : Int)).sum = (((cs.map Tr.size).sum : Nat) : Int) := fun cs => by
        induction cs with
        | nil => rfl
        | cons c cs ih => rw [List.map_cons, List.sum_cons, ih, List.map_cons, List.sum_cons]; omega
      show Q (V.int (1 + (t.kids.map fun c => ((c.size : Nat) : Int)).sum)) H2
      rw [e3, show (1 : Int) + (((t.kids.map Tr.size).sum : Nat) : Int) = ((1 + (t.kids.map Tr.size).sum : Nat) : Int) by omega]
      exact this
theorem sc_View_tree : FnScope ["self", "part", "child"] ["self", "part"] (defScope s_View_tree) := ⟨rfl, rfl, rfl, by decide +kernel, rfl, by decide +kernel, by decide +kernel⟩
theorem md_View_tree (D : Dm K (cVw K) "tree" "View.tree" s_View_tree) (T : Tx K mg) (N : Nat) (h_subtree : Hd P w K mg base "subtree" ["kept", "row"] k (spSub K N)) : ∀ n : Nat, n ≤ N → Md P w K mg base (cVw K) "tree" ["self", "part"] [] (k + n) (spVTree K n)
  | 0, _ => by
    refine md_vac D (fun _ _ _ _ _ _ us hl => match us, hl with | [_, _], _ => rfl) fun vs H Q E h => ?_
    obtain ⟨G, r, nm, S, a, t, v, _, _, hd, _⟩ := h
    have := t.depth_pos
    omega
  | n + 1, hN => by
    have h_View_tree := md_View_tree D T N h_subtree n (by omega)
    have h_subtree := h_subtree.mono (Nat.le_add_right k n)
    refine md_mk (k := k + n) D sc_View_tree (fun _ _ _ _ _ _ us hl => match us, hl with | [_, _], _ => rfl) (fun vs H Q E h => ?_) (fun f cdv A outer s H vs Q E hr h => ?_)
    · obtain ⟨G, r, nm, S, a, t, v, rfl, _⟩ := h; rfl
    obtain ⟨G, r, nm, S, a, t, v, rfl, hvp, hd, q⟩ := h
    obtain ⟨sg, ⟨dx, kp, ha, hkp⟩, hp, hz⟩ := id hvp
    refine ⟨_, (pss_cons (ps_if (pt_cmpR op_eq (pe_ix ix_tup (pv 1) pe_int (fun _ _ => rfl)) pe_str (nomark _))
      (pss_one (ps_ret (pe_hd h_subtree hr rfl (pa_cons (pe_fld (pv 0) rfl) (pa_cons (pe_ix ix_tup (pv 1) pe_int (fun _ _ => rfl)) pa_nil)))))
      pss_nil)
    (pss_cons (ps_if (pt_cmpR op_eq (pe_ix ix_tup (pv 1) pe_int (fun _ _ => rfl)) pe_str (nomark _))
      (pss_one (ps_ret (pe_ix ix_tup (pv 1) pe_int (fun _ _ => rfl))))
      pss_nil)
    (pss_one (ps_ret (pe_tup (pa_cons (pe_ix ix_tup (pv 1) pe_int (fun _ _ => rfl)) (pa_cons (pe_lc (own := [("child", 2)]) (g := gName 2) (tt := tYes) rfl sc_View_tree.nd (pi_list (pe_ix ix_tup (pv 1) pe_int (fun _ _ => rfl))) (blkOk_by (own := [("child", 2)]) (N := ["self", "part", "child"]) (sc := defScope s_View_tree) (by decide +kernel)) (fun _ _ _ _ _ => (pg_name (i := 2) sc_View_tree.nd rfl (Or.inl rfl))) (fun _ _ _ _ _ => pts_nil) (fun _ _ _ _ _ => (pe_md h_View_tree T.cView hr (pv 0) (pa_cons (pv 2) pa_nil)))) pa_nil))))))), ?_⟩
    rcases hp.split with ⟨i, p, rfl, h1, wy, h2, h3⟩ | hp'
    · refine ⟨_, rfl, p, _, _, _, rfl, rfl, SqT.of (sg _ _ h1), at_0, rfl, _, rfl, ?_⟩
      rw [show decide (V.str "row" = V.str "row") = true from by decide +kernel]
      refine iteT ⟨_, rfl, a, _, dx, _, _, rfl, sg _ _ ha, T.cView, T.nView_kept, lView_kept, _, rfl, p, _, _, _, rfl, rfl, SqT.of (sg _ _ h1), at_1, G, r, nm, S, kp, i, wy, rfl, ⟨sg, hkp, h2⟩, by rw [h3]; omega, by rw [h3]; exact hz, fun G' v' H1 g1 ht => ?_⟩
      exact q G' v' H1 g1 (h3 ▸ ht)
    cases t with
    | tx z =>
      obtain ⟨p, rfl, h1⟩ := hp'
      refine ⟨_, rfl, p, _, _, _, rfl, rfl, SqT.of (sg _ _ h1), at_0, rfl, _, rfl, ?_⟩
      rw [show decide (V.str "text" = V.str "row") = false from by decide +kernel]
      refine iteF ⟨_, rfl, p, _, _, _, rfl, rfl, SqT.of (sg _ _ h1), at_0, rfl, _, rfl, ?_⟩
      rw [show decide (V.str "text" = V.str "text") = true from by decide +kernel]
      exact iteT ⟨_, rfl, p, _, _, _, rfl, rfl, SqT.of (sg _ _ h1), at_1, q G _ H (.refl sg) rfl⟩
    | el nn cs =>
      obtain ⟨p, l, vs, rfl, h1, h2, h3⟩ := hp'
      have hal := IsPs.al.mp h3
      have hkl := kids_len (.el nn cs)
      refine ⟨_, rfl, p, _, _, _, rfl, rfl, SqT.of (sg _ _ h1), at_0, rfl, _, rfl, ?_⟩
      rw [show decide (V.str "element" = V.str "row") = false from by decide +kernel]
      refine iteF ⟨_, rfl, p, _, _, _, rfl, rfl, SqT.of (sg _ _ h1), at_0, rfl, _, rfl, ?_⟩
      rw [show decide (V.str "element" = V.str "text") = false from by decide +kernel]
      refine iteF ⟨_, rfl, p, _, _, _, rfl, rfl, SqT.of (sg _ _ h1), at_1, ?_⟩
      refine ⟨_, rfl, p, _, _, _, rfl, rfl, SqT.of (sg _ _ h1), rfl, l, rfl, ⟨_, SqL.of (sg _ _ h2)⟩, fun D hD => lc_rel (walk_list (xs := vs)) hD sg (fun G2 H2 gr => SqL.of (gr.same _ _ (sg _ _ h2))) (fun i G y => ∃ c, cs[i]? = some c ∧ IsT G c y) (fun i G G' y s ⟨c, e, h⟩ => ⟨c, e, h.mono s⟩) (by rw [hal.len]; simp only [Tr.kids] at hkl; omega) ?_ ?_⟩
      · rintro i x G2 H2 H3 kk Z hi gr gD _ ⟨rfl, hx⟩ hK
        obtain ⟨c, hc, hcx⟩ := hal.at_ hx
        have hk := kid_size (t := .el nn cs) hc
        obtain ⟨dx2, x02, ha2⟩ := (hvp.vw.mono gr.ext).at_ gr.sub
        exact ⟨rfl, ty_yes ⟨_, rfl, a, dx2, _, rfl, ha2, lView_no_tree, _, rfl, G2, r, nm, S, a, c, x, rfl, hvp.go gr hc (hcx.mono gr.ext), by omega, fun G3 v' H4 g3 ht => hK G3 H4 v' g3 ⟨c, hc, ht⟩⟩⟩
      · intro G2 H2 ys g2 hy gD hl hrl
        refine ⟨by show 2 ≤ sizeLine; decide, fun p2 hp2 => ?_⟩
        obtain ⟨G3, g3, ht3, _⟩ := (g2.al (o := .tup [.str nn, .ref D]) hp2).elem (cs := cs) (vs := ys) (g2.dom p2 hp2) hD upd_same (by rw [upd_ne (ne_of_none hy hp2)]; exact hy) (IsTs.of (by rw [hl, hal.len]) hrl)
        exact q G3 _ _ g3 ht3
end
end K5
set_option Elab.async false
set_option linter.all false
set_option maxRecDepth 100000
set_option maxHeartbeats 4000000
namespace K5
open PySem PySem.Spec PyProof.Rows L2
/-! ### View: numbered, at, are_apart; part_of -/
variable {r : Tr} {nm : List Str} {S : List Way}
def spVApart (K : PySem.W.Frag) : Sp := fun vs H Q _ => ∃ (G : Hp) (r : Tr) (nm : List Str) (S : List Way) (a : Addr) (cs : List Tr) (ws : List V) (l : Addr), vs = [.ref a, .ref l] ∧ Same G H ∧ IsVw K G r nm S a ∧ H l = some (.lst ws) ∧ IsPs r S G cs ws ∧ Tr.sizes cs ≤ 50000 ∧ ∀ H', Same H H' → Q (.bl (apart cs)) H'
def spPartOf (K : PySem.W.Frag) (n : Nat) : Sp := fun vs H Q _ => ∃ (G : Hp) (r : Tr) (S : List Way) (t : Tr) (v : V), vs = [v] ∧ Same G H ∧ IsT G t v ∧ t.depth ≤ n ∧ t.size ≤ 50000 ∧ ∀ G' v' H', Gr W0 G H G' H' → IsP r S G' t v' → Q v' H'
theorem ok_take : ∀ {t : Tr} {wy : Way} (i : Nat), t.ok wy → i < wy.length → ∃ j, wy[i]? = some j ∧ j < (t.go (wy.take i)).kids.length ∧ t.go (wy.take (i + 1)) = (t.go (wy.take i)).ch j := fun {t wy} i h hi => by
  refine ⟨wy[i], List.getElem?_eq_getElem hi, ?_, ?_⟩
  · have e : wy = wy.take i ++ wy[i] :: wy.drop (i + 1) := by rw [List.getElem_cons_drop, List.take_append_drop]
    rw [e, ok_app] at h
    exact h.2.1
  · rw [List.take_add_one, List.getElem?_eq_getElem hi]
    exact go_snoc _ _ _
theorem ch_get {t : Tr} {j : Nat} (h : j < t.kids.length) : t.kids[j]? = some (t.ch j) := by
  unfold Tr.ch
  rw [List.getD_eq_getElem?_getD, List.getElem?_eq_getElem h]
  rfl
theorem go_size {t : Tr} : ∀ {wy : Way}, t.ok wy → (t.go wy).size ≤ t.size ∧ (t.go wy).depth ≤ t.depth := fun {wy} h => by
  induction wy generalizing t with
  | nil => exact ⟨Nat.le_refl _, Nat.le_refl _⟩
  | cons j w ih =>
    have h1 := ih h.2
    have h2 := kid_size (ch_get h.1)
    exact ⟨Nat.le_trans h1.1 (by omega), Nat.le_trans h1.2 (by omega)⟩
section
variable {P : Program} {w : World} {K : PySem.W.Frag} {mg : Str → Option Value} {base : Heap} {k : Nat}
theorem sc_View_numbered : FnScope ["self", "number", "part", "found", "first", "child"] ["self", "number", "part"] (defScope s_View_numbered) := ⟨rfl, rfl, rfl, by decide +kernel, rfl, by decide +kernel, by decide +kernel⟩
theorem md_View_numbered (D : Dm K (cVw K) "numbered" "View.numbered" s_View_numbered) (T : Tx K mg) (n : Nat) (h_View_children : Md P w K mg base (cVw K) "children" ["self", "part"] [] k (spVKids K)) (h_View_weight : Md P w K mg base (cVw K) "weight" ["self", "part"] [] k (spVWt K n)) : Md P w K mg base (cVw K) "numbered" ["self", "number", "part"] [] (k + 1) (spVNum K n) := by
  refine md_mk D sc_View_numbered (fun _ _ _ _ _ _ us hl => match us, hl with | [_, _, _], _ => rfl) (fun vs H Q E h => ?_) (fun f cdv A outer s H vs Q E hr h => ?_)
  · obtain ⟨G, r, nm, S, a, t, v, x, rfl, _⟩ := h; rfl
  obtain ⟨G, r, nm, S, a, t, v, x, rfl, hvp, hd, q⟩ := h
  refine ⟨_, (pss_cons (ps_set (i := 3) sc_View_numbered.nd rfl (Or.inl rfl) (pe_lst pa_nil))
    (pss_cons (ps_set (i := 4) sc_View_numbered.nd rfl (Or.inl rfl) (pe_op op_add (pv 1) pe_int))
    (pss_cons (ps_for PassesOwn.never rfl (pi_list (pe_md h_View_children T.cView hr (pv 0) (pa_cons (pv 2) pa_nil))) (pg_name (i := 5) sc_View_numbered.nd rfl (Or.inl rfl))
      (pss_cons (ps_expr (pe_bm PySem.F.plainAttrs_list PySem.F.slot_list_append PySem.F.type_list_append mt_append (pv 3) (pa_cons (pe_tup (pa_cons (pv 4) (pa_cons (pv 5) pa_nil))) pa_nil)))
      (pss_one (ps_aug (i := 4) sc_View_numbered.nd rfl (Or.inl rfl) (pe_md h_View_weight T.cView hr (pv 0) (pa_cons (pv 5) pa_nil)) ip_add))))
    (pss_one (ps_ret (pv 3)))))), ?_⟩
  have hkl := kids_len t
  have hz := hvp.z
  refine ⟨by show 0 ≤ sizeLine; decide, fun lf nf => ⟨_, rfl, _, _, rfl, rfl, ?_⟩⟩
  have g0 : Gr W0 G H G (upd H lf (.lst [])) := .alloc hvp.s nf
  obtain ⟨dx, x0, ha⟩ := (hvp.up g0).vw.at_ g0.sub
  refine ⟨_, rfl, a, dx, _, rfl, ha, lView_no_children, _, rfl, G, r, nm, S, a, t, v, rfl, hvp.up g0, fun G1 l ws H1 g1 hl hws => ?_⟩
  have hal := IsPs.al.mp hws
  have g01 := g0.trans g1
  have hf1 : H1 lf = some (.lst []) := g1.same _ _ upd_same
  have gf1 : G1 lf = none := g1.free (same_none hvp.s nf) upd_same
  have hlG := hl
  have hl := g1.sub _ _ hl
  refine ⟨l, rfl, ⟨_, SqL.of hl⟩, for_it (walk_list (xs := ws)) (fun i σ H2 => ∃ (G2 : Hp) (ys : List V) (x5 : Option V), σ = [some (.ref a), some (nV x), some v, some (.ref lf), some (nV (x + 1 + Tr.sizes (t.kids.take i))), x5] ∧ Gr W0 G H G2 H2 ∧ Same G1 G2 ∧ H2 l = some (.lst ws) ∧ H2 lf = some (.lst ys) ∧ G2 lf = none ∧ Al (IsN r S G2) ((nbs (x + 1) (t.kids.take i)).zip (t.kids.take i)) ys)
    ⟨G1, [], none, ?_, g01, Same.refl G1, hl, hf1, gf1, Al.nil⟩ (fun i σ H2 _ ⟨_, _, _, _, _, _, h, _⟩ => SqL.of h) ?_ ?_⟩
  · show [some (V.ref a), some (nV x), some v, some (.ref lf), some (V.int ((x : Int) + 1)), none] = _
    rw [show (x : Int) + 1 = ((x + 1 + Tr.sizes (t.kids.take 0) : Nat) : Int) by simp [Tr.sizes]]
  · rintro i y σ H0 H2 hi ⟨G2, ys, x5, rfl, g2, s12, hl2, hf2, gf2, hal2⟩ ⟨rfl, hy⟩
    obtain ⟨c, hc, hcy⟩ := hal.at_ hy
    have hk := kid_size hc
    have hic := (List.getElem?_eq_some_iff.mp hc).1
    have hyl : ys.length = i := by
      have := hal2.len
      rw [List.length_zip, nbs_len, List.length_take] at this
      omega
    have ht1 : t.kids.take (i + 1) = t.kids.take i ++ [c] := by rw [List.take_add_one, hc]; rfl
    refine ⟨_, rfl, .inl ⟨rfl, _, SqL.of hf2⟩, _, rfl, _, rfl, by show 2 ≤ sizeLine; decide, fun p np => ?_⟩
    have fp : lf ≠ p := ne_of_none hf2 np
    have lp : l ≠ p := ne_of_none hl2 np
    have lfl : l ≠ lf := ne_of_none hlG gf1
    refine ⟨lf, _, _, rfl, rfl, by rw [upd_ne fp]; exact hf2, smallT (by omega), ?_⟩
    have g3 : Gr W0 G H (upd G2 p (.tup [nV (x + 1 + Tr.sizes (t.kids.take i)), y])) (upd H2 p (.tup [nV (x + 1 + Tr.sizes (t.kids.take i)), y])) := (g2.al np).frz (g2.dom p np) upd_same
    have s3 : Same G2 (upd G2 p (.tup [nV (x + 1 + Tr.sizes (t.kids.take i)), y])) := same_frz (H1 := upd H2 p (.tup [nV (x + 1 + Tr.sizes (t.kids.take i)), y])) (g2.al np).sub upd_same
    have gf3 : upd G2 p (.tup [nV (x + 1 + Tr.sizes (t.kids.take i)), y]) lf = none := by rw [upd_ne fp]; exact gf2
    have g4 : Gr W0 G H (upd G2 p (.tup [nV (x + 1 + Tr.sizes (t.kids.take i)), y])) (upd (upd H2 p (.tup [nV (x + 1 + Tr.sizes (t.kids.take i)), y])) lf (.lst (ys ++ [.ref p]))) := g3.wr (.inl nf) gf3 (by rw [upd_ne fp]; exact hf2)
    have hp3 : upd G2 p (.tup [nV (x + 1 + Tr.sizes (t.kids.take i)), y]) p = some (.tup [nV (x + 1 + Tr.sizes (t.kids.take i)), y]) := upd_same
    have hl4 : upd (upd H2 p (.tup [nV (x + 1 + Tr.sizes (t.kids.take i)), y])) lf (.lst (ys ++ [.ref p])) l = some (.lst ws) := by rw [upd_ne lfl, upd_ne lp]; exact hl2
    have hf4 : upd (upd H2 p (.tup [nV (x + 1 + Tr.sizes (t.kids.take i)), y])) lf (.lst (ys ++ [.ref p])) lf = some (.lst (ys ++ [.ref p])) := upd_same
    generalize upd G2 p (.tup [nV (x + 1 + Tr.sizes (t.kids.take i)), y]) = G3 at *
    generalize upd (upd H2 p (.tup [nV (x + 1 + Tr.sizes (t.kids.take i)), y])) lf (.lst (ys ++ [.ref p])) = H4 at *
    obtain ⟨dx2, x02, ha2⟩ := (hvp.vw.mono g4.ext).at_ g4.sub
    refine ⟨_, rfl, _, rfl, a, dx2, _, rfl, ha2, lView_no_weight, _, rfl, G3, r, nm, S, a, c, y, rfl, hvp.go g4 hc (hcy.mono (s12.trans s3)), by omega, fun G5 H5 g5 => ?_⟩
    refine ⟨_, _, rfl, rfl, G5, _, some y, ?_, g4.trans g5, (s12.trans s3).trans g5.ext, g5.same _ _ hl4, g5.same _ _ hf4, g5.free gf3 hf4, ?_⟩
    · show [some (V.ref a), some (nV x), some v, some (.ref lf), some (V.int (((x + 1 + Tr.sizes (t.kids.take i) : Nat) : Int) + ((c.size : Nat) : Int))), some y] = _
      rw [ht1, sizes_app, show ((x + 1 + Tr.sizes (t.kids.take i) : Nat) : Int) + ((c.size : Nat) : Int) = ((x + 1 + (Tr.sizes (t.kids.take i) + Tr.sizes [c]) : Nat) : Int) by simp only [Tr.sizes]; omega]
    · rw [ht1, nbs_app, List.zip_append (by rw [nbs_len])]
      refine (hal2.mono fun x y h => h.mono (s3.trans g5.ext)).app (Al.one ?_)
      exact ⟨p, y, rfl, g5.ext _ _ hp3, hcy.mono ((s12.trans s3).trans g5.ext)⟩
  · rintro σ H2 ⟨G2, ys, x5, rfl, g2, s12, hl2, hf2, gf2, hal2⟩
    rw [hal.len, List.take_length] at hal2
    exact ⟨_, rfl, q G2 lf ys H2 g2 nf hf2 hal2⟩
theorem sc_View_at : FnScope ["self", "part", "way", "place"] ["self", "part", "way"] (defScope s_View_at) := ⟨rfl, rfl, rfl, by decide +kernel, rfl, by decide +kernel, by decide +kernel⟩
theorem md_View_at (D : Dm K (cVw K) "at" "View.at" s_View_at) (T : Tx K mg) (h_View_children : Md P w K mg base (cVw K) "children" ["self", "part"] [] k (spVKids K)) : Md P w K mg base (cVw K) "at" ["self", "part", "way"] [] (k + 1) (spVAt K) := by
  refine md_mk D sc_View_at (fun _ _ _ _ _ _ us hl => match us, hl with | [_, _, _], _ => rfl) (fun vs H Q E h => ?_) (fun f cdv A outer s H vs Q E hr h => ?_)
  · obtain ⟨G, r, nm, S, a, t, v, wy, lw, rfl, _⟩ := h; rfl
  obtain ⟨G, r, nm, S, a, t, v, wy, lw, rfl, hvp, hl, hok, q⟩ := h
  refine ⟨_, (pss_cons (ps_for PassesOwn.never rfl (pi_list (pv 2)) (pg_name (i := 3) sc_View_at.nd rfl (Or.inl rfl))
      (pss_one (ps_set (i := 1) sc_View_at.nd rfl (Or.inl rfl) (pe_ix ix_list (pe_md h_View_children T.cView hr (pv 0) (pa_cons (pv 1) pa_nil)) (pv 3) (fun _ _ => rfl)))))
    (pss_one (ps_ret (pv 1)))), ?_⟩
  refine ⟨_, rfl, lw, rfl, ⟨_, SqL.of hl⟩, for_it (walk_list (xs := vN wy)) (fun i σ H2 => ∃ (G2 : Hp) (u : V) (x3 : Option V), σ = [some (.ref a), some u, some (.ref lw), x3] ∧ Gr W0 G H G2 H2 ∧ IsP r S G2 (t.go (wy.take i)) u)
    ⟨G, v, none, rfl, .refl hvp.s, hvp.p⟩ (fun i σ H2 _ ⟨_, _, _, _, g, _⟩ => SqL.of (g.same _ _ hl)) ?_ ?_⟩
  · rintro i y σ H2 H3 hi ⟨G2, u, x3, rfl, g2, hu⟩ ⟨rfl, hy⟩
    obtain ⟨j, hj, rfl⟩ := map_get hy
    have hi' : i < wy.length := by simpa using hi
    obtain ⟨j', hj', hjk, hgo⟩ := ok_take i hok hi'
    rw [hj] at hj'
    cases (Option.some.inj hj')
    have hok2 : t.ok (wy.take i) := by
      have e : wy = wy.take i ++ wy.drop i := (List.take_append_drop i wy).symm
      rw [e, ok_app] at hok
      exact hok.1
    have hgs := go_size hok2
    have hz := hvp.z
    obtain ⟨dx2, x02, ha2⟩ := (hvp.vw.mono g2.ext).at_ g2.sub
    refine ⟨_, rfl, a, dx2, _, rfl, ha2, lView_no_children, _, rfl, G2, r, nm, S, a, _, u, rfl, ⟨g2.sub, hvp.vw.mono g2.ext, hu, by omega⟩, fun G3 l ws H3 g3 hl3 hws => ?_⟩
    obtain ⟨y, hy, hyp⟩ := (IsPs.al.mp hws).get (ch_get hjk)
    refine ⟨_, rfl, l, ws, _, y, rfl, rfl, SqL.of (g3.sub _ _ hl3), atI_n rfl hy, G3, y, some (nV j), rfl, g2.trans g3, ?_⟩
    rw [hgo]
    exact hyp
  · rintro σ H2 ⟨G2, u, x3, rfl, g2, hu⟩
    rw [List.length_map, List.take_length] at hu
    exact ⟨_, rfl, q G2 u H2 g2 hu⟩
end
end K5
set_option Elab.async false
set_option linter.all false
set_option maxRecDepth 100000
set_option maxHeartbeats 4000000
namespace K5
open PySem PySem.Spec PyProof.Rows L2
/-! ### the way to a node -/
variable {r : Tr} {nm : List Str} {S : List Way}
mutual
def Tr.wy : Tr → Nat → Way
  | _, 0 => []
  | .tx _, _ + 1 => []
  | .el _ cs, k + 1 => Tr.wys 0 cs k
def Tr.wys : Nat → List Tr → Nat → Way
  | _, [], _ => []
  | j, c :: cs, k => if k < c.size then j :: c.wy k else Tr.wys (j + 1) cs (k - c.size)
end
theorem wy_0 (t : Tr) : t.wy 0 = [] := by cases t <;> simp [Tr.wy]
theorem wys_at : ∀ {cs : List Tr} {i j k : Nat} {c : Tr}, cs[j]? = some c → Tr.sizes (cs.take j) ≤ k → k < Tr.sizes (cs.take j) + c.size → Tr.wys i cs k = (i + j) :: c.wy (k - Tr.sizes (cs.take j))
  | d :: cs, i, 0, k, c, h, h1, h2 => by
    cases (Option.some.inj h)
    simp only [List.take_zero, Tr.sizes, Nat.zero_add] at *
    rw [Tr.wys, if_pos h2]
    rfl
  | d :: cs, i, j + 1, k, c, h, h1, h2 => by
    rw [List.take_succ_cons, Tr.sizes] at *
    rw [Tr.wys, if_neg (by omega), wys_at (j := j) (c := c) (by simpa using h) (by omega) (by omega), show i + 1 + j = i + (j + 1) by omega, Nat.sub_sub]
theorem sizes_le_take : ∀ {cs : List Tr} {k : Nat}, k < Tr.sizes cs → ∃ (j : Nat) (c : Tr), cs[j]? = some c ∧ Tr.sizes (cs.take j) ≤ k ∧ k < Tr.sizes (cs.take j) + c.size
  | [], k, h => by simp [Tr.sizes] at h
  | d :: cs, k, h => by
    rw [Tr.sizes] at h
    by_cases hd : k < d.size
    · exact ⟨0, d, rfl, Nat.zero_le _, by simp [Tr.sizes]; exact hd⟩
    · obtain ⟨j, c, e, h1, h2⟩ := sizes_le_take (cs := cs) (k := k - d.size) (by omega)
      exact ⟨j + 1, c, e, by rw [List.take_succ_cons, Tr.sizes]; omega, by rw [List.take_succ_cons, Tr.sizes]; omega⟩
theorem wy_kid {t c : Tr} {j k : Nat} (h : t.kids[j]? = some c) (h1 : Tr.sizes (t.kids.take j) ≤ k) (h2 : k < Tr.sizes (t.kids.take j) + c.size) : t.wy (k + 1) = j :: c.wy (k - Tr.sizes (t.kids.take j)) := by
  cases t with
  | tx s => simp [Tr.kids] at h
  | el n cs =>
    have h : cs[j]? = some c := h
    have h1 : Tr.sizes (cs.take j) ≤ k := h1
    have h2 : k < Tr.sizes (cs.take j) + c.size := h2
    rw [Tr.wy, wys_at h h1 h2, Nat.zero_add]
    rfl
theorem iteFe {b : Bool} {A B : Prop} (h : b = false) (x : B) : if b = true then A else B := by subst h; exact iteF x
theorem iteTe {b : Bool} {A B : Prop} (h : b = true) (x : A) : if b = true then A else B := by subst h; exact iteT x
theorem wy_ok : ∀ {n : Nat} {t : Tr} {k : Nat}, t.size ≤ n → k < t.size → t.ok (t.wy k)
  | 0, t, k, h, hk => by omega
  | n + 1, t, 0, h, hk => by rw [wy_0]; trivial
  | n + 1, t, k + 1, h, hk => by
    have hs := sizes_kids t
    obtain ⟨j, c, e, h1, h2⟩ := sizes_le_take (cs := t.kids) (k := k) (by omega)
    have hc := kid_size e
    have hj := (List.getElem?_eq_some_iff.mp e).1
    rw [wy_kid e h1 h2]
    refine ⟨hj, ?_⟩
    have e2 : t.ch j = c := Option.some.inj ((ch_get hj).symm.trans e)
    rw [e2]
    exact wy_ok (n := n) (by omega) (by omega)
theorem take_sizes_succ {cs : List Tr} {j : Nat} {c : Tr} (h : cs[j]? = some c) : Tr.sizes (cs.take (j + 1)) = Tr.sizes (cs.take j) + c.size := by
  rw [List.take_add_one, h, sizes_app]
  simp [Tr.sizes]
def spVWay (K : PySem.W.Frag) (n : Nat) : Sp := fun vs H Q _ => ∃ (G : Hp) (r : Tr) (nm : List Str) (S : List Way) (a : Addr) (t : Tr) (v : V) (y : Nat), vs = [.ref a, v, nV y] ∧ VP K G H r nm S a t v ∧ t.depth ≤ n + 1 ∧ y < t.size ∧ ∀ G' l H', Gr W0 G H G' H' → H l = none → H' l = some (.lst (vN (t.wy y))) → Q (.ref l) H'
section
variable {P : Program} {w : World} {K : PySem.W.Frag} {mg : Str → Option Value} {base : Heap} {k : Nat}
theorem sc_View_way_to : FnScope ["self", "part", "node", "way", "number", "place", "rows"] ["self", "part", "node"] (defScope s_View_way_to) := ⟨rfl, rfl, rfl, by decide +kernel, rfl, by decide +kernel, by decide +kernel⟩
theorem md_View_way_to (D : Dm K (cVw K) "way_to" "View.way_to" s_View_way_to) (T : Tx K mg) (n : Nat) (h_View_numbered : Md P w K mg base (cVw K) "numbered" ["self", "number", "part"] [] k (spVNum K n)) : Md P w K mg base (cVw K) "way_to" ["self", "part", "node"] [] (k + 1) (spVWay K n) := by
  refine md_mk D sc_View_way_to (fun _ _ _ _ _ _ us hl => match us, hl with | [_, _, _], _ => rfl) (fun vs H Q E h => ?_) (fun f cdv A outer s H vs Q E hr h => ?_)
  · obtain ⟨G, r, nm, S, a, t, v, y, rfl, _⟩ := h; rfl
  obtain ⟨G, r, nm, S, a, t, v, y, rfl, hvp, hd, hy, q⟩ := h
  refine ⟨_, (pss_cons (ps_set (i := 3) sc_View_way_to.nd rfl (Or.inl rfl) (pe_lst pa_nil))
    (pss_cons (ps_set (i := 4) sc_View_way_to.nd rfl (Or.inl rfl) pe_int)
    (pss_cons (ps_while PassesOwn.never (pt_cmpR op_lt (pv 4) (pv 2) (nomark _))
      (pss_cons (ps_set (i := 5) sc_View_way_to.nd rfl (Or.inl rfl) pe_int)
      (pss_cons (ps_set (i := 6) sc_View_way_to.nd rfl (Or.inl rfl) (pe_md h_View_numbered T.cView hr (pv 0) (pa_cons (pv 4) (pa_cons (pv 1) pa_nil))))
      (pss_cons (ps_while PassesOwn.never (PW.pt (pw_and (pt_cmpR op_lt (pe_op op_add (pv 5) pe_int) (pe_callB call_len_seq (by rfl) T.len (by decide +kernel) (pa_cons (pv 6) pa_nil)) (nomark _)) (pw_and1 (pt_cmpR op_le (pe_ix ix_tup (pe_ix ix_list (pv 6) (pe_op op_add (pv 5) pe_int) (fun _ _ => rfl)) pe_int (fun _ _ => rfl)) (pv 2) (nomark _)))))
        (pss_one (ps_aug (i := 5) sc_View_way_to.nd rfl (Or.inl rfl) pe_int ip_add)))
      (pss_cons (ps_expr (pe_bm PySem.F.plainAttrs_list PySem.F.slot_list_append PySem.F.type_list_append mt_append (pv 3) (pa_cons (pv 5) pa_nil)))
      (pss_one (ps_asg (pe_ix ix_list (pv 6) (pv 5) (fun _ _ => rfl)) (pg_tup rfl (pgs_cons (pg_name (i := 4) sc_View_way_to.nd rfl (Or.inl rfl)) (pgs_cons (pg_name (i := 1) sc_View_way_to.nd rfl (Or.inl rfl)) pgs_nil))))))))))
    (pss_one (ps_ret (pv 3)))))), ?_⟩
  have hz := hvp.z
  refine ⟨by show 0 ≤ sizeLine; decide, fun lw nw => ?_⟩
  have g0 : Gr W0 G H G (upd H lw (.lst [])) := .alloc hvp.s nw
  have gw := same_none hvp.s nw
  refine ⟨fun m σ H1 => ∃ (G1 : Hp) (u : Way) (s : Tr) (pv : V) (x kk : Nat) (x5 x6 : Option V), σ = [some (.ref a), some pv, some (nV y), some (.ref lw), some (nV x), x5, x6] ∧ Gr W0 G H G1 H1 ∧ G1 lw = none ∧ H1 lw = some (.lst (vN u)) ∧ IsP r S G1 s pv ∧ s.size ≤ t.size ∧ s.depth ≤ t.depth ∧ y = x + kk ∧ kk < s.size ∧ t.wy y = u ++ s.wy kk ∧ u.length + kk ≤ y ∧ kk = m,
    ⟨_, G, [], t, v, 0, y, none, none, rfl, g0, gw, upd_same, hvp.p, Nat.le_refl _, Nat.le_refl _, by omega, hy, rfl, by simp, rfl⟩, ?_⟩
  rintro m σ H1 ⟨G1, u, st, pv, x, kk, x5, x6, rfl, g1, gw1, hw1, hp1, hz1, hd1, hyx, hkk, hway, hul, rfl⟩
  refine ⟨_, rfl, _, rfl, _, _, rfl, rfl, _, rfl, ?_⟩
  cases kk with
  | zero =>
    rw [show decide (((x : Nat) : Int) < ((y : Nat) : Int)) = false from decide_eq_false (by omega)]
    rw [wy_0, List.append_nil] at hway
    refine iteF ⟨_, rfl, q G1 lw H1 g1 nw (by rw [hway]; exact hw1)⟩
  | succ kk =>
    rw [show decide (((x : Nat) : Int) < ((y : Nat) : Int)) = true from decide_eq_true (by omega)]
    refine iteT ⟨fun σ' H' => ∃ m', m' < kk + 1 ∧ _, fun _ _ h => h, ?_⟩
    obtain ⟨dx2, x02, ha2⟩ := (hvp.vw.mono g1.ext).at_ g1.sub
    refine ⟨_, rfl, a, dx2, _, rfl, ha2, lView_no_numbered, _, rfl, _, rfl, G1, r, nm, S, a, st, pv, x, rfl, ⟨g1.sub, hvp.vw.mono g1.ext, hp1, by omega⟩, by omega, fun G2 lr ws H2 g2 nlr hlr hal => ?_⟩
    have gt2 := g1.trans g2
    have hw2 := g2.same _ _ hw1
    have gw2 := g2.free gw1 hw1
    have hss := sizes_kids st
    have hwl : ws.length = st.kids.length := by rw [hal.len, List.length_zip, nbs_len, Nat.min_self]
    have hget : ∀ j c, st.kids[j]? = some c → ∃ p pv', ws[j]? = some (.ref p) ∧ G2 p = some (.tup [nV (x + 1 + Tr.sizes (st.kids.take j)), pv']) ∧ IsP r S G2 c pv' := fun j c hc => by
      have hj := (List.getElem?_eq_some_iff.mp hc).1
      have hzp : ((nbs (x + 1) st.kids).zip st.kids)[j]? = some (x + 1 + Tr.sizes (st.kids.take j), c) := by
        rw [List.getElem?_zip_eq_some]
        exact ⟨nbs_get _ _ _ hj, hc⟩
      obtain ⟨y, hy, p, v', rfl, h1, h2⟩ := hal.get hzp
      exact ⟨p, v', hy, h1, h2⟩
    obtain ⟨j0, c0, hj0, hs1, hs2⟩ := sizes_le_take (cs := st.kids) (k := kk) (by omega)
    have hj0l := (List.getElem?_eq_some_iff.mp hj0).1
    refine ⟨fun m σ H3 => ∃ (j : Nat), σ = [some (.ref a), some pv, some (nV y), some (.ref lw), some (nV x), some (nV j), some (.ref lr)] ∧ H3 = H2 ∧ j ≤ j0 ∧ m = j0 - j,
      ⟨_, 0, rfl, rfl, Nat.zero_le _, rfl⟩, ?_⟩
    rintro m σ H3 ⟨j, rfl, rfl, hj, rfl⟩
    refine ⟨_, rfl, _, _, rfl, rfl, _, rfl, lr, ws, rfl, .inl (SqL.of hlr), _, _, rfl, rfl, _, rfl, ?_⟩
    have ej : (j : Int) + 1 = ((j + 1 : Nat) : Int) := by omega
    by_cases hlt : j < j0
    · obtain ⟨c1, hc1⟩ : ∃ c1, st.kids[j + 1]? = some c1 := ⟨_, List.getElem?_eq_getElem (by omega)⟩
      obtain ⟨p, pv', hwj, hpj, _⟩ := hget (j + 1) c1 hc1
      have hmon : Tr.sizes (st.kids.take (j + 1)) ≤ Tr.sizes (st.kids.take j0) := by
        have : st.kids.take j0 = st.kids.take (j + 1) ++ (st.kids.take j0).drop (j + 1) := by
          rw [List.take_eq_take_iff.mpr (show min (j + 1) st.kids.length = min (min (j + 1) j0) st.kids.length by omega), ← List.take_take, List.take_append_drop]
        rw [this, sizes_app]
        omega
      rw [show decide (((j : Int) + 1) < ((ws.length : Nat) : Int)) = true from decide_eq_true (by omega)]
      refine iteT ⟨_, rfl, _, rfl, _, _, rfl, rfl, lr, ws, _, _, rfl, rfl, SqL.of hlr, atI_n ej hwj, p, _, _, _, rfl, rfl, SqT.of (g2.sub _ _ hpj), at_0, _, rfl, _, _, rfl, rfl, _, rfl, ?_⟩
      rw [show decide (((x + 1 + Tr.sizes (st.kids.take (j + 1)) : Nat) : Int) ≤ ((y : Nat) : Int)) = true from decide_eq_true (by omega)]
      refine iteT ⟨fun σ' H' => ∃ m', m' < j0 - j ∧ _, fun _ _ h => h, ?_⟩
      refine ⟨_, rfl, _, _, rfl, rfl, j0 - (j + 1), by omega, j + 1, ?_, rfl, by omega, rfl⟩
      show [_, _, _, _, _, some (V.int ((j : Int) + 1)), _] = _
      rw [ej]
    · have hjj : j = j0 := by omega
      subst hjj
      obtain ⟨p, pv', hwj, hpj, hcj⟩ := hget j c0 hj0
      refine (fun (cont : _) => dite (j + 1 < ws.length) (fun h => by
        obtain ⟨c1, hc1⟩ : ∃ c1, st.kids[j + 1]? = some c1 := ⟨_, List.getElem?_eq_getElem (by omega)⟩
        obtain ⟨p1, pv1, hwj1, hpj1, _⟩ := hget (j + 1) c1 hc1
        have := take_sizes_succ hj0
        refine iteTe (decide_eq_true (by omega)) ⟨_, rfl, _, rfl, _, _, rfl, rfl, lr, ws, _, _, rfl, rfl, SqL.of hlr, atI_n ej hwj1, p1, _, _, _, rfl, rfl, SqT.of (g2.sub _ _ hpj1), at_0, _, rfl, _, _, rfl, rfl, _, rfl, iteFe (decide_eq_false (by omega)) cont⟩) (fun h => iteFe (decide_eq_false (by omega)) (iteF cont))) ?_
      refine ⟨_, rfl, .inl ⟨rfl, _, SqL.of hw2⟩, _, rfl, lw, _, _, rfl, rfl, hw2, smallT (by rw [List.length_map]; omega), ?_⟩
      have g3 : Gr W0 G H G2 (upd H3 lw (.lst (vN u ++ [nV j]))) := gt2.wr (.inl nw) gw2 hw2
      have hne : lr ≠ lw := (ne_of_none hw1 nlr).symm
      refine ⟨_, rfl, _, rfl, lr, ws, _, _, rfl, rfl, SqL.of (by rw [upd_ne hne]; exact hlr), atI_n rfl hwj, p, _, rfl, SqT.of (g3.sub _ _ hpj), rfl, _, _, rfl, _, _, rfl, rfl, ?_⟩
      have hck := kid_size hj0
      refine ⟨kk - Tr.sizes (st.kids.take j), by omega, G2, u ++ [j], c0, pv', x + 1 + Tr.sizes (st.kids.take j), kk - Tr.sizes (st.kids.take j), _, _, rfl, g3, gw2, by rw [upd_same]; simp [vN], hcj, by omega, by omega, by omega, by omega, ?_, ?_, rfl⟩
      · rw [hway, wy_kid hj0 hs1 hs2, List.append_assoc]
        rfl
      · rw [List.length_append]
        simp only [List.length_cons, List.length_nil]
        omega
theorem sc_View_are_apart : FnScope ["self", "children", "words", "child", "place"] ["self", "children"] (defScope s_View_are_apart) := ⟨rfl, rfl, rfl, by decide +kernel, rfl, by decide +kernel, by decide +kernel⟩
theorem md_View_are_apart (D : Dm K (cVw K) "are_apart" "View.are_apart" s_View_are_apart) (T : Tx K mg) (h_View_word : Md P w K mg base (cVw K) "word" ["self", "part"] [] k (spVWord K)) : Md P w K mg base (cVw K) "are_apart" ["self", "children"] [] (k + 1) (spVApart K) := by
  refine md_mk D sc_View_are_apart (fun _ _ _ _ _ _ us hl => match us, hl with | [_, _], _ => rfl) (fun vs H Q E h => ?_) (fun f cdv A outer s H vs Q E hr h => ?_)
  · obtain ⟨G, r, nm, S, a, cs, ws, l, rfl, _⟩ := h; rfl
  obtain ⟨G, r, nm, S, a, cs, ws, l, rfl, sg, hvw, hl, hws, hz, q⟩ := h
  refine ⟨_, (pss_cons (ps_set (i := 2) sc_View_are_apart.nd rfl (Or.inr rfl) (pe_lc (own := [("child", 3)]) (g := gName 3) (tt := tYes) rfl sc_View_are_apart.nd (pi_list (pv 1)) (blkOk_by (own := [("child", 3)]) (N := ["self", "children", "words", "child", "place"]) (sc := defScope s_View_are_apart) (by decide +kernel)) (fun _ _ _ _ _ => (pg_name (i := 3) sc_View_are_apart.nd rfl (Or.inl rfl))) (fun _ _ _ _ _ => pts_nil) (fun _ _ _ _ _ => (pe_md h_View_word T.cView hr (pv 0) (pa_cons (pv 3) pa_nil)))))
    (pss_one (ps_ret (pe_not (pe_callB (cr_any rfl) (by rfl) T.any (by decide +kernel) (pa_cons (pe_lc (own := [("place", 4)]) (g := gName 4) (tt := tYes) rfl sc_View_are_apart.nd (pi_range1 (by rfl) T.range (pa_cons (pe_op op_sub (pe_callB call_len_seq (by rfl) T.len (by decide +kernel) (pa_cons (pv 2) pa_nil)) pe_int) pa_nil)) (blkOk_by (own := [("place", 4)]) (N := ["self", "children", "words", "child", "place"]) (sc := defScope s_View_are_apart) (by decide +kernel)) (fun _ _ _ _ _ => (pg_name (i := 4) sc_View_are_apart.nd rfl (Or.inl rfl))) (fun _ _ _ _ _ => pts_nil) (fun _ _ _ _ _ => (pe_and (pe_cmpR op_isN (pe_ix (ixl K) (pv 2) (pv 4) (fun _ _ => rfl)) pe_non (nomark _)) (pe_one (pe_cmpR op_isN (pe_ix (ixl K) (pv 2) (pe_op op_add (pv 4) pe_int) (fun _ _ => rfl)) pe_non (nomark _)))))) pa_nil)))))), ?_⟩
  have hal := IsPs.al.mp hws
  have hsl := sizes_len cs
  refine ⟨_, rfl, l, rfl, ⟨_, SqL.of hl⟩, fun D hD => lc_map (walk_list (xs := ws)) hD sg (fun G2 H2 gr => SqL.of (gr.same _ _ hl)) (fun i => nameV (cs.getD i (.tx Str.empty))) (by rw [hal.len]; omega) ?_ ?_⟩
  · rintro i x G2 H2 H3 kk Z hi gr gD ⟨rfl, hx⟩ yes
    obtain ⟨c, hc, hcx⟩ := hal.at_ hx
    have hsz := sizes_get hc
    obtain ⟨dx2, x02, ha2⟩ := (hvw.mono gr.ext).at_ gr.sub
    refine ⟨rfl, ty_yes ⟨_, rfl, a, dx2, _, rfl, ha2, lView_no_word, _, rfl, G2, r, nm, S, a, c, x, rfl, ⟨gr.sub, hvw.mono gr.ext, hcx.mono gr.ext, by omega⟩, fun H4 s4 => ?_⟩⟩
    have := yes G2 H4 (Gr.of gr.sub s4)
    rw [show cs.getD i (.tx Str.empty) = c by rw [List.getD_eq_getElem?_getD, hc]; rfl] at this
    exact this
  · intro G2 H2 g2 hD2 gD2
    rw [hal.len, map_range_getD (.tx Str.empty) cs nameV] at hD2
    have hwn : ∀ i c, cs[i]? = some c → (cs.map nameV)[i]? = some (nameV c) := fun i c hc => by rw [List.getElem?_map, hc]; rfl
    have hdn : ∀ c : Tr, decide (nameV c = V.non) = c.isTx := fun c => by cases c <;> simp [Tr.isTx]
    refine ⟨_, rfl, D, _, rfl, .inl (SqL.of hD2), _, _, rfl, rfl, (cs.length : Int) - 1, ?_, by omega, by omega, ?_⟩
    · rw [List.length_map]
    rw [show ((cs.length : Int) - 1).toNat = cs.length - 1 by omega]
    refine fun D3 hD3 => lc_map walk_r0 hD3 g2.sub (fun _ _ _ => trivial) (fun i => V.bl ((cs.getD i (.tx Str.empty)).isTx && (cs.getD (i + 1) (.tx Str.empty)).isTx)) (by omega) ?_ ?_
    · rintro i x G3 H3 H4 kk Z hi gr gD ⟨rfl, rfl⟩ yes
      have h1 := List.getElem?_eq_getElem (show i < cs.length by omega)
      have h2 := List.getElem?_eq_getElem (show i + 1 < cs.length by omega)
      have e1 : cs.getD i (.tx Str.empty) = cs[i] := by rw [List.getD_eq_getElem?_getD, h1]; rfl
      have e2 : cs.getD (i + 1) (.tx Str.empty) = cs[i + 1] := by rw [List.getD_eq_getElem?_getD, h2]; rfl
      have qq := yes G3 _ (Gr.refl gr.sub)
      rw [e1, e2, ← hdn, ← hdn] at qq
      refine ⟨rfl, ty_yes ⟨_, rfl, _, rfl, D, _, _, _, rfl, rfl, SqL.of (gr.same _ _ hD2), atI_n rfl (hwn _ _ h1), rfl, _, rfl, ?_⟩⟩
      cases hb : decide (nameV cs[i] = V.non) with
      | false =>
        rw [hb, Bool.false_and] at qq
        exact iteF qq
      | true =>
        rw [hb, Bool.true_and] at qq
        exact iteT ⟨_, rfl, _, rfl, _, _, rfl, rfl, D, _, _, _, rfl, rfl, SqL.of (gr.same _ _ hD2), atI_n (j := i + 1) (by omega) (hwn _ _ h2), rfl, qq⟩
    · intro G3 H3 g3 hD4 gD4
      refine ⟨D3, (List.range (cs.length - 1)).map fun i => ((cs.getD i (.tx Str.empty)).isTx && (cs.getD (i + 1) (.tx Str.empty)).isTx), rfl, SqL.of (by rw [hD4, List.map_map]; rfl), _, rfl, ?_⟩
      have e : ((List.range (cs.length - 1)).map fun i => ((cs.getD i (.tx Str.empty)).isTx && (cs.getD (i + 1) (.tx Str.empty)).isTx)) = adj cs := by
        unfold adj
        exact List.map_congr_left fun i _ => Bool.and_comm _ _
      rw [e]
      exact q H3 (g2.same.trans g3.same)
end
end K5
set_option Elab.async false
set_option linter.all false
set_option maxRecDepth 100000
set_option maxHeartbeats 4000000
namespace K5
open PySem PySem.Spec PyProof.Rows L2
/-! ### View.changed, part_of -/
variable {r : Tr} {nm : List Str} {S : List Way}
theorem ixN_n {n j : Nat} (hj : j < n) : ixN n (j : Int) = some j := by
  have h := atI_nat (xs := List.replicate n ()) (j := j) (v := ()) (by simp [hj])
  unfold atI at h
  rw [List.length_replicate] at h
  unfold ixN at h ⊢
  split <;> first | omega | skip
  all_goals (split <;> first | omega | (congr 1; try omega))
def Tr.put : Tr → Way → Tr → Tr
  | _, [], x => x
  | .tx s, _ :: _, _ => .tx s
  | .el n cs, j :: w, x => .el n (cs.set j (((Tr.el n cs).ch j).put w x))
theorem put_nil (t x : Tr) : t.put [] x = x := by cases t <;> simp [Tr.put]
theorem put_cons {n : Str} {cs : List Tr} {j : Nat} {w : Way} {x : Tr} : (Tr.el n cs).put (j :: w) x = .el n (cs.set j (((Tr.el n cs).ch j).put w x)) := by simp [Tr.put]
theorem Al.set {α : Type} {R : α → V → Prop} {xs : List α} {ys : List V} {x : α} {y : V} {j : Nat} (h : Al R xs ys) (hr : R x y) : Al R (xs.set j x) (ys.set j y) := by
  refine ⟨by rw [List.length_set, List.length_set, h.1], fun i z e => ?_⟩
  by_cases hij : j = i
  · subst hij
    have hj : j < xs.length := by have := (List.getElem?_eq_some_iff.mp e).1; simpa using this
    rw [List.getElem?_set_self hj] at e
    cases (Option.some.inj e)
    exact ⟨y, List.getElem?_set_self (by rw [h.1]; exact hj), hr⟩
  · rw [List.getElem?_set_ne hij] at e ⊢
    exact h.2 i z e
/-- an element part, made -/
theorem Gr.part {W : Addr → Prop} {G H G1 H1 : Hp} {a l : Addr} {n : Str} {vs : List V} {cs : List Tr} (g : Gr W G H G1 H1) (na : H a = none) (nl : H l = none) (ha : H1 a = some (.tup [.str "element", .str n, .ref l])) (hl : H1 l = some (.lst vs)) (hc : IsPs r S G1 cs vs) :
    ∃ G2, Gr W G H G2 H1 ∧ IsP r S G2 (.el n cs) (.ref a) ∧ Same G1 G2 := by
  have g1 := g.frz nl hl
  have g2 := g1.frz na ha
  have s1 : Same G1 (upd G1 l (.lst vs)) := same_frz g.sub hl
  have s2 := same_frz g1.sub ha
  exact ⟨_, g2, .inr ⟨a, l, vs, rfl, upd_same, s2 _ _ upd_same, hc.mono (s1.trans s2)⟩, s1.trans s2⟩
def spVCh (K : PySem.W.Frag) (n : Nat) : Sp := fun vs H Q _ => ∃ (G : Hp) (r : Tr) (nm : List Str) (S : List Way) (a : Addr) (t x : Tr) (v xv : V) (wy : Way) (lw : Addr), vs = [.ref a, v, .ref lw, xv] ∧ VP K G H r nm S a t v ∧ H lw = some (.lst (vN wy)) ∧ t.ok wy ∧ wy.length < n ∧ IsP r S G x xv ∧ ∀ G' v' H', Gr W0 G H G' H' → IsP r S G' (t.put wy x) v' → Q v' H'
section
variable {P : Program} {w : World} {K : PySem.W.Frag} {mg : Str → Option Value} {base : Heap} {k : Nat}
theorem sc_View_changed : FnScope ["self", "part", "way", "new", "children"] ["self", "part", "way", "new"] (defScope s_View_changed) := ⟨rfl, rfl, rfl, by decide +kernel, rfl, by decide +kernel, by decide +kernel⟩
theorem md_View_changed (D : Dm K (cVw K) "changed" "View.changed" s_View_changed) (T : Tx K mg) (h_View_children : Md P w K mg base (cVw K) "children" ["self", "part"] [] k (spVKids K)) (h_View_word : Md P w K mg base (cVw K) "word" ["self", "part"] [] k (spVWord K)) : ∀ n : Nat, Md P w K mg base (cVw K) "changed" ["self", "part", "way", "new"] [] (k + n) (spVCh K n)
  | 0 => by
    refine md_vac D (fun _ _ _ _ _ _ us hl => match us, hl with | [_, _, _, _], _ => rfl) fun vs H Q E h => ?_
    obtain ⟨G, r, nm, S, a, t, x, v, xv, wy, lw, _, _, _, _, hd, _⟩ := h
    omega
  | n + 1 => by
    have h_View_changed := md_View_changed D T h_View_children h_View_word n
    have h_View_children := h_View_children.mono (Nat.le_add_right k n)
    have h_View_word := h_View_word.mono (Nat.le_add_right k n)
    refine md_mk (k := k + n) D sc_View_changed (fun _ _ _ _ _ _ us hl => match us, hl with | [_, _, _, _], _ => rfl) (fun vs H Q E h => ?_) (fun f cdv A outer s H vs Q E hr h => ?_)
    · obtain ⟨G, r, nm, S, a, t, x, v, xv, wy, lw, rfl, _⟩ := h; rfl
    obtain ⟨G, r, nm, S, a, t, x, v, xv, wy, lw, rfl, hvp, hl, hok, hn, hx, q⟩ := h
    refine ⟨_, (pss_cons (ps_if (pt_cmpR op_eq (pe_callB call_len_seq (by rfl) T.len (by decide +kernel) (pa_cons (pv 2) pa_nil)) pe_int (nomark _))
      (pss_one (ps_ret (pv 3)))
      pss_nil)
    (pss_cons (ps_set (i := 4) sc_View_changed.nd rfl (Or.inl rfl) (pe_callTy call_list_of (by rfl) T.list (by decide +kernel) (pa_cons (pe_md h_View_children T.cView hr (pv 0) (pa_cons (pv 1) pa_nil)) pa_nil)))
    (pss_cons (ps_asg (pe_md h_View_changed T.cView hr (pv 0) (pa_cons (pe_ix ix_list (pv 4) (pe_ix ix_list (pv 2) pe_int (fun _ _ => rfl)) (fun _ _ => rfl)) (pa_cons (pe_slice sl_list (pv 2) (po_some pe_int) po_none) (pa_cons (pv 3) pa_nil)))) (pg_sub (pv 4) (pe_ix ix_list (pv 2) pe_int (fun _ _ => rfl)) set_list))
    (pss_one (ps_ret (pe_tup (pa_cons pe_str (pa_cons (pe_md h_View_word T.cView hr (pv 0) (pa_cons (pv 1) pa_nil)) (pa_cons (pv 4) pa_nil))))))))), ?_⟩
    refine ⟨_, rfl, lw, _, rfl, .inl (SqL.of hl), rfl, _, rfl, ?_⟩
    cases wy with
    | nil =>
      rw [put_nil] at q
      exact iteT ⟨_, rfl, q G xv H (.refl hvp.s) hx⟩
    | cons j w =>
      rw [show decide (V.int (((vN (j :: w)).length : Nat) : Int) = V.int 0) = false from decide_eq_false (fun z => by injection z with z; simp at z; omega)]
      obtain ⟨hj, hok2⟩ := hok
      cases t with
      | tx z => simp [Tr.kids] at hj
      | el nn cs =>
        rw [put_cons] at q
        obtain ⟨dx, x0, ha⟩ := hvp.vw.at_ hvp.s
        have hz := hvp.z
        have hkl := kids_len (.el nn cs)
        refine iteF ⟨_, rfl, a, dx, _, rfl, ha, lView_no_children, _, rfl, G, r, nm, S, a, _, v, rfl, hvp, fun G1 l ws H1 g1 hlG hws => ⟨l, ws, rfl, .inl (SqL.of (g1.sub _ _ hlG)), fun lc nlc => ?_⟩⟩
        have hal := IsPs.al.mp hws
        have g2 : Gr W0 G H G1 (upd H1 lc (.lst ws)) := g1.al nlc
        have nlcH := g1.dom lc nlc
        have glc := g1.g0 nlc
        have hlw2 := g2.same _ _ hl
        have hcl2 : upd H1 lc (.lst ws) lc = some (.lst ws) := upd_same
        generalize upd H1 lc (.lst ws) = H2 at *
        obtain ⟨yv, hy, hyp⟩ := hal.get (ch_get hj)
        obtain ⟨dx2, x02, ha2⟩ := (hvp.up g2).vw.at_ g2.sub
        refine ⟨_, rfl, a, dx2, _, rfl, ha2, lView_no_changed, _, rfl, _, rfl, lw, _, _, _, rfl, rfl, SqL.of hlw2, at_0, lc, ws, _, yv, rfl, rfl, SqL.of hcl2, atI_n rfl hy, _, rfl, 1, rfl, lw, _, rfl, SqL.of hlw2, fun p np => ?_⟩
        rw [cut_1]
        have g3 : Gr W0 G H G1 (upd H2 p (.lst (vN w))) := g2.al np
        have hck := kid_size (ch_get hj)
        have pc : lc ≠ p := ne_of_none hcl2 np
        have pw : lw ≠ p := ne_of_none hlw2 np
        refine ⟨_, rfl, G1, r, nm, S, a, _, x, yv, xv, w, p, rfl, (hvp.up g3).kid (ch_get hj) hyp, upd_same, hok2, by simp at hn; omega, hx.mono g1.ext, fun G4 v4 H4 g4 hp4 => ?_⟩
        have gg := g3.trans g4
        have hlw4 : H4 lw = some (.lst (vN (j :: w))) := g4.same _ _ (by rw [upd_ne pw]; exact hlw2)
        have hcl4 : H4 lc = some (.lst ws) := g4.same _ _ (by rw [upd_ne pc]; exact hcl2)
        have gc4 : G4 lc = none := g4.free glc (by rw [upd_ne pc]; exact hcl2)
        refine ⟨_, rfl, _, rfl, lw, _, _, _, rfl, rfl, SqL.of hlw4, at_0, lc, ws, _, j, rfl, rfl, hcl4, ?_, ?_⟩
        · exact ixN_n (List.getElem?_eq_some_iff.mp hy).1
        have g5 : Gr W0 G H G4 (upd H4 lc (.lst (ws.set j v4))) := gg.wr (.inl nlcH) gc4 hcl4
        have hal5 : Al (IsP r S G4) (cs.set j (((Tr.el nn cs).ch j).put w x)) (ws.set j v4) := (hal.mono fun c y h => h.mono g4.ext).set hp4
        obtain ⟨dx5, x05, ha5⟩ := (hvp.up g5).vw.at_ g5.sub
        refine ⟨_, rfl, a, dx5, _, rfl, ha5, lView_no_word, _, rfl, G4, r, nm, S, a, _, v, rfl, hvp.up g5, fun H6 s6 => ⟨_, rfl, by show 3 ≤ sizeLine; decide, fun p6 np6 => ?_⟩⟩
        have g6 := g5.trans (Gr.of g5.sub s6)
        have hcl6 : H6 lc = some (.lst (ws.set j v4)) := s6 _ _ upd_same
        obtain ⟨G7, g7, ht7, _⟩ := (g6.al (o := .tup [.str "element", .str nn, .ref lc]) np6).part (cs := cs.set j (((Tr.el nn cs).ch j).put w x)) (vs := ws.set j v4) (g6.dom p6 np6) nlcH upd_same (by rw [upd_ne (ne_of_none hcl6 np6)]; exact hcl6) (IsPs.al.mpr hal5)
        exact q G7 _ _ g7 ht7
theorem sc_part_of : FnScope ["tree", "child"] ["tree"] (defScope s_part_of) := ⟨rfl, rfl, rfl, by decide +kernel, rfl, by decide +kernel, by decide +kernel⟩
theorem hd_part_of (D : Df K mg "part_of" s_part_of) (h_is_string : Hd P w K mg base "is_string" ["tree"] k spIsS) : ∀ n : Nat, Hd P w K mg base "part_of" ["tree"] (k + n) (spPartOf K n)
  | 0 => by
    refine hd_vac D (fun _ _ _ _ _ _ us hl => match us, hl with | [_], _ => rfl) fun vs H Q E h => ?_
    obtain ⟨G, r, S, t, v, _, _, _, hd, _⟩ := h
    have := t.depth_pos
    omega
  | n + 1 => by
    have h_part_of := hd_part_of D h_is_string n
    have h_is_string := h_is_string.mono (Nat.le_add_right k n)
    refine hd_mk (k := k + n) D sc_part_of (fun _ _ _ _ _ _ us hl => match us, hl with | [_], _ => rfl) (fun vs H Q E h => ?_) (fun f cdv A outer s H vs Q E hr h => ?_)
    · obtain ⟨G, r, S, t, v, rfl, _⟩ := h; rfl
    obtain ⟨G, r, S, t, v, rfl, sg, ht, hd, hz, q⟩ := h
    refine ⟨_, (pss_cons (ps_if (pt_val (pe_hd h_is_string hr rfl (pa_cons (pv 0) pa_nil)))
      (pss_one (ps_ret (pe_tup (pa_cons pe_str (pa_cons (pv 0) pa_nil)))))
      pss_nil)
    (pss_one (ps_ret (pe_tup (pa_cons pe_str (pa_cons (pe_ix ix_tup (pv 0) pe_int (fun _ _ => rfl)) (pa_cons (pe_lc (own := [("child", 1)]) (g := gName 1) (tt := tYes) rfl sc_part_of.nd (pi_list (pe_ix ix_tup (pv 0) pe_int (fun _ _ => rfl))) (blkOk_by (own := [("child", 1)]) (N := ["tree", "child"]) (sc := defScope s_part_of) (by decide +kernel)) (fun _ _ _ _ _ => (pg_name (i := 1) sc_part_of.nd rfl (Or.inl rfl))) (fun _ _ _ _ _ => pts_nil) (fun _ _ _ _ _ => (pe_hd h_part_of hr rfl (pa_cons (pv 1) pa_nil)))) pa_nil))))))), ?_⟩
    refine ⟨_, rfl, G, t, v, rfl, sg, ht, _, rfl, ?_⟩
    cases t with
    | tx x =>
      cases (show v = .str x from ht)
      refine iteT ⟨_, rfl, by show 2 ≤ sizeLine; decide, fun p np => ?_⟩
      exact q _ _ _ ((Gr.alloc sg np).frz np upd_same) (.inr ⟨p, rfl, upd_same⟩)
    | el nn cs =>
      obtain ⟨a, l, vs, rfl, h1, h2, h3⟩ := ht
      simp only [Tr.depth, Tr.size] at hd hz
      have hlen := sizes_len cs
      refine iteF ?_
      refine ⟨_, rfl, a, _, _, _, rfl, rfl, SqT.of (sg _ _ h1), rfl, ?_⟩
      refine ⟨_, rfl, a, _, _, _, rfl, rfl, SqT.of (sg _ _ h1), rfl, l, rfl, ⟨_, SqL.of (sg _ _ h2)⟩, fun D hD => lc_rel walk_list hD sg (fun G1 H1 gr => SqL.of (gr.sub0 _ _ h2))
        (fun i G y => ∃ c, cs[i]? = some c ∧ IsP r S G c y) (fun i G G' y s ⟨c, e, h⟩ => ⟨c, e, h.mono s⟩) (by rw [h3.len]; omega) ?_ ?_⟩
      · rintro i x G1 H1 H2 K' Z hi gr gD _ ⟨rfl, hx⟩ hK
        obtain ⟨c, hc, hcx⟩ := h3.at_ hx
        have := depths_get hc
        have := sizes_get hc
        exact ⟨rfl, ty_yes ⟨_, rfl, G1, r, S, c, x, rfl, gr.sub, hcx.mono gr.ext, by omega, by omega, fun G' v' H' g2 k => hK G' H' v' g2 ⟨c, hc, k⟩⟩⟩
      · intro G1 H1 ys gr hy gD hl hrl
        refine ⟨by show 3 ≤ sizeLine; decide, fun p hp => ?_⟩
        obtain ⟨G2, g2, ht2, _⟩ := (gr.al (o := .tup [.str "element", .str nn, .ref D]) hp).part (cs := cs) (vs := ys) (gr.dom p hp) hD upd_same (by rw [upd_ne (ne_of_none hy hp)]; exact hy) (IsPs.al.mpr (.of (by rw [hl, h3.len]) hrl))
        exact q G2 _ _ g2 ht2
end
end K5
set_option Elab.async false
set_option linter.all false
set_option maxRecDepth 100000
set_option maxHeartbeats 4000000
namespace K5
open PySem PySem.Spec PyProof.Rows L2
/-! ### layers -/
variable {r : Tr} {nm : List Str} {S : List Way}
abbrev cLy (K : PySem.W.Frag) : Addr := He.ga K "Layers"
structure LayP (K : PySem.W.Frag) (G H : Hp) (r : Tr) (nm : List Str) (S : List Way) (a vw la to : Addr) (ts : List Tr) (ls ps : List V) : Prop where
  s : Same G H
  ha : ∃ dx, G a = some (.ins (cLy K) dx (fLayers (.ref vw) (.ref la) (.ref to)))
  hv : IsVw K G r nm S vw
  hla : H la = some (.lst ls)
  hto : H to = some (.lst ps)
  gla : G la = none
  gto : G to = none
  ne : la ≠ to
  al : Al (IsP r S G) ts ps
  zl : ls.length ≤ 1000
  zp : ps.length ≤ 1000
theorem LayP.up {K : PySem.W.Frag} {G H G' H' : Hp} {a vw la to : Addr} {ts : List Tr} {ls ps : List V} (h : LayP K G H r nm S a vw la to ts ls ps) (g : Gr W0 G H G' H') : LayP K G' H' r nm S a vw la to ts ls ps where
  s := g.sub
  ha := let ⟨dx, e⟩ := h.ha; ⟨dx, g.ext _ _ e⟩
  hv := h.hv.mono g.ext
  hla := g.same _ _ h.hla
  hto := g.same _ _ h.hto
  gla := g.free h.gla h.hla
  gto := g.free h.gto h.hto
  ne := h.ne
  al := h.al.mono fun _ _ q => q.mono g.ext
  zl := h.zl
  zp := h.zp
/-- the edit e leads from t to t', told by ways -/
def Ed.doW : Ed → Tr → Tr → Prop
  | .ren k n, t, t' => k < t.size ∧ ∃ m cs, t.go (t.wy k) = .el m cs ∧ isNm n = true ∧ t' = t.put (t.wy k) (.el n cs)
  | .ret k s, t, t' => k < t.size ∧ ∃ s0, t.go (t.wy k) = .tx s0 ∧ isTxt s = true ∧ t' = t.put (t.wy k) (.tx s)
  | .cut k, t, t' => k < t.size ∧ ∃ u c m cs, t.wy k = u ++ [c] ∧ t.go u = .el m cs ∧ apart (dl cs c) = true ∧ t' = t.put u (.el m (dl cs c))
  | .gra k p x, t, t' => k < t.size ∧ ∃ m cs, t.go (t.wy k) = .el m cs ∧ p ≤ cs.length ∧ x.good = true ∧ apart (ins cs p x) = true ∧ t' = t.put (t.wy k) (.el m (ins cs p x))
def Ed.room (n : Nat) : Ed → Tr → Prop
  | .gra k _ x, t => t.size + x.size ≤ 5000 ∧ (t.wy k).length + 1 + x.depth ≤ 60 ∧ x.depth ≤ n
  | _, _ => True
theorem doW_k {e : Ed} {t t' : Tr} (h : e.doW t t') : e.k < t.size := by
  cases e with
  | ren k n => exact h.1
  | ret k s => exact h.1
  | cut k => exact h.1
  | gra k p x => exact h.1
theorem doW_kok {e : Ed} {t t' : Tr} (h : e.doW t t') : e.kok (t.go (t.wy e.k)) = true := by
  cases e with
  | ren k n =>
    obtain ⟨_, m, cs, h1, _⟩ := h
    show (!(t.go (t.wy k)).isTx) = true
    rw [h1]; rfl
  | ret k s =>
    obtain ⟨_, s0, h1, _⟩ := h
    show (t.go (t.wy k)).isTx = true
    rw [h1]; rfl
  | cut k =>
    obtain ⟨_, u, c, m, cs, h1, _⟩ := h
    refine decide_eq_true fun z => ?_
    rw [z, wy_0] at h1
    simp at h1
  | gra k p x =>
    obtain ⟨_, m, cs, h1, _⟩ := h
    show (!(t.go (t.wy k)).isTx) = true
    rw [h1]; rfl
theorem isTx_name (u : Tr) : decide (nameV u = V.non) = u.isTx := by cases u <;> simp [Tr.isTx]
def spPlace (K : PySem.W.Frag) (n : Nat) : Sp := fun vs H Q _ => ∃ (G : Hp) (r : Tr) (nm : List Str) (S : List Way) (a vw la to : Addr) (ts : List Tr) (t : Tr) (ls ps : List V) (e : Ed) (ev : V), vs = [.ref a, ev] ∧ LayP K G H r nm S a vw la to (ts ++ [t]) ls ps ∧ IsE G e ev ∧ t.size ≤ 50000 ∧ t.depth ≤ n ∧ e.k < t.size ∧ e.kok (t.go (t.wy e.k)) = true ∧
  ∀ G' l H', Gr W0 G H G' H' → H l = none → H' l = some (.lst (vN (t.wy e.k))) → Q (.ref l) H'
def spShown (K : PySem.W.Frag) (n : Nat) : Sp := fun vs H Q _ => ∃ (G : Hp) (r : Tr) (nm : List Str) (S : List Way) (a vw la to : Addr) (ts : List Tr) (t : Tr) (ls ps : List V), vs = [.ref a] ∧ LayP K G H r nm S a vw la to (ts ++ [t]) ls ps ∧ t.size ≤ 50000 ∧ t.depth ≤ n ∧ ∀ G' v' H', Gr W0 G H G' H' → IsT G' t v' → Q v' H'
def spLift (K : PySem.W.Frag) : Sp := fun vs H Q _ => ∃ (G : Hp) (r : Tr) (nm : List Str) (S : List Way) (a vw la to : Addr) (ts : List Tr) (t : Tr) (ls ps : List V) (l1 p1 : V), vs = [.ref a] ∧ LayP K G H r nm S a vw la to (ts ++ [t]) (ls ++ [l1]) (ps ++ [p1]) ∧
  (∀ H', Gr (fun b => b = la ∨ b = to) G H G H' → LayP K G H' r nm S a vw la to ts ls ps → Q l1 H')
section
variable {P : Program} {w : World} {K : PySem.W.Frag} {mg : Str → Option Value} {base : Heap} {k : Nat}
theorem sc_Layers_shown : FnScope ["self"] ["self"] (defScope s_Layers_shown) := ⟨rfl, rfl, rfl, by decide +kernel, rfl, by decide +kernel, by decide +kernel⟩
theorem md_Layers_shown (D : Dm K (cLy K) "shown" "Layers.shown" s_Layers_shown) (T : Tx K mg) (n : Nat) (h_View_tree : Md P w K mg base (cVw K) "tree" ["self", "part"] [] k (spVTree K n)) : Md P w K mg base (cLy K) "shown" ["self"] [] (k + 1) (spShown K n) := by
  refine md_mk D sc_Layers_shown (fun _ _ _ _ _ _ us hl => match us, hl with | [_], _ => rfl) (fun vs H Q E h => ?_) (fun f cdv A outer s H vs Q E hr h => ?_)
  · obtain ⟨G, r, nm, S, a, vw, la, to, ts, t, ls, ps, rfl, _⟩ := h; rfl
  obtain ⟨G, r, nm, S, a, vw, la, to, ts, t, ls, ps, rfl, L, hz, hd, q⟩ := h
  refine ⟨_, (pss_one (ps_ret (pe_md h_View_tree T.cView hr (pe_fld (pv 0) rfl) (pa_cons (pe_ix ix_list (pe_fld (pv 0) rfl) (pe_un un_neg pe_int) (fun _ _ => rfl)) pa_nil)))), ?_⟩
  obtain ⟨dx, ha⟩ := L.ha
  have ha' := L.s _ _ ha
  obtain ⟨ps', p, rfl, hal, hp⟩ := L.al.split1
  obtain ⟨dv, x0, hv⟩ := L.hv.at_ L.s
  exact ⟨_, rfl, a, _, dx, _, _, rfl, ha', T.cLayers, T.nLayers_view, lLayers_view, vw, dv, _, rfl, hv, lView_no_tree, _, rfl, a, _, dx, _, _, rfl, ha', T.cLayers, T.nLayers_tops, lLayers_tops, 1, rfl, to, _, _, _, rfl, rfl, SqL.of L.hto, atI_last _ _, G, r, nm, S, vw, t, p, rfl, ⟨L.s, L.hv, hp, hz⟩, hd, q⟩
theorem sc_Layers_lift : FnScope ["self"] ["self"] (defScope s_Layers_lift) := ⟨rfl, rfl, rfl, by decide +kernel, rfl, by decide +kernel, by decide +kernel⟩
theorem md_Layers_lift (D : Dm K (cLy K) "lift" "Layers.lift" s_Layers_lift) (T : Tx K mg) : Md P w K mg base (cLy K) "lift" ["self"] [] (k + 1) (spLift K) := by
  refine md_mk D sc_Layers_lift (fun _ _ _ _ _ _ us hl => match us, hl with | [_], _ => rfl) (fun vs H Q E h => ?_) (fun f cdv A outer s H vs Q E hr h => ?_)
  · obtain ⟨G, r, nm, S, a, vw, la, to, ts, t, ls, ps, l1, p1, rfl, _⟩ := h; rfl
  obtain ⟨G, r, nm, S, a, vw, la, to, ts, t, ls, ps, l1, p1, rfl, L, q⟩ := h
  refine ⟨_, (pss_cons (ps_if (pt_cmpR op_eq (pe_callB call_len_seq (by rfl) T.len (by decide +kernel) (pa_cons (pe_fld (pv 0) rfl) pa_nil)) pe_int (nomark _))
      (pss_one (ps_ret pe_non))
      pss_nil)
    (pss_cons (ps_expr (pe_bm0 PySem.F.plainAttrs_list PySem.F.slot_list_pop PySem.F.type_list_pop mt_pop (pe_fld (pv 0) rfl)))
    (pss_one (ps_ret (pe_bm0 PySem.F.plainAttrs_list PySem.F.slot_list_pop PySem.F.type_list_pop mt_pop (pe_fld (pv 0) rfl)))))), ?_⟩
  obtain ⟨dx, ha⟩ := L.ha
  have ha' := L.s _ _ ha
  refine ⟨_, rfl, a, _, dx, _, _, rfl, ha', T.cLayers, T.nLayers_laid, lLayers_laid, la, _, rfl, .inl (SqL.of L.hla), rfl, _, rfl, ?_⟩
  rw [show decide (V.int (((ls ++ [l1]).length : Nat) : Int) = V.int 0) = false from decide_eq_false (fun z => by injection z with z; simp at z; omega)]
  refine iteF ⟨_, rfl, a, _, dx, _, _, rfl, ha', T.cLayers, T.nLayers_tops, lLayers_tops, .inl ⟨rfl, _, SqL.of L.hto⟩, to, _, p1, rfl, rfl, L.hto, last_of _ _, ?_⟩
  rw [List.dropLast_concat]
  have g1 : Gr (fun b => b = la ∨ b = to) G H G (upd H to (.lst ps)) := .put L.s (.inr rfl) L.gto L.hto
  have hla : upd H to (.lst ps) la = some (.lst (ls ++ [l1])) := by rw [upd_ne L.ne]; exact L.hla
  refine ⟨_, rfl, a, _, dx, _, _, rfl, g1.sub _ _ ha, T.cLayers, T.nLayers_laid, lLayers_laid, .inl ⟨rfl, _, SqL.of hla⟩, la, _, l1, rfl, rfl, hla, last_of _ _, ?_⟩
  rw [List.dropLast_concat]
  have g2 : Gr (fun b => b = la ∨ b = to) G H G (upd (upd H to (.lst ps)) la (.lst ls)) := g1.wr (.inr (.inl rfl)) L.gla hla
  obtain ⟨ps', p, e, hal, hp⟩ := L.al.split1
  obtain ⟨rfl, _⟩ := List.append_inj' e rfl
  have zl := L.zl
  have zp := L.zp
  rw [List.length_append] at zl zp
  exact q _ g2 ⟨g2.sub, ⟨dx, ha⟩, L.hv, upd_same, by rw [upd_ne L.ne.symm, upd_same], L.gla, L.gto, L.ne, hal, by omega, by omega⟩
theorem sc_Layers_place_of : FnScope ["self", "edit", "top", "way", "is_text_node"] ["self", "edit"] (defScope s_Layers_place_of) := ⟨rfl, rfl, rfl, by decide +kernel, rfl, by decide +kernel, by decide +kernel⟩
theorem md_Layers_place_of (D : Dm K (cLy K) "place_of" "Layers.place_of" s_Layers_place_of) (T : Tx K mg) (n : Nat) (h_View_weight : Md P w K mg base (cVw K) "weight" ["self", "part"] [] k (spVWt K n)) (h_View_way_to : Md P w K mg base (cVw K) "way_to" ["self", "part", "node"] [] k (spVWay K n))
    (h_View_word : Md P w K mg base (cVw K) "word" ["self", "part"] [] k (spVWord K)) (h_View_at : Md P w K mg base (cVw K) "at" ["self", "part", "way"] [] k (spVAt K)) : Md P w K mg base (cLy K) "place_of" ["self", "edit"] [] (k + 1) (spPlace K n) := by
  refine md_mk D sc_Layers_place_of (fun _ _ _ _ _ _ us hl => match us, hl with | [_, _], _ => rfl) (fun vs H Q E h => ?_) (fun f cdv A outer s H vs Q E hr h => ?_)
  · obtain ⟨G, r, nm, S, a, vw, la, to, ts, t, ls, ps, e, ev, rfl, _⟩ := h; rfl
  obtain ⟨G, r, nm, S, a, vw, la, to, ts, t, ls, ps, e, ev, rfl, L, he, hz, hd, hk, hko, q⟩ := h
  refine ⟨_, (pss_cons (ps_set (i := 2) sc_Layers_place_of.nd rfl (Or.inl rfl) (pe_ix ix_list (pe_fld (pv 0) rfl) (pe_un un_neg pe_int) (fun _ _ => rfl)))
    (pss_cons (ps_if (pt_not (pt_chain op_le op_lt pe_int (pe_ix ix_tup (pv 1) pe_int (fun _ _ => rfl)) (pe_md h_View_weight T.cView hr (pe_fld (pv 0) rfl) (pa_cons (pv 2) pa_nil))))
      (pss_one ps_never)
      pss_nil)
    (pss_cons (ps_set (i := 3) sc_Layers_place_of.nd rfl (Or.inl rfl) (pe_md h_View_way_to T.cView hr (pe_fld (pv 0) rfl) (pa_cons (pv 2) (pa_cons (pe_ix ix_tup (pv 1) pe_int (fun _ _ => rfl)) pa_nil))))
    (pss_cons (ps_set (i := 4) sc_Layers_place_of.nd rfl (Or.inl rfl) (pe_cmpR op_isN (pe_md h_View_word T.cView hr (pe_fld (pv 0) rfl) (pa_cons (pe_md h_View_at T.cView hr (pe_fld (pv 0) rfl) (pa_cons (pv 2) (pa_cons (pv 3) pa_nil))) pa_nil)) pe_non (nomark _)))
    (pss_cons (ps_if (PW.pt (pw_or (PW.pt (pw_and (pt_cmpR op_in_seq (pe_ix ix_tup (pv 1) pe_int (fun _ _ => rfl)) (pe_tup (pa_cons pe_str (pa_cons pe_str pa_nil))) (by rfl)) (pw_and1 (pt_val (pv 4))))) (pw_or1 (PW.pt (pw_and (pt_cmpR op_eq (pe_ix ix_tup (pv 1) pe_int (fun _ _ => rfl)) pe_str (nomark _)) (pw_and1 (pt_not (pt_val (pv 4)))))))))
      (pss_one ps_never)
      pss_nil)
    (pss_one (ps_ret (pv 3)))))))), ?_⟩
  obtain ⟨dx, ha⟩ := L.ha
  obtain ⟨ps', p, rfl, hal, hp⟩ := L.al.split1
  obtain ⟨ea, rest, rfl, hea, hrs⟩ := id he
  have vp : VP K G H r nm S vw t p := ⟨L.s, L.hv, hp, hz⟩
  obtain ⟨dv, x0, hv⟩ := L.hv.at_ L.s
  refine ⟨_, rfl, a, _, dx, _, _, rfl, L.s _ _ ha, T.cLayers, T.nLayers_tops, lLayers_tops, 1, rfl, to, _, _, p, rfl, rfl, SqL.of L.hto, atI_last _ _, ?_⟩
  refine ⟨_, rfl, ea, _, _, _, rfl, rfl, SqT.of (L.s _ _ hea), at_1, _, _, rfl, rfl, _, rfl, ?_⟩
  rw [show decide ((0 : Int) ≤ (e.k : Int)) = true by simp]
  refine iteT ⟨_, rfl, a, _, dx, _, _, rfl, L.s _ _ ha, T.cLayers, T.nLayers_view, lLayers_view, vw, dv, _, rfl, hv, lView_no_weight, _, rfl, G, r, nm, S, vw, t, p, rfl, vp, hd, fun G1 H1 g1 => ⟨_, _, rfl, rfl, _, rfl, ?_⟩⟩
  rw [show decide ((e.k : Int) < ((t.size : Nat) : Int)) = true from decide_eq_true (by omega)]
  obtain ⟨dv1, x1, hv1⟩ := (vp.up g1).vw.at_ g1.sub
  refine iteF ⟨_, rfl, a, _, dx, _, _, rfl, g1.sub0 _ _ ha, T.cLayers, T.nLayers_view, lLayers_view, vw, dv1, _, rfl, hv1, lView_no_way_to, _, rfl, _, rfl, ea, _, _, _, rfl, rfl, SqT.of (g1.sub0 _ _ hea), at_1, G1, r, nm, S, vw, t, p, e.k, rfl, vp.up g1, by omega, hk, fun G2 lw H2 g2 nlw hlw => ?_⟩
  have g12 := g1.trans g2
  obtain ⟨dv2, x2, hv2⟩ := (vp.up g12).vw.at_ g12.sub
  have hok := wy_ok (Nat.le_refl t.size) hk
  have hgs := go_size hok
  refine ⟨_, rfl, a, _, dx, _, _, rfl, g12.sub0 _ _ ha, T.cLayers, T.nLayers_view, lLayers_view, vw, dv2, _, rfl, hv2, lView_no_word, _, rfl, a, _, dx, _, _, rfl, g12.sub0 _ _ ha, T.cLayers, T.nLayers_view, lLayers_view, vw, dv2, _, rfl, hv2, lView_no_at, _, rfl, _, rfl, G2, r, nm, S, vw, t, p, t.wy e.k, lw, rfl, vp.up g12, hlw, hok, fun G3 v3 H3 g3 hp3 => ?_⟩
  have g13 := g12.trans g3
  refine ⟨G3, r, nm, S, vw, t.go (t.wy e.k), v3, rfl, ⟨g13.sub, L.hv.mono g13.ext, hp3, by omega⟩, fun H4 s4 => ?_⟩
  have g14 := g13.trans (Gr.of g13.sub s4)
  refine ⟨rfl, ?_⟩
  refine ⟨_, rfl, ea, _, _, _, rfl, rfl, SqT.of (g14.sub0 _ _ hea), at_0, by show 2 ≤ sizeLine; decide, fun tp ntp => ⟨tp, _, rfl, .inr (SqT.of upd_same), rfl, by decide +kernel, _, rfl, ?_⟩⟩
  have g15 := g14.al (o := .tup [.str "rename", .str "graft"]) ntp
  have hlw5 : upd H4 tp (.tup [.str "rename", .str "graft"]) lw = some (.lst (vN (t.wy e.k))) := by
    rw [upd_ne (ne_of_none ((g3.same.trans s4) _ _ hlw) ntp)]
    exact (g3.same.trans s4) _ _ hlw
  have fin := q G3 lw _ g15 (g1.dom _ nlw) hlw5
  have hb := isTx_name (t.go (t.wy e.k))
  generalize upd H4 tp (.tup [.str "rename", .str "graft"]) = H5 at *
  cases e with
  | ren k n =>
    have hx : (t.go (t.wy (Ed.ren k n).k)).isTx = false := by simpa [Ed.kok] using hko
    rw [show inV (.str (Ed.ren k n).word) [.str "rename", .str "graft"] = true from (by decide +kernel : inV (.str ("rename" : Str)) [.str "rename", .str "graft"] = true)]
    refine iteT ⟨_, rfl, _, rfl, ?_⟩
    rw [hb, hx]
    refine iteF ⟨_, rfl, ea, _, _, _, rfl, rfl, SqT.of (g15.sub0 _ _ hea), at_0, rfl, _, rfl, ?_⟩
    rw [show decide (V.str (Ed.ren k n).word = V.str "retext") = false from (by decide +kernel : decide (V.str ("rename" : Str) = V.str "retext") = false)]
    exact iteF (iteF ⟨_, rfl, fin⟩)
  | gra k pp x =>
    have hx : (t.go (t.wy (Ed.gra k pp x).k)).isTx = false := by simpa [Ed.kok] using hko
    rw [show inV (.str (Ed.gra k pp x).word) [.str "rename", .str "graft"] = true from (by decide +kernel : inV (.str ("graft" : Str)) [.str "rename", .str "graft"] = true)]
    refine iteT ⟨_, rfl, _, rfl, ?_⟩
    rw [hb, hx]
    refine iteF ⟨_, rfl, ea, _, _, _, rfl, rfl, SqT.of (g15.sub0 _ _ hea), at_0, rfl, _, rfl, ?_⟩
    rw [show decide (V.str (Ed.gra k pp x).word = V.str "retext") = false from (by decide +kernel : decide (V.str ("graft" : Str) = V.str "retext") = false)]
    exact iteF (iteF ⟨_, rfl, fin⟩)
  | ret k z =>
    have hx : (t.go (t.wy (Ed.ret k z).k)).isTx = true := hko
    rw [show inV (.str (Ed.ret k z).word) [.str "rename", .str "graft"] = false from (by decide +kernel : inV (.str ("retext" : Str)) [.str "rename", .str "graft"] = false)]
    refine iteF (iteF ⟨_, rfl, ea, _, _, _, rfl, rfl, SqT.of (g15.sub0 _ _ hea), at_0, rfl, _, rfl, ?_⟩)
    rw [show decide (V.str (Ed.ret k z).word = V.str "retext") = true from (by decide +kernel : decide (V.str ("retext" : Str) = V.str "retext") = true)]
    refine iteT ⟨_, rfl, _, rfl, ?_⟩
    rw [hb, hx]
    exact iteF ⟨_, rfl, fin⟩
  | cut k =>
    rw [show inV (.str (Ed.cut k).word) [.str "rename", .str "graft"] = false from (by decide +kernel : inV (.str ("cut" : Str)) [.str "rename", .str "graft"] = false)]
    refine iteF (iteF ⟨_, rfl, ea, _, _, _, rfl, rfl, SqT.of (g15.sub0 _ _ hea), at_0, rfl, _, rfl, ?_⟩)
    rw [show decide (V.str (Ed.cut k).word = V.str "retext") = false from (by decide +kernel : decide (V.str ("cut" : Str) = V.str "retext") = false)]
    exact iteF (iteF ⟨_, rfl, fin⟩)
end
end K5
set_option Elab.async false
set_option linter.all false
set_option maxRecDepth 100000
set_option maxHeartbeats 4000000
namespace K5
open PySem PySem.Spec PyProof.Rows L2
/-! ### layers: grafted, without, lay -/
variable {r : Tr} {nm : List Str} {S : List Way}
theorem cut_m1 (xs : List V) (y : V) : cutV (xs ++ [y]) none (some (-1)) = xs := by
  unfold cutV
  have e : HT.sIx (xs ++ [y]).length (xs ++ [y]).length (some (-1)) = xs.length := by
    show (if (-1 : Int) < 0 then ((-1 : Int) + ((xs ++ [y]).length : Int)).toNat else min (-1 : Int).toNat (xs ++ [y]).length) = xs.length
    rw [if_pos (by decide), List.length_append]
    simp
    omega
  rw [HT.sIx_none, e, List.drop_zero, Nat.sub_zero, List.take_left]
theorem Al.take {α : Type} {R : α → V → Prop} {xs : List α} {ys : List V} (h : Al R xs ys) (n : Nat) : Al R (xs.take n) (ys.take n) := by
  refine ⟨by rw [List.length_take, List.length_take, h.1], fun i z e => ?_⟩
  rw [List.getElem?_take] at e ⊢
  split at e
  · rename_i hi
    rw [if_pos hi]
    exact h.2 i z e
  · cases e
theorem Al.drop {α : Type} {R : α → V → Prop} {xs : List α} {ys : List V} (h : Al R xs ys) (n : Nat) : Al R (xs.drop n) (ys.drop n) := by
  refine ⟨by rw [List.length_drop, List.length_drop, h.1], fun i z e => ?_⟩
  rw [List.getElem?_drop] at e ⊢
  exact h.2 _ z e
theorem sizes_dl (cs : List Tr) (c : Nat) : Tr.sizes (dl cs c) ≤ Tr.sizes cs := by
  have e : cs = cs.take c ++ ((cs.drop c).take 1 ++ cs.drop (c + 1)) := by
    rw [← List.drop_drop, List.take_append_drop, List.take_append_drop]
  conv => rhs; rw [e]
  unfold dl
  rw [sizes_app, sizes_app, sizes_app]
  omega
theorem sizes_ins (cs : List Tr) (p : Nat) (x : Tr) : Tr.sizes (ins cs p x) = Tr.sizes cs + x.size := by
  have e : cs = cs.take p ++ cs.drop p := (List.take_append_drop p cs).symm
  conv => rhs; rw [e]
  unfold ins
  rw [sizes_app, sizes_app, sizes_app]
  simp only [Tr.sizes]
  omega
def spWithout (K : PySem.W.Frag) : Sp := fun vs H Q _ => ∃ (G : Hp) (r : Tr) (nm : List Str) (S : List Way) (a vw la to : Addr) (ts : List Tr) (t : Tr) (ls ps : List V) (u : Way) (c : Nat) (lw : Addr) (m : Str) (cs : List Tr), vs = [.ref a, .ref lw] ∧ LayP K G H r nm S a vw la to (ts ++ [t]) ls ps ∧ H lw = some (.lst (vN (u ++ [c]))) ∧ t.size ≤ 50000 ∧ t.ok (u ++ [c]) ∧ t.go u = .el m cs ∧ apart (dl cs c) = true ∧
  ∀ G' v' H', Gr W0 G H G' H' → IsP r S G' (.el m (dl cs c)) v' → Q v' H'
def spGrafted (K : PySem.W.Frag) (n : Nat) : Sp := fun vs H Q _ => ∃ (G : Hp) (r : Tr) (nm : List Str) (S : List Way) (a vw la to : Addr) (ts : List Tr) (t x : Tr) (ls ps : List V) (u : Way) (p : Nat) (lw : Addr) (xv : V) (m : Str) (cs : List Tr), vs = [.ref a, .ref lw, nV p, xv] ∧ LayP K G H r nm S a vw la to (ts ++ [t]) ls ps ∧ H lw = some (.lst (vN u)) ∧ IsT G x xv ∧ x.fit ∧ t.ok u ∧ t.go u = .el m cs ∧ p ≤ cs.length ∧ x.good = true ∧ apart (ins cs p x) = true ∧ t.size + x.size ≤ 5000 ∧ u.length + 1 + x.depth ≤ 60 ∧ t.depth ≤ n ∧ x.depth ≤ n ∧
  ∀ G' v' H', Gr W0 G H G' H' → IsP r S G' (.el m (ins cs p x)) v' → Q v' H'
section
variable {P : Program} {w : World} {K : PySem.W.Frag} {mg : Str → Option Value} {base : Heap} {k : Nat}
theorem sc_Layers_without : FnScope ["self", "way", "above", "children"] ["self", "way"] (defScope s_Layers_without) := ⟨rfl, rfl, rfl, by decide +kernel, rfl, by decide +kernel, by decide +kernel⟩
theorem md_Layers_without (D : Dm K (cLy K) "without" "Layers.without" s_Layers_without) (T : Tx K mg) (h_View_at : Md P w K mg base (cVw K) "at" ["self", "part", "way"] [] k (spVAt K)) (h_View_children : Md P w K mg base (cVw K) "children" ["self", "part"] [] k (spVKids K)) (h_View_are_apart : Md P w K mg base (cVw K) "are_apart" ["self", "children"] [] k (spVApart K))
    (h_View_word : Md P w K mg base (cVw K) "word" ["self", "part"] [] k (spVWord K)) : Md P w K mg base (cLy K) "without" ["self", "way"] [] (k + 1) (spWithout K) := by
  refine md_mk D sc_Layers_without (fun _ _ _ _ _ _ us hl => match us, hl with | [_, _], _ => rfl) (fun vs H Q E h => ?_) (fun f cdv A outer s H vs Q E hr h => ?_)
  · obtain ⟨G, r, nm, S, a, vw, la, to, ts, t, ls, ps, u, c, lw, m, cs, rfl, _⟩ := h; rfl
  obtain ⟨G, r, nm, S, a, vw, la, to, ts, t, ls, ps, u, c, lw, m, cs, rfl, L, hlw, hz, hok, hgo, hap, q⟩ := h
  refine ⟨_, (pss_cons (ps_if (pt_cmpR op_eq (pe_callB call_len_seq (by rfl) T.len (by decide +kernel) (pa_cons (pv 1) pa_nil)) pe_int (nomark _))
      (pss_one ps_never)
      pss_nil)
    (pss_cons (ps_set (i := 2) sc_Layers_without.nd rfl (Or.inl rfl) (pe_md h_View_at T.cView hr (pe_fld (pv 0) rfl) (pa_cons (pe_ix ix_list (pe_fld (pv 0) rfl) (pe_un un_neg pe_int) (fun _ _ => rfl)) (pa_cons (pe_slice sl_list (pv 1) po_none (po_some (pe_un un_neg pe_int))) pa_nil))))
    (pss_cons (ps_set (i := 3) sc_Layers_without.nd rfl (Or.inl rfl) (pe_md h_View_children T.cView hr (pe_fld (pv 0) rfl) (pa_cons (pv 2) pa_nil)))
    (pss_cons (ps_set (i := 3) sc_Layers_without.nd rfl (Or.inl rfl) (pe_op op_cat (pe_slice sl_list (pv 3) po_none (po_some (pe_ix ix_list (pv 1) (pe_un un_neg pe_int) (fun _ _ => rfl)))) (pe_slice sl_list (pv 3) (po_some (pe_op op_add (pe_ix ix_list (pv 1) (pe_un un_neg pe_int) (fun _ _ => rfl)) pe_int)) po_none)))
    (pss_cons (ps_if (pt_not (pt_val (pe_md h_View_are_apart T.cView hr (pe_fld (pv 0) rfl) (pa_cons (pv 3) pa_nil))))
      (pss_one ps_never)
      pss_nil)
    (pss_one (ps_ret (pe_tup (pa_cons pe_str (pa_cons (pe_md h_View_word T.cView hr (pe_fld (pv 0) rfl) (pa_cons (pv 2) pa_nil)) (pa_cons (pv 3) pa_nil))))))))))), ?_⟩
  obtain ⟨dx, ha⟩ := L.ha
  obtain ⟨ps', p, rfl, hal, hp⟩ := L.al.split1
  have vp : VP K G H r nm S vw t p := ⟨L.s, L.hv, hp, hz⟩
  obtain ⟨dv, x0, hv⟩ := L.hv.at_ L.s
  have hwl : vN (u ++ [c]) = vN u ++ [nV c] := by simp [vN]
  have hlw' : H lw = some (.lst (vN u ++ [nV c])) := by rw [hlw, hwl]
  refine ⟨_, rfl, lw, _, rfl, .inl (SqL.of hlw'), rfl, _, rfl, ?_⟩
  rw [show decide (V.int (((vN u ++ [nV c]).length : Nat) : Int) = V.int 0) = false from decide_eq_false (fun z => by injection z with z; simp at z; omega)]
  refine iteF ⟨_, rfl, a, _, dx, _, _, rfl, L.s _ _ ha, T.cLayers, T.nLayers_view, lLayers_view, vw, dv, _, rfl, hv, lView_no_at, _, rfl, a, _, dx, _, _, rfl, L.s _ _ ha, T.cLayers, T.nLayers_tops, lLayers_tops, 1, rfl, to, _, _, p, rfl, rfl, SqL.of L.hto, atI_last _ _, _, rfl, 1, rfl, _, rfl, lw, _, rfl, SqL.of hlw', fun p1 np1 => ?_⟩
  rw [cut_m1]
  have g1 : Gr W0 G H G (upd H p1 (.lst (vN u))) := .alloc L.s np1
  have hlw1 : upd H p1 (.lst (vN u)) lw = some (.lst (vN u ++ [nV c])) := g1.same _ _ hlw'
  obtain ⟨hok1, hc⟩ := (ok_snoc t u c).mp hok
  rw [hgo] at hc
  have hc : c < cs.length := hc
  refine ⟨G, r, nm, S, vw, t, p, u, p1, rfl, vp.up g1, upd_same, hok1, fun G2 v2 H2 g2 hp2 => ?_⟩
  rw [hgo] at hp2
  have g12 := g1.trans g2
  have hgs := go_size hok1
  rw [hgo] at hgs
  have hz2 : (Tr.el m cs).size ≤ 50000 := by omega
  have vp2 : VP K G2 H2 r nm S vw (.el m cs) v2 := ⟨g12.sub, L.hv.mono g12.ext, hp2, hz2⟩
  obtain ⟨dv2, x2, hv2⟩ := vp2.vw.at_ g12.sub
  refine ⟨_, rfl, a, _, dx, _, _, rfl, g12.sub0 _ _ ha, T.cLayers, T.nLayers_view, lLayers_view, vw, dv2, _, rfl, hv2, lView_no_children, _, rfl, G2, r, nm, S, vw, _, v2, rfl, vp2, fun G3 l ws H3 g3 hlG hws => ?_⟩
  have g13 := g12.trans g3
  have hal3 := IsPs.al.mp hws
  have hlw3 : H3 lw = some (.lst (vN u ++ [nV c])) := g3.same _ _ (g2.same _ _ hlw1)
  have hl3 := g3.sub _ _ hlG
  have hwl3 : ws.length = cs.length := hal3.len
  refine ⟨_, rfl, _, rfl, 1, rfl, lw, _, _, _, rfl, rfl, SqL.of hlw3, atI_last _ _, _, rfl, l, ws, rfl, SqL.of hl3, fun p4 np4 => ?_⟩
  rw [cut_to (show c ≤ ws.length by omega)]
  have g4 := g13.al (o := .lst (ws.take c)) np4
  have s4 : Same H3 (upd H3 p4 (.lst (ws.take c))) := Same.up np4
  refine ⟨_, rfl, _, rfl, 1, rfl, lw, _, _, _, rfl, rfl, SqL.of (s4 _ _ hlw3), atI_last _ _, _, _, rfl, rfl, _, rfl, l, ws, rfl, SqL.of (s4 _ _ hl3), fun p5 np5 => ?_⟩
  rw [show (((c : Nat) : Int) + 1) = ((c + 1 : Nat) : Int) by omega, cut_from (show c + 1 ≤ ws.length by omega)]
  have p45 : p4 ≠ p5 := ne_of_none upd_same np5
  have hsz := sizes_len cs
  have hz2' := hz2
  simp only [Tr.size] at hz2'
  refine ⟨p4, p5, _, _, rfl, rfl, by rw [upd_ne p45, upd_same], upd_same, small (by rw [List.length_take, List.length_drop]; omega), fun p6 np6 => ?_⟩
  have g6 := (g4.al (o := .lst (ws.drop (c + 1))) np5).al (o := .lst (ws.take c ++ ws.drop (c + 1))) np6
  have n6H := (g4.al (o := .lst (ws.drop (c + 1))) np5).dom p6 np6
  have h6 : upd (upd (upd H3 p4 (.lst (ws.take c))) p5 (.lst (ws.drop (c + 1)))) p6 (.lst (ws.take c ++ ws.drop (c + 1))) p6 = some (.lst (ws.take c ++ ws.drop (c + 1))) := upd_same
  generalize upd (upd (upd H3 p4 (.lst (ws.take c))) p5 (.lst (ws.drop (c + 1)))) p6 (.lst (ws.take c ++ ws.drop (c + 1))) = H6 at *
  have hal6 : Al (IsP r S G3) (dl cs c) (ws.take c ++ ws.drop (c + 1)) := (hal3.take c).app (hal3.drop (c + 1))
  have hv6w : IsVw K G3 r nm S vw := L.hv.mono g13.ext
  obtain ⟨dv6, x6, hv6⟩ := hv6w.at_ g6.sub
  have hsd := sizes_dl cs c
  refine ⟨_, rfl, a, _, dx, _, _, rfl, g6.sub0 _ _ ha, T.cLayers, T.nLayers_view, lLayers_view, vw, dv6, _, rfl, hv6, lView_no_are_apart, _, rfl, G3, r, nm, S, vw, dl cs c, _, p6, rfl, g6.sub, hv6w, h6, IsPs.al.mpr hal6, by omega, fun H7 s7 => ⟨_, rfl, ?_⟩⟩
  rw [hap]
  have g7 := g6.trans (Gr.of g6.sub s7)
  obtain ⟨dv7, x7, hv7⟩ := hv6w.at_ g7.sub
  have vp7 : VP K G3 H7 r nm S vw (.el m cs) v2 := ⟨g7.sub, hv6w, hp2.mono g3.ext, hz2⟩
  refine iteF ⟨_, rfl, a, _, dx, _, _, rfl, g7.sub0 _ _ ha, T.cLayers, T.nLayers_view, lLayers_view, vw, dv7, _, rfl, hv7, lView_no_word, _, rfl, G3, r, nm, S, vw, _, v2, rfl, vp7, fun H8 s8 => ⟨_, rfl, by show 3 ≤ sizeLine; decide, fun p8 np8 => ?_⟩⟩
  have g8 := g7.trans (Gr.of g7.sub s8)
  have h8 := s8 _ _ (s7 _ _ h6)
  obtain ⟨G9, g9, ht9, _⟩ := (g8.al (o := .tup [.str "element", .str m, .ref p6]) np8).part (cs := dl cs c) (vs := ws.take c ++ ws.drop (c + 1)) (g8.dom p8 np8) n6H upd_same (by rw [upd_ne (ne_of_none h8 np8)]; exact h8) (IsPs.al.mpr hal6)
  exact q G9 _ _ g9 ht9
theorem sc_Layers_grafted : FnScope ["self", "way", "place", "tree", "here", "children", "part", "is_large"] ["self", "way", "place", "tree"] (defScope s_Layers_grafted) := ⟨rfl, rfl, rfl, by decide +kernel, rfl, by decide +kernel, by decide +kernel⟩
theorem md_Layers_grafted (D : Dm K (cLy K) "grafted" "Layers.grafted" s_Layers_grafted) (T : Tx K mg) (n : Nat) (h_View_at : Md P w K mg base (cVw K) "at" ["self", "part", "way"] [] k (spVAt K)) (h_View_children : Md P w K mg base (cVw K) "children" ["self", "part"] [] k (spVKids K)) (h_View_are_apart : Md P w K mg base (cVw K) "are_apart" ["self", "children"] [] k (spVApart K))
    (h_View_word : Md P w K mg base (cVw K) "word" ["self", "part"] [] k (spVWord K)) (h_View_weight : Md P w K mg base (cVw K) "weight" ["self", "part"] [] k (spVWt K n)) (h_is_tree : Hd P w K mg base "is_tree" ["tree"] k spTree) (h_part_of : Hd P w K mg base "part_of" ["tree"] k (spPartOf K n)) (h_depth_within : Hd P w K mg base "depth_within" ["tree"] k spDepth) :
    Md P w K mg base (cLy K) "grafted" ["self", "way", "place", "tree"] [] (k + 1) (spGrafted K n) := by
  refine md_mk D sc_Layers_grafted (fun _ _ _ _ _ _ us hl => match us, hl with | [_, _, _, _], _ => rfl) (fun vs H Q E h => ?_) (fun f cdv A outer s H vs Q E hr h => ?_)
  · obtain ⟨G, r, nm, S, a, vw, la, to, ts, t, x, ls, ps, u, p, lw, xv, m, cs, rfl, _⟩ := h; rfl
  obtain ⟨G, r, nm, S, a, vw, la, to, ts, t, x, ls, ps, u, pl, lw, xv, m, cs, rfl, L, hlw, hx, hfit, hok, hgo, hpl, hgood, hap, hsz, hdp, htd, hxd, q⟩ := h
  refine ⟨_, (pss_cons (ps_set (i := 4) sc_Layers_grafted.nd rfl (Or.inl rfl) (pe_md h_View_at T.cView hr (pe_fld (pv 0) rfl) (pa_cons (pe_ix ix_list (pe_fld (pv 0) rfl) (pe_un un_neg pe_int) (fun _ _ => rfl)) (pa_cons (pv 1) pa_nil))))
    (pss_cons (ps_set (i := 5) sc_Layers_grafted.nd rfl (Or.inl rfl) (pe_md h_View_children T.cView hr (pe_fld (pv 0) rfl) (pa_cons (pv 4) pa_nil)))
    (pss_cons (ps_if (pt_not (pt_chain op_le op_le pe_int (pv 2) (pe_callB call_len_seq (by rfl) T.len (by decide +kernel) (pa_cons (pv 5) pa_nil))))
      (pss_one ps_never)
      pss_nil)
    (pss_cons (ps_if (pt_not (pt_val (pe_hd h_is_tree hr rfl (pa_cons (pv 3) pa_nil))))
      (pss_one ps_never)
      pss_nil)
    (pss_cons (ps_set (i := 6) sc_Layers_grafted.nd rfl (Or.inl rfl) (pe_hd h_part_of hr rfl (pa_cons (pv 3) pa_nil)))
    (pss_cons (ps_set (i := 5) sc_Layers_grafted.nd rfl (Or.inl rfl) (pe_op op_cat (pe_op op_cat (pe_slice sl_list (pv 5) po_none (po_some (pv 2))) (pe_lst (pa_cons (pv 6) pa_nil))) (pe_slice sl_list (pv 5) (po_some (pv 2)) po_none)))
    (pss_cons (ps_if (pt_not (pt_val (pe_md h_View_are_apart T.cView hr (pe_fld (pv 0) rfl) (pa_cons (pv 5) pa_nil))))
      (pss_one ps_never)
      pss_nil)
    (pss_cons (ps_set (i := 7) sc_Layers_grafted.nd rfl (Or.inl rfl) (pe_cmpR op_gt (pe_op op_add (pe_md h_View_weight T.cView hr (pe_fld (pv 0) rfl) (pa_cons (pe_ix ix_list (pe_fld (pv 0) rfl) (pe_un un_neg pe_int) (fun _ _ => rfl)) pa_nil)) (pe_md h_View_weight T.cView hr (pe_fld (pv 0) rfl) (pa_cons (pv 6) pa_nil))) (pe_gi rfl T.MOST_NODES) (nomark _)))
    (pss_cons (ps_if (PW.pt (pw_or (pt_val (pv 7)) (pw_or1 (pt_cmpR op_gt (pe_op op_add (pe_op op_add (pe_callB call_len_seq (by rfl) T.len (by decide +kernel) (pa_cons (pv 1) pa_nil)) pe_int) (pe_hd h_depth_within hr rfl (pa_cons (pv 3) pa_nil))) (pe_gi rfl T.MOST_DEPTH_plain) (nomark _)))))
      (pss_one ps_never)
      pss_nil)
    (pss_one (ps_ret (pe_tup (pa_cons pe_str (pa_cons (pe_md h_View_word T.cView hr (pe_fld (pv 0) rfl) (pa_cons (pv 4) pa_nil)) (pa_cons (pv 5) pa_nil))))))))))))))), ?_⟩
  obtain ⟨dx, ha⟩ := L.ha
  obtain ⟨ps', p, rfl, hal, hp⟩ := L.al.split1
  have hzt : t.size ≤ 50000 := by omega
  have vp : VP K G H r nm S vw t p := ⟨L.s, L.hv, hp, hzt⟩
  obtain ⟨dv, x0, hv⟩ := L.hv.at_ L.s
  refine ⟨_, rfl, a, _, dx, _, _, rfl, L.s _ _ ha, T.cLayers, T.nLayers_view, lLayers_view, vw, dv, _, rfl, hv, lView_no_at, _, rfl, a, _, dx, _, _, rfl, L.s _ _ ha, T.cLayers, T.nLayers_tops, lLayers_tops, 1, rfl, to, _, _, p, rfl, rfl, SqL.of L.hto, atI_last _ _, _, rfl, G, r, nm, S, vw, t, p, u, lw, rfl, vp, hlw, hok, fun G2 v2 H2 g2 hp2 => ?_⟩
  rw [hgo] at hp2
  have hgs := go_size hok
  rw [hgo] at hgs
  have hz2 : (Tr.el m cs).size ≤ 50000 := by omega
  have vp2 : VP K G2 H2 r nm S vw (.el m cs) v2 := ⟨g2.sub, L.hv.mono g2.ext, hp2, hz2⟩
  obtain ⟨dv2, x2, hv2⟩ := vp2.vw.at_ g2.sub
  refine ⟨_, rfl, a, _, dx, _, _, rfl, g2.sub0 _ _ ha, T.cLayers, T.nLayers_view, lLayers_view, vw, dv2, _, rfl, hv2, lView_no_children, _, rfl, G2, r, nm, S, vw, _, v2, rfl, vp2, fun G3 l ws H3 g3 hlG hws => ?_⟩
  have g13 := g2.trans g3
  have hal3 := IsPs.al.mp hws
  have hl3 := g3.sub _ _ hlG
  have hwl3 : ws.length = cs.length := hal3.len
  refine ⟨_, rfl, _, _, rfl, rfl, _, rfl, ?_⟩
  rw [show decide ((0 : Int) ≤ ((pl : Nat) : Int)) = true by simp]
  refine iteT ⟨_, rfl, l, _, rfl, .inl (SqL.of hl3), _, _, rfl, rfl, _, rfl, ?_⟩
  rw [show decide (((pl : Nat) : Int) ≤ ((ws.length : Nat) : Int)) = true from decide_eq_true (by omega)]
  refine iteF ⟨_, rfl, G3, x, xv, rfl, g13.sub, hx.mono g13.ext, by omega, hfit, fun H4 s4 => ⟨_, rfl, ?_⟩⟩
  rw [hgood]
  have g4 := g13.trans (Gr.of g13.sub s4)
  refine iteF ⟨_, rfl, G3, r, S, x, xv, rfl, g4.sub, hx.mono g13.ext, hxd, by omega, fun G5 xp H5 g5 hxp => ?_⟩
  have g05 := g4.trans g5
  have hl5 : H5 l = some (.lst ws) := g5.same _ _ (s4 _ _ hl3)
  refine ⟨_, rfl, _, rfl, _, rfl, l, ws, rfl, SqL.of hl5, fun q1 nq1 => ?_⟩
  rw [cut_to (show pl ≤ ws.length by omega)]
  refine ⟨_, rfl, by show 1 ≤ sizeLine; decide, fun q2 nq2 => ⟨q1, q2, _, _, rfl, rfl, by rw [upd_ne (ne_of_none upd_same nq2), upd_same], upd_same, small (by have := sizes_len cs; simp only [Tr.size] at hz2; rw [List.length_take]; simp only [List.length_cons, List.length_nil]; omega), fun q3 nq3 => ?_⟩⟩
  have gA := ((g05.al (o := .lst (ws.take pl)) nq1).al (o := .lst [xp]) nq2).al (o := .lst (ws.take pl ++ [xp])) nq3
  have h3 : upd (upd (upd H5 q1 (.lst (ws.take pl))) q2 (.lst [xp])) q3 (.lst (ws.take pl ++ [xp])) q3 = some (.lst (ws.take pl ++ [xp])) := upd_same
  have hlA : upd (upd (upd H5 q1 (.lst (ws.take pl))) q2 (.lst [xp])) q3 (.lst (ws.take pl ++ [xp])) l = some (.lst ws) := ((Same.up nq1).trans ((Same.up nq2).trans (Same.up nq3))) _ _ hl5
  generalize upd (upd (upd H5 q1 (.lst (ws.take pl))) q2 (.lst [xp])) q3 (.lst (ws.take pl ++ [xp])) = HA at *
  refine ⟨_, rfl, _, rfl, _, rfl, l, ws, rfl, SqL.of hlA, fun q4 nq4 => ?_⟩
  rw [cut_from (show pl ≤ ws.length by omega)]
  refine ⟨q3, q4, _, _, rfl, rfl, by rw [upd_ne (ne_of_none h3 nq4)]; exact h3, upd_same, small (by have := sizes_len cs; simp only [Tr.size] at hz2; rw [List.length_append, List.length_take, List.length_drop]; simp only [List.length_cons, List.length_nil]; omega), fun p6 np6 => ?_⟩
  have gB := gA.al (o := .lst (ws.drop pl)) nq4
  have g6 := gB.al (o := .lst (ws.take pl ++ [xp] ++ ws.drop pl)) np6
  have n6H := gB.dom p6 np6
  have h6 : upd (upd HA q4 (.lst (ws.drop pl))) p6 (.lst (ws.take pl ++ [xp] ++ ws.drop pl)) p6 = some (.lst (ws.take pl ++ [xp] ++ ws.drop pl)) := upd_same
  generalize upd (upd HA q4 (.lst (ws.drop pl))) p6 (.lst (ws.take pl ++ [xp] ++ ws.drop pl)) = H6 at *
  have hal5 := hal3.mono fun c y (h : IsP r S G3 c y) => h.mono g5.ext
  have hal6 : Al (IsP r S G5) (ins cs pl x) (ws.take pl ++ [xp] ++ ws.drop pl) := ((hal5.take pl).app (Al.one hxp)).app (hal5.drop pl)
  have hv6w : IsVw K G5 r nm S vw := L.hv.mono g05.ext
  obtain ⟨dv6, x6, hv6⟩ := hv6w.at_ g6.sub
  have hsi := sizes_ins cs pl x
  have hz2' := hz2
  simp only [Tr.size] at hz2' hgs
  refine ⟨_, rfl, a, _, dx, _, _, rfl, g6.sub0 _ _ ha, T.cLayers, T.nLayers_view, lLayers_view, vw, dv6, _, rfl, hv6, lView_no_are_apart, _, rfl, G5, r, nm, S, vw, ins cs pl x, _, p6, rfl, g6.sub, hv6w, h6, IsPs.al.mpr hal6, by omega, fun H7 s7 => ⟨_, rfl, ?_⟩⟩
  rw [hap]
  have g7 := g6.trans (Gr.of g6.sub s7)
  obtain ⟨dv7, x7, hv7⟩ := hv6w.at_ g7.sub
  have hto7 : H7 to = some (.lst (ps' ++ [p])) := g7.same _ _ L.hto
  have vp7 : VP K G5 H7 r nm S vw t p := ⟨g7.sub, hv6w, hp.mono g05.ext, hzt⟩
  refine iteF ⟨_, rfl, a, _, dx, _, _, rfl, g7.sub0 _ _ ha, T.cLayers, T.nLayers_view, lLayers_view, vw, dv7, _, rfl, hv7, lView_no_weight, _, rfl, a, _, dx, _, _, rfl, g7.sub0 _ _ ha, T.cLayers, T.nLayers_tops, lLayers_tops, 1, rfl, to, _, _, p, rfl, rfl, SqL.of hto7, atI_last _ _, G5, r, nm, S, vw, t, p, rfl, vp7, htd, fun G8 H8 g8 => ?_⟩
  have g08 := g7.trans g8
  have hv8w : IsVw K G8 r nm S vw := L.hv.mono g08.ext
  obtain ⟨dv8, x8, hv8⟩ := hv8w.at_ g08.sub
  refine ⟨_, rfl, a, _, dx, _, _, rfl, g08.sub0 _ _ ha, T.cLayers, T.nLayers_view, lLayers_view, vw, dv8, _, rfl, hv8, lView_no_weight, _, rfl, G8, r, nm, S, vw, x, xp, rfl, ⟨g08.sub, hv8w, hxp.mono g8.ext, by omega⟩, hxd, fun G9 H9 g9 => ?_⟩
  have g09 := g08.trans g9
  have hlw9 : H9 lw = some (.lst (vN u)) := g09.same _ _ hlw
  refine ⟨_, _, rfl, rfl, _, _, rfl, rfl, ?_⟩
  refine ⟨_, rfl, _, rfl, ?_⟩
  rw [show decide ((5000 : Int) < ((t.size : Nat) : Int) + ((x.size : Nat) : Int)) = false from decide_eq_false (by omega)]
  refine iteF ⟨_, rfl, lw, _, rfl, .inl (SqL.of hlw9), _, _, rfl, rfl, _, rfl, G9, x, xv, rfl, g09.sub, hx.mono g09.ext, by omega, fun H10 s10 => ⟨_, _, rfl, rfl, _, _, rfl, rfl, _, rfl, ?_⟩⟩
  rw [show decide ((60 : Int) < (((vN u).length : Nat) : Int) + 1 + ((x.depth : Nat) : Int)) = false from decide_eq_false (by rw [List.length_map]; omega)]
  have g10 := g09.trans (Gr.of g09.sub s10)
  obtain ⟨dv10, x10, hv10⟩ := (L.hv.mono g10.ext).at_ g10.sub
  have vp10 : VP K G9 H10 r nm S vw (.el m cs) v2 := ⟨g10.sub, L.hv.mono g10.ext, hp2.mono (g3.ext.trans (g5.ext.trans (g8.ext.trans g9.ext))), hz2⟩
  refine iteF ⟨_, rfl, a, _, dx, _, _, rfl, g10.sub0 _ _ ha, T.cLayers, T.nLayers_view, lLayers_view, vw, dv10, _, rfl, hv10, lView_no_word, _, rfl, G9, r, nm, S, vw, _, v2, rfl, vp10, fun H11 s11 => ⟨_, rfl, by show 3 ≤ sizeLine; decide, fun p8 np8 => ?_⟩⟩
  have g11 := g10.trans (Gr.of g10.sub s11)
  have h11 : H11 p6 = some (.lst (ws.take pl ++ [xp] ++ ws.drop pl)) := s11 _ _ (s10 _ _ (g9.same _ _ (g8.same _ _ (s7 _ _ h6))))
  obtain ⟨G12, g12, ht12, _⟩ := (g11.al (o := .tup [.str "element", .str m, .ref p6]) np8).part (cs := ins cs pl x) (vs := ws.take pl ++ [xp] ++ ws.drop pl) (g11.dom p8 np8) n6H upd_same (by rw [upd_ne (ne_of_none h11 np8)]; exact h11) (IsPs.al.mpr (hal6.mono fun c y h => h.mono (g8.ext.trans g9.ext)))
  exact q G12 _ _ g12 ht12
end
end K5
set_option Elab.async false
set_option linter.all false
set_option maxRecDepth 100000
set_option maxHeartbeats 4000000
namespace K5
open PySem PySem.Spec PyProof.Rows L2
/-! ### an edit is laid above -/
variable {r : Tr} {nm : List Str} {S : List Way}
theorem wy_len : ∀ {n : Nat} {t : Tr} {k : Nat}, t.size ≤ n → k < t.size → (t.wy k).length < t.depth
  | 0, t, k, h, h1 => by have := t.size_pos; omega
  | n + 1, t, 0, _, _ => by rw [wy_0]; exact t.depth_pos
  | n + 1, .tx s, k + 1, _, h1 => by simp [Tr.size] at h1
  | n + 1, .el m cs, k + 1, h, h1 => by
    simp only [Tr.size] at h h1
    obtain ⟨j, c, hj, h2, h3⟩ := sizes_le_take (cs := cs) (k := k) (by omega)
    rw [wy_kid (t := .el m cs) hj h2 h3]
    show ((j :: c.wy (k - Tr.sizes (cs.take j)))).length < _
    have hs := sizes_get hj
    have := wy_len (n := n) (t := c) (k := k - Tr.sizes (cs.take j)) (by omega) (by omega)
    have hd := depths_get hj
    simp only [List.length_cons, Tr.depth]
    omega
def spLay (K : PySem.W.Frag) (n : Nat) : Sp := fun vs H Q _ => ∃ (G : Hp) (r : Tr) (nm : List Str) (S : List Way) (a vw la to : Addr) (ts : List Tr) (t t' : Tr) (ls ps : List V) (e : Ed) (ev : V), vs = [.ref a, ev] ∧ LayP K G H r nm S a vw la to (ts ++ [t]) ls ps ∧ IsE G e ev ∧ e.fit ∧ e.doW t t' ∧ e.room n t ∧ t.size ≤ 50000 ∧ t.depth ≤ n ∧ ls.length < 1000 ∧ ps.length < 1000 ∧
  ∀ G' l1 p1 H', Gr (fun b => b = la ∨ b = to) G H G' H' → LayP K G' H' r nm S a vw la to ((ts ++ [t]) ++ [t']) (ls ++ [l1]) (ps ++ [p1]) → Q .non H'
section
variable {P : Program} {w : World} {K : PySem.W.Frag} {mg : Str → Option Value} {base : Heap} {k : Nat}
theorem sc_Layers_lay : FnScope ["self", "edit", "top", "way", "new"] ["self", "edit"] (defScope s_Layers_lay) := ⟨rfl, rfl, rfl, by decide +kernel, rfl, by decide +kernel, by decide +kernel⟩
theorem md_Layers_lay (D : Dm K (cLy K) "lay" "Layers.lay" s_Layers_lay) (T : Tx K mg) (n : Nat) (h_Layers_place_of : Md P w K mg base (cLy K) "place_of" ["self", "edit"] [] k (spPlace K n)) (h_Layers_grafted : Md P w K mg base (cLy K) "grafted" ["self", "way", "place", "tree"] [] k (spGrafted K n))
    (h_Layers_without : Md P w K mg base (cLy K) "without" ["self", "way"] [] k (spWithout K)) (h_View_children : Md P w K mg base (cVw K) "children" ["self", "part"] [] k (spVKids K)) (h_View_at : Md P w K mg base (cVw K) "at" ["self", "part", "way"] [] k (spVAt K))
    (h_View_changed : Md P w K mg base (cVw K) "changed" ["self", "part", "way", "new"] [] k (spVCh K n)) (h_is_name : Hd P w K mg base "is_name" ["word"] k spNm) (h_is_text : Hd P w K mg base "is_text" ["string"] k spTxt) (h_copied_edit : Hd P w K mg base "copied_edit" ["edit"] k (spCopyE n)) :
    Md P w K mg base (cLy K) "lay" ["self", "edit"] [] (k + 1) (spLay K n) := by
  refine md_mk D sc_Layers_lay (fun _ _ _ _ _ _ us hl => match us, hl with | [_, _], _ => rfl) (fun vs H Q E h => ?_) (fun f cdv A outer s H vs Q E hr h => ?_)
  · obtain ⟨G, r, nm, S, a, vw, la, to, ts, t, t', ls, ps, e, ev, rfl, _⟩ := h; rfl
  obtain ⟨G, r, nm, S, a, vw, la, to, ts, t, t', ls, ps, e, ev, rfl, L, he, hf, hdo, hroom, hz, hd, hll, hpl, q⟩ := h
  obtain ⟨dx, ha⟩ := L.ha
  obtain ⟨ps', p, rfl, hal, hp⟩ := L.al.split1
  have tail : ∃ tr, PSs (cxOf CX0 P w K mg base ["self", "edit", "top", "way", "new"] "Layers.lay" (defScope s_Layers_lay) f cdv A outer s H E).nox ((defBody s_Layers_lay).drop 3) tr ∧ ∀ (G1 H1 : Hp) (u : Way) (lw : Addr) (x : Tr) (xv : V), Gr W0 G H G1 H1 → H1 lw = some (.lst (vN u)) → t.ok u → u.length < n → IsP r S G1 x xv → t' = t.put u x →
      tr { nx := fun _ H' => Q .non H', rt := Q } [some (.ref a), some ev, some p, some (.ref lw), some xv] H1 := by
    refine ⟨_, (pss_cons (ps_expr (pe_bm PySem.F.plainAttrs_list PySem.F.slot_list_append PySem.F.type_list_append mt_append (pe_fld (pv 0) rfl) (pa_cons (pe_md h_View_changed T.cView hr (pe_fld (pv 0) rfl) (pa_cons (pv 2) (pa_cons (pv 3) (pa_cons (pv 4) pa_nil)))) pa_nil)))
      (pss_one (ps_expr (pe_bm PySem.F.plainAttrs_list PySem.F.slot_list_append PySem.F.type_list_append mt_append (pe_fld (pv 0) rfl) (pa_cons (pe_hd h_copied_edit hr rfl (pa_cons (pv 1) pa_nil)) pa_nil))))), ?_⟩
    intro G1 H1 u lw x xv g1 hlw hok hun hx hput
    have hto1 := g1.same _ _ L.hto
    obtain ⟨dv, x0, hv⟩ := (L.hv.mono g1.ext).at_ g1.sub
    refine ⟨_, rfl, a, _, dx, _, _, rfl, g1.sub0 _ _ ha, T.cLayers, T.nLayers_tops, lLayers_tops, .inl ⟨rfl, _, SqL.of hto1⟩, _, rfl, a, _, dx, _, _, rfl, g1.sub0 _ _ ha, T.cLayers, T.nLayers_view, lLayers_view, vw, dv, _, rfl, hv, lView_no_changed, _, rfl, _, rfl, _, rfl, G1, r, nm, S, vw, t, x, p, xv, u, lw, rfl, ⟨g1.sub, L.hv.mono g1.ext, hp.mono g1.ext, hz⟩, hlw, hok, hun, hx, fun G2 v2 H2 g2 hp2 => ?_⟩
    have g12 := g1.trans g2
    have L2 := L.up g12
    have hpl' := L2.zp
    refine ⟨to, _, _, rfl, rfl, L2.hto, smallT (by omega), ?_⟩
    have g3 : Gr (fun b => b = la ∨ b = to) G H G2 (upd H2 to (.lst (ps' ++ [p] ++ [v2]))) := g12.mono.wr (.inr (.inr rfl)) L2.gto L2.hto
    have hla3 : upd H2 to (.lst (ps' ++ [p] ++ [v2])) la = some (.lst ls) := by rw [upd_ne L.ne]; exact L2.hla
    refine ⟨_, rfl, a, _, dx, _, _, rfl, g3.sub0 _ _ ha, T.cLayers, T.nLayers_laid, lLayers_laid, .inl ⟨rfl, _, SqL.of hla3⟩, _, rfl, G2, e, ev, rfl, g3.sub, he.mono g3.ext, hf, fun k' p' x' hh => ?_, fun G4 v4 H4 g4 he4 => ?_⟩
    · subst hh
      exact hroom.2.2
    have g5 := g3.trans g4.mono
    have hla4 := g4.same _ _ hla3
    have hto4 := g4.same _ _ (show upd H2 to (.lst (ps' ++ [p] ++ [v2])) to = some (.lst (ps' ++ [p] ++ [v2])) from upd_same)
    refine ⟨la, _, _, rfl, rfl, hla4, smallT (by omega), ?_⟩
    have gla4 : G4 la = none := g4.free L2.gla hla3
    have gto4 : G4 to = none := g4.free L2.gto upd_same
    have g6 : Gr (fun b => b = la ∨ b = to) G H G4 (upd H4 la (.lst (ls ++ [v4]))) := g5.wr (.inr (.inl rfl)) gla4 hla4
    refine q G4 v4 v2 _ g6 ⟨g6.sub, ⟨dx, g6.ext _ _ ha⟩, L.hv.mono g6.ext, upd_same, by rw [upd_ne L.ne.symm]; exact hto4, gla4, gto4, L.ne, ?_, by rw [List.length_append]; simp only [List.length_cons, List.length_nil]; omega, by rw [List.length_append]; simp only [List.length_cons, List.length_nil]; omega⟩
    rw [hput]
    exact (L.al.mono fun c y h => h.mono g6.ext).app (Al.one (hp2.mono g4.ext))
  obtain ⟨tr, hpss, ht⟩ := tail
  refine ⟨_, (pss_cons (ps_set (i := 2) sc_Layers_lay.nd rfl (Or.inl rfl) (pe_ix ix_list (pe_fld (pv 0) rfl) (pe_un un_neg pe_int) (fun _ _ => rfl)))
    (pss_cons (ps_set (i := 3) sc_Layers_lay.nd rfl (Or.inl rfl) (pe_md h_Layers_place_of T.cLayers hr (pv 0) (pa_cons (pv 1) pa_nil)))
    (pss_cons (ps_if (pt_cmpR op_eq (pe_ix ix_tup (pv 1) pe_int (fun _ _ => rfl)) pe_str (nomark _))
      (pss_cons (ps_if (pt_not (pt_val (pe_hd h_is_name hr rfl (pa_cons (pe_ix ix_tup (pv 1) pe_int (fun _ _ => rfl)) pa_nil))))
        (pss_one ps_never)
        pss_nil)
      (pss_one (ps_set (i := 4) sc_Layers_lay.nd rfl (Or.inl rfl) (pe_tup (pa_cons pe_str (pa_cons (pe_ix ix_tup (pv 1) pe_int (fun _ _ => rfl)) (pa_cons (pe_md h_View_children T.cView hr (pe_fld (pv 0) rfl) (pa_cons (pe_md h_View_at T.cView hr (pe_fld (pv 0) rfl) (pa_cons (pv 2) (pa_cons (pv 3) pa_nil))) pa_nil)) pa_nil)))))))
      (pss_one (ps_if (pt_cmpR op_eq (pe_ix ix_tup (pv 1) pe_int (fun _ _ => rfl)) pe_str (nomark _))
        (pss_cons (ps_if (pt_not (pt_val (pe_hd h_is_text hr rfl (pa_cons (pe_ix ix_tup (pv 1) pe_int (fun _ _ => rfl)) pa_nil))))
          (pss_one ps_never)
          pss_nil)
        (pss_one (ps_set (i := 4) sc_Layers_lay.nd rfl (Or.inl rfl) (pe_tup (pa_cons pe_str (pa_cons (pe_ix ix_tup (pv 1) pe_int (fun _ _ => rfl)) pa_nil))))))
        (pss_one (ps_if (pt_cmpR op_eq (pe_ix ix_tup (pv 1) pe_int (fun _ _ => rfl)) pe_str (nomark _))
          (pss_one (ps_set (i := 4) sc_Layers_lay.nd rfl (Or.inl rfl) (pe_md h_Layers_grafted T.cLayers hr (pv 0) (pa_cons (pv 3) (pa_cons (pe_ix ix_tup (pv 1) pe_int (fun _ _ => rfl)) (pa_cons (pe_ix ix_tup (pv 1) pe_int (fun _ _ => rfl)) pa_nil))))))
          (pss_cons (ps_set (i := 4) sc_Layers_lay.nd rfl (Or.inl rfl) (pe_md h_Layers_without T.cLayers hr (pv 0) (pa_cons (pv 3) pa_nil)))
          (pss_one (ps_set (i := 3) sc_Layers_lay.nd rfl (Or.inl rfl) (pe_slice sl_list (pv 3) po_none (po_some (pe_un un_neg pe_int)))))))))))
    hpss))), ?_⟩
  obtain ⟨ea, rest, rfl, hea, hrs⟩ := id he
  have vp : VP K G H r nm S vw t p := ⟨L.s, L.hv, hp, hz⟩
  obtain ⟨dv, x0, hv⟩ := L.hv.at_ L.s
  have hk := doW_k hdo
  have hok := wy_ok (Nat.le_refl t.size) hk
  have hwl := Nat.lt_of_lt_of_le (wy_len (Nat.le_refl t.size) hk) hd
  have hgs := go_size hok
  refine ⟨_, rfl, a, _, dx, _, _, rfl, L.s _ _ ha, T.cLayers, T.nLayers_tops, lLayers_tops, 1, rfl, to, _, _, p, rfl, rfl, SqL.of L.hto, atI_last _ _, ?_⟩
  refine ⟨_, rfl, a, dx, _, rfl, L.s _ _ ha, lLayers_no_place_of, _, rfl, G, r, nm, S, a, vw, la, to, ts, t, ls, _, e, .ref ea, rfl, L, he, hz, hd, hk, doW_kok hdo, fun G1 lw H1 g1 nlw hlw => ?_⟩
  have L1 := L.up g1
  have hea1 := g1.sub0 _ _ hea
  obtain ⟨dv1, x1, hv1⟩ := L1.hv.at_ L1.s
  refine ⟨_, rfl, ea, _, _, _, rfl, rfl, SqT.of hea1, at_0, rfl, _, rfl, ?_⟩
  cases e with
  | ren i nn =>
    obtain ⟨hi, m, cs, hgo, hnm, hput⟩ := hdo
    rw [show decide (V.str (Ed.ren i nn).word = V.str "rename") = true from (by decide +kernel : decide (V.str ("rename" : Str) = V.str "rename") = true)]
    cases hrs
    refine iteT ⟨_, rfl, ea, _, _, _, rfl, rfl, SqT.of hea1, rfl, nn, rfl, hf, fun H2 s2 => ⟨_, rfl, ?_⟩⟩
    rw [hnm]
    have g2 := g1.trans (.of g1.sub s2)
    obtain ⟨dv2, x2, hv2⟩ := (L.hv.mono g2.ext).at_ g2.sub
    refine iteF ⟨_, rfl, ea, _, _, _, rfl, rfl, SqT.of (g2.sub0 _ _ hea), rfl, _, rfl, a, _, dx, _, _, rfl, g2.sub0 _ _ ha, T.cLayers, T.nLayers_view, lLayers_view, vw, dv2, _, rfl, hv2, lView_no_children, _, rfl, a, _, dx, _, _, rfl, g2.sub0 _ _ ha, T.cLayers, T.nLayers_view, lLayers_view, vw, dv2, _, rfl, hv2, lView_no_at, _, rfl, _, rfl, G1, r, nm, S, vw, t, p, t.wy i, lw, rfl, vp.up g2, s2 _ _ hlw, hok, fun G3 v3 H3 g3 hp3 => ?_⟩
    have g13 := g2.trans g3
    refine ⟨G3, r, nm, S, vw, t.go (t.wy i), v3, rfl, ⟨g13.sub, L.hv.mono g13.ext, hp3, Nat.le_trans hgs.1 hz⟩, fun G4 l ws H4 g4 hl4 hws => ?_⟩
    have g14 := g13.trans g4
    refine ⟨by show 3 ≤ sizeLine; decide, fun p8 np8 => ?_⟩
    have g8 := g14.al (o := .tup [.str "element", .str nn, .ref l]) np8
    have h8 : upd H4 p8 (.tup [.str "element", .str nn, .ref l]) p8 = some (.tup [.str "element", .str nn, .ref l]) := upd_same
    have hlw8 : upd H4 p8 (.tup [.str "element", .str nn, .ref l]) lw = some (.lst (vN (t.wy i))) := by
      have hx := g4.same _ _ (g3.same _ _ (s2 _ _ hlw))
      rw [upd_ne (ne_of_none hx np8)]
      exact hx
    have g9 := g8.frz (g14.dom _ np8) h8
    have s9 := same_frz g8.sub h8
    rw [hgo] at hws
    refine ht _ _ (t.wy i) lw (.el nn cs) (.ref p8) g9 hlw8 hok hwl ?_ hput
    exact .inr ⟨p8, l, ws, rfl, upd_same, s9 _ _ hl4, hws.mono s9⟩
  | ret i z =>
    obtain ⟨hi, s0, hgo, hnm, hput⟩ := hdo
    rw [show decide (V.str (Ed.ret i z).word = V.str "rename") = false from (by decide +kernel : decide (V.str ("retext" : Str) = V.str "rename") = false)]
    cases hrs
    refine iteF ⟨_, rfl, ea, _, _, _, rfl, rfl, SqT.of hea1, at_0, rfl, _, rfl, ?_⟩
    rw [show decide (V.str (Ed.ret i z).word = V.str "retext") = true from (by decide +kernel : decide (V.str ("retext" : Str) = V.str "retext") = true)]
    refine iteT ⟨_, rfl, ea, _, _, _, rfl, rfl, SqT.of hea1, rfl, z, rfl, hf, fun H2 s2 => ⟨_, rfl, ?_⟩⟩
    rw [hnm]
    have g2 := g1.trans (.of g1.sub s2)
    refine iteF ⟨_, rfl, ea, _, _, _, rfl, rfl, SqT.of (g2.sub0 _ _ hea), rfl, by show 2 ≤ sizeLine; decide, fun p8 np8 => ?_⟩
    have g8 := g2.al (o := .tup [.str "text", .str z]) np8
    have h8 : upd H2 p8 (.tup [.str "text", .str z]) p8 = some (.tup [.str "text", .str z]) := upd_same
    have hlw8 : upd H2 p8 (.tup [.str "text", .str z]) lw = some (.lst (vN (t.wy i))) := by
      have hx := s2 _ _ hlw
      rw [upd_ne (ne_of_none hx np8)]
      exact hx
    have g9 := g8.frz (g2.dom _ np8) h8
    refine ht _ _ (t.wy i) lw (.tx z) (.ref p8) g9 hlw8 hok hwl ?_ hput
    exact .inr ⟨p8, rfl, upd_same⟩
  | gra i pl x =>
    obtain ⟨hi, m, cs, hgo, hpl', hgood, hap, hput⟩ := hdo
    obtain ⟨xv, hrv, hx⟩ := hrs
    cases hrv
    rw [show decide (V.str (Ed.gra i pl x).word = V.str "rename") = false from (by decide +kernel : decide (V.str ("graft" : Str) = V.str "rename") = false)]
    refine iteF ⟨_, rfl, ea, _, _, _, rfl, rfl, SqT.of hea1, at_0, rfl, _, rfl, ?_⟩
    rw [show decide (V.str (Ed.gra i pl x).word = V.str "retext") = false from (by decide +kernel : decide (V.str ("graft" : Str) = V.str "retext") = false)]
    refine iteF ⟨_, rfl, ea, _, _, _, rfl, rfl, SqT.of hea1, at_0, rfl, _, rfl, ?_⟩
    rw [show decide (V.str (Ed.gra i pl x).word = V.str "graft") = true from (by decide +kernel : decide (V.str ("graft" : Str) = V.str "graft") = true)]
    refine iteT ⟨_, rfl, a, dx, _, rfl, g1.sub0 _ _ ha, lLayers_no_grafted, _, rfl, _, rfl, ea, _, _, _, rfl, rfl, SqT.of hea1, rfl, _, rfl, ea, _, _, _, rfl, rfl, SqT.of hea1, rfl, G1, r, nm, S, a, vw, la, to, ts, t, x, ls, _, t.wy i, pl, lw, xv, m, cs, rfl, L1, hlw, hx.mono g1.ext, hf.2, hok, hgo, hpl', hgood, hap, hroom.1, hroom.2.1, hd, hroom.2.2, fun G2 v2 H2 g2 hp2 => ?_⟩
    exact ht _ _ (t.wy i) lw _ v2 (g1.trans g2) (g2.same _ _ hlw) hok hwl hp2 hput
  | cut i =>
    obtain ⟨hi, u, c, m, cs, hw, hgo, hap, hput⟩ := hdo
    rw [show decide (V.str (Ed.cut i).word = V.str "rename") = false from (by decide +kernel : decide (V.str ("cut" : Str) = V.str "rename") = false)]
    refine iteF ⟨_, rfl, ea, _, _, _, rfl, rfl, SqT.of hea1, at_0, rfl, _, rfl, ?_⟩
    rw [show decide (V.str (Ed.cut i).word = V.str "retext") = false from (by decide +kernel : decide (V.str ("cut" : Str) = V.str "retext") = false)]
    refine iteF ⟨_, rfl, ea, _, _, _, rfl, rfl, SqT.of hea1, at_0, rfl, _, rfl, ?_⟩
    rw [show decide (V.str (Ed.cut i).word = V.str "graft") = false from (by decide +kernel : decide (V.str ("cut" : Str) = V.str "graft") = false)]
    rw [show (Ed.cut i).k = i from rfl] at hlw hok hwl
    rw [hw] at hlw hok hwl
    have hok1 := ((ok_snoc t u c).mp hok).1
    refine iteF ⟨_, rfl, a, dx, _, rfl, g1.sub0 _ _ ha, lLayers_no_without, _, rfl, G1, r, nm, S, a, vw, la, to, ts, t, ls, _, u, c, lw, m, cs, rfl, L1, hlw, hz, hok, hgo, hap, fun G2 v2 H2 g2 hp2 => ?_⟩
    have hlw2 := g2.same _ _ hlw
    have g12 := g1.trans g2
    rw [show vN (u ++ [c]) = vN u ++ [nV c] by simp [vN]] at hlw2
    refine ⟨_, rfl, 1, rfl, _, rfl, lw, _, rfl, SqL.of hlw2, fun p3 np3 => ?_⟩
    rw [cut_m1]
    have g3 := g12.al (o := .lst (vN u)) np3
    rw [List.length_append] at hwl
    exact ht _ _ u p3 _ v2 g3 upd_same hok1 (by simp only [List.length_cons, List.length_nil] at hwl; omega) hp2 hput
end
end K5
set_option Elab.async false
set_option linter.all false
set_option maxRecDepth 100000
set_option maxHeartbeats 4000000
namespace K5
open PySem PySem.Calls PyProof.Rows PySem.W
/-! ### sorted by a key that gives lists of old -/
section
variable {prog : Program} {w : World} {A : Around} {E : Value → Shared → Prop} {s : Shared} {a kS : Addr} {b : Bool} {vs : List Value} {e1 : Nat} {P : PySem.Fin → Shared → Prop} {kz : List PyData}
def KeyO (old : Addr → Prop) (k : PyData) (s₁ : Shared) (v : Value) (s₂ : Shared) : Prop := ∃ h' tk, s₂ = { s₁ with heap := h', toks := tk } ∧ (∀ b o, s₁.heap.get? b = some o → h'.get? b = some o) ∧ ∃ as, Reads h' v k as ∧ ∀ b ∈ as, old b
theorem keyO_rest {old : Addr → Prop} {f : Value} {h₁ : Heap} (kp : KeepsBut a h₁ s.heap) (hkS : h₁.get? kS = none) (nk : s.heap.get? kS = some (seqObj "list" #[] 0)) (na : s.heap.get? a = some (seqObj "list" #[] e1)) (hka : kS ≠ a)
    (hold : ∀ b, old b → b ≠ kS)
    (hlen : kz.length = vs.length) (hZ : vs.length ≤ sizeLine) (hal : AllAlike kz) (hsk : Sortable kz) (hu : ∀ d, d ∈ kz → A.units + d.depth < cLine)
    (turn : ∀ (i : Nat) (v : Value) (k : PyData), vs[i]? = some v → kz[i]? = some k → ∀ (h : Heap) (tk : Nat), KeepsBut a h₁ h →
      wpAny (model prog w) A (call f [v]) (KeyO old k { s with heap := h, toks := tk }) (fun _ _ => False) { s with heap := h, toks := tk })
    (h : ∀ h' tk out c, KeepsBut a h₁ h' → h'.get? a = some (seqObj "list" (List.toArray out) c) → KeyedOut b kz vs out → P (.done (.ret .none)) { s with heap := h', toks := tk }) :
    wpAny (model prog w) A (ksk_rest a f b vs.toArray e1 (.ref kS)) P E s := by
  unfold ksk_rest
  refine wpAny_bind (wpAny_rule ?_)
  first
    | rw [List.forIn_toArray]
    | (rw [← Array.forIn_toList]; simp only [List.toList_toArray])
    | rw [← Array.forIn_toList]
  refine wpAny_bind (ksk_fold (fun i s' => ∃ h' tk kA e, s' = { s with heap := h', toks := tk } ∧ KeepsBut a h₁ h' ∧ h'.get? kS = some (seqObj "list" kA e) ∧ h'.get? a = some (seqObj "list" #[] e1) ∧ EachIs (fun v k => ∃ as, (Reads h' v k as ∧ ∀ b ∈ as, old b) ∧ alike k k = true) kA.toList (kz.take i)) vs 0 s
    ⟨s.heap, s.toks, #[], 0, rfl, kp, nk, na, by rw [List.take_zero]; exact EachIs.nil⟩ ?step ?done)
  case step =>
    rintro j x s' hx ⟨h', tk, kA, e, rfl, kp', nk', na', hk⟩
    simp only [Nat.zero_add] at hk ⊢
    have hj : j < vs.length := (List.getElem?_eq_some_iff.mp hx).1
    obtain ⟨k, hkj⟩ : ∃ k, kz[j]? = some k := ⟨_, List.getElem?_eq_getElem (by omega)⟩
    have hkk : alike k k = true := hal k (List.mem_of_getElem? hkj) k (List.mem_of_getElem? hkj)
    have hz : kA.size ≤ vs.length := by
      have h1 := hk.length
      rw [Array.length_toList, List.length_take] at h1
      omega
    refine wpAny_bind (wpAny_attempt (wpAny_mono (turn j x k hx hkj h' tk kp') (fun v s'' he => ?_) fun _ _ hF => hF.elim))
    obtain ⟨g, tk2, rfl, hg, as, hr, hro⟩ := he
    try dsimp only
    have nk2 : g.get? kS = some (seqObj "list" kA e) := hg _ _ nk'
    have na2 : g.get? a = some (seqObj "list" #[] e1) := hg _ _ na'
    have s1 := Heap.SameBut.update g kS (Obj.mapSeq (·.push v))
    obtain ⟨c2, hc2⟩ : ∃ c2, (g.update kS (Obj.mapSeq (·.push v))).get? kS = some (seqObj "list" (kA.push v) c2) := ⟨_, get?_update_seq nk2 (·.push v)⟩
    have ek : kz.take (j + 1) = kz.take j ++ [k] := by rw [List.take_add_one, hkj]; simp
    have ea : (kA.push v).toList = kA.toList ++ [v] := by simp
    refine wpAny_bind (listUpdate_at nk2 rfl ?_ (Nat.le_trans hz hZ) (Nat.le_trans (Nat.le_of_eq (Array.size_push ..)) (Nat.succ_le_succ (Nat.le_trans hz hZ))))
    have keepS : ∀ (u : Value) (d : PyData), (∃ as, (Reads g u d as ∧ ∀ b ∈ as, old b) ∧ alike d d = true) → ∃ as, (Reads (g.update kS (Obj.mapSeq (·.push v))) u d as ∧ ∀ b ∈ as, old b) ∧ alike d d = true := fun u d ⟨as, q, q2⟩ =>
      ⟨as, ⟨Reads.keepBut (a := kS) (fun b o hb e => (s1.2 b hb).trans e) (fun o e => by rw [nk2] at e; rw [← Option.some.inj e]) d u as q2 q.1 (fun z => hold _ (q.2 _ z) rfl), q.2⟩, q2⟩
    refine wpAny_pure ⟨rfl, _, _, kA.push v, c2, rfl, (kp'.trans_all hg).same s1 (.inr hkS), hc2, (s1.2 a hka.symm).trans na2, ?_⟩
    rw [ea, ek]
    refine each_snoc (R := fun (u : Value) (d : PyData) => ∃ as, (Reads (g.update kS (Obj.mapSeq (·.push v))) u d as ∧ ∀ b ∈ as, old b) ∧ alike d d = true) (keepS v k ⟨as, ⟨hr, hro⟩, hkk⟩) ?_
    exact hk.mono fun u d ⟨as, q, q2⟩ => keepS u d ⟨as, ⟨PyProof.Rows.Reads.keeps hg q.1, q.2⟩, q2⟩
  case done =>
    rintro s' ⟨h', tk, kA, e, rfl, kp', nk', na', hk⟩
    have hk' : EachIs (fun v k => ∃ as, Reads h' v k as) kA.toList kz := by
      have e3 : kz.take (0 + vs.length) = kz := List.take_of_length_le (by omega)
      rw [e3] at hk
      exact hk.mono fun v k ⟨as, q, _⟩ => ⟨as, q.1⟩
    have hsz : kA.size = vs.length := by
      have h1 := hk'.length
      rw [Array.length_toList] at h1
      omega
    try dsimp only
    refine wpAny_bind (listItems_at nk' rfl ?_)
    exact keyH_end (κ := dataKind h' kz) (h₁ := h₁) kp' hkS nk' na' hka (SortsAt.data (s := { s with heap := h', toks := tk }) hk' hal hsk hu) hsz hZ fun h3 tk3 c k3 n3 => h h3 tk3 _ c k3 n3 ⟨h', kA.toList, hal, rfl, hk'⟩
theorem keyO_tree {N : Nat} {f : Value} {n : Nat} (hN : N ≤ s.heap.objs.size) (ho : s.heap.get? a = some (seqObj "list" vs.toArray n)) (hlen : kz.length = vs.length) (hZ : vs.length ≤ sizeLine) (hal : AllAlike kz) (hsk : Sortable kz) (hu : ∀ d, d ∈ kz → A.units + d.depth < cLine)
    (turn : ∀ (i : Nat) (v : Value) (k : PyData), vs[i]? = some v → kz[i]? = some k → ∀ (h : Heap) (tk : Nat), KeepsBut a s.heap h →
      wpAny (model prog w) A (call f [v]) (KeyO (· < N) k { s with heap := h, toks := tk }) (fun _ _ => False) { s with heap := h, toks := tk })
    (h : ∀ h' tk out c, KeepsBut a s.heap h' → h'.get? a = some (seqObj "list" (List.toArray out) c) → KeyedOut b kz vs out → P (.done (.ret .none)) { s with heap := h', toks := tk }) :
    wpAny (model prog w) A (ksk_tree a f b) P E s := by
  have ha : a < s.heap.objs.size := Heap.lt_size ho
  obtain ⟨e1, ho1⟩ : ∃ e1, (s.heap.update a (Obj.mapSeq fun _ => (#[] : Array Value))).get? a = some (seqObj "list" #[] e1) := ⟨_, get?_update_seq ho fun _ => #[]⟩
  have hkS : ((s.heap.update a (Obj.mapSeq fun _ => (#[] : Array Value))).push (seqObj "tuple" vs.toArray 0)).objs.size = s.heap.objs.size + 1 := by rw [size_push', Heap.size_update]
  unfold ksk_tree
  refine wpAny_bind (listItems_at ho rfl ?_)
  refine wpAny_bind (listUpdate_at ho rfl ?_ (by rw [List.size_toArray]; exact hZ) (Nat.zero_le _))
  refine wpAny_bind (seqEpoch_at ho1 rfl ?_)
  refine wpAny_bind (wpAny_newTuple ?_ (by show vs.length ≤ _; exact hZ))
  refine wpAny_bind (wpAny_newList ?_ (Nat.zero_le _))
  refine wpAny_holding ?_
  have kp : KeepsBut a s.heap (sortingHeap s.heap a vs) := fun b o hb q => sortingHeap_old hb q
  refine keyO_rest (kz := kz) (h₁ := s.heap) (old := (· < N)) (s := { s with heap := ((s.heap.update a (Obj.mapSeq fun _ => (#[] : Array Value))).push (seqObj "tuple" vs.toArray 0)).push (seqObj "list" #[] 0) }) (kS := ((s.heap.update a (Obj.mapSeq fun _ => (#[] : Array Value))).push (seqObj "tuple" vs.toArray 0)).objs.size)
    kp (Heap.get?_none_of_le (by rw [hkS]; exact Nat.le_succ _)) (Heap.get?_push_size _ rfl) (Heap.get?_push_of_some _ (Heap.get?_push_of_some _ ho1)) (by rw [hkS]; exact Nat.ne_of_gt (Nat.lt_succ_of_lt ha)) (fun b hb => Nat.ne_of_lt (Nat.lt_of_lt_of_le hb (Nat.le_trans hN (by rw [hkS]; exact Nat.le_succ _)))) hlen hZ hal hsk hu turn h
end
section
variable {prog : Program} {w : World} {A : Around} {E : Value → Shared → Prop} {s : Shared} {β : Type} {vs : List Value} {bs : List β} {R : Value → β → Prop}
theorem keyO_turns {N : Nat} {a : Addr} {f : Value} {k : β → PyData} {h₁ : Heap} (e : EachIs R vs bs)
    (turn : ∀ (v : Value) (x : β), R v x → x ∈ bs → ∀ (h : Heap) (tk : Nat), KeepsBut a h₁ h → wpAny (model prog w) A (call f [v]) (KeyO (· < N) (k x) { s with heap := h, toks := tk }) (fun _ _ => False) { s with heap := h, toks := tk }) :
    ∀ (i : Nat) (v : Value) (d : PyData), vs[i]? = some v → (bs.map k)[i]? = some d → ∀ (h : Heap) (tk : Nat), KeepsBut a h₁ h →
      wpAny (model prog w) A (call f [v]) (KeyO (· < N) d { s with heap := h, toks := tk }) (fun _ _ => False) { s with heap := h, toks := tk } := by
  intro i v d hv hd h tk kp
  rw [List.getElem?_map] at hd
  cases q : bs[i]? with
  | none => rw [q] at hd; simp at hd
  | some x =>
    rw [q] at hd
    have hd' : some (k x) = some d := hd
    rw [← Option.some.inj hd']
    have hz : (v, x) ∈ vs.zip bs := List.mem_of_getElem? (i := i) (by rw [List.getElem?_zip_eq_some]; exact ⟨hv, q⟩)
    exact turn v x (e.zip _ hz) (List.mem_of_getElem? q) h tk kp
theorem sortedO {l : Addr} {f : Value} {kw : List (Str × Value)} {b : Bool} {Q : Value → Shared → Prop} (k : β → PyData) (hl : s.heap.IsList l vs.toArray) (e : EachIs R vs bs) (hal : AllAlike (bs.map k)) (hk : Sortable (bs.map k)) (hL : bs.length ≤ sizeLine)
    (hu : ∀ x, x ∈ bs → A.units + 2 + (k x).depth < cLine) (ha1 : argsOk "sorted" ⟨[.ref l], kw⟩) (ha2 : ∀ x, argsOk "list.sort" ⟨[.ref x], kw⟩) (ht : ∀ x, Builtin.«list.sort» ⟨[.ref x], kw⟩ = ksk_tree x f b)
    (turn : ∀ (v : Value) (x : β), R v x → x ∈ bs → ∀ (h : Heap) (tk : Nat), (∀ b o, s.heap.get? b = some o → h.get? b = some o) →
      wpAny (model prog w) A.in1.in1 (call f [v]) (KeyO (· < s.heap.objs.size) (k x) { s with heap := h, toks := tk }) (fun _ _ => False) { s with heap := h, toks := tk })
    (h : ∀ out c h' tk, (∀ b o, s.heap.get? b = some o → h'.get? b = some o) → s.heap.get? (s.heap.objs.size + 1) = none → h'.get? (s.heap.objs.size + 1) = some (seqObj "list" (List.toArray out) c) → out.length = bs.length → EachIs R out (bs.mergeSort (dataLe b k)) →
      Q (.ref (s.heap.objs.size + 1)) { s with heap := h', toks := tk }) :
    wpAny (model prog w) A (call (.builtin "sorted") [.ref l] kw) Q E s := by
  have fresh : s.heap.get? (s.heap.objs.size + 1) = none := Heap.get?_none_of_le (Nat.le_succ _)
  have up : ∀ {g : Heap}, KeepsBut (s.heap.objs.size + 1) (copyHeap s.heap vs) g → ∀ b o, s.heap.get? b = some o → g.get? b = some o := fun {g} kp b o q =>
    kp b o (Nat.ne_of_lt (Nat.lt_succ_of_lt (Heap.lt_size q))) (copyHeap_old q)
  have hcs : s.heap.objs.size + 1 < (copyHeap s.heap vs).objs.size := Heap.lt_size (copyHeap_at s.heap vs)
  refine sorted_of_sort hl (by rw [e.length]; exact hL) ha1 ha2 fun E' => ?_
  rw [ht]
  refine keyO_tree (N := s.heap.objs.size) (kz := bs.map k) (s := { s with heap := copyHeap s.heap vs }) (Nat.le_of_lt (Nat.lt_of_succ_lt hcs)) (copyHeap_at s.heap vs) (by rw [List.length_map]; exact e.length.symm) (by rw [e.length]; exact hL) hal hk (bound_map (A := A.in1.in1) hu)
    (keyO_turns (s := { s with heap := copyHeap s.heap vs }) e fun v x hR hx h tk kp => turn v x hR hx h tk (up kp)) fun h' tk out c kp hD ko => ⟨rfl, ?_⟩
  exact h out c h' tk (up kp) fresh hD ((ko.length (by rw [List.length_map]; exact e.length.symm)).trans e.length) (keyedOut_each k ko e)
end
/-! ### the lambda called -/
theorem lam_call {prog : Program} {w : World} {A : Around} {s : Shared} {f c' : Addr} {params : Arguments} {scope : Scope} {x qual : Str} {p1 p2 p3 : Pos} {j : Nat} {pm ctv : Value} {p : Addr} {its : Array Value} {u : Value} {Q : Value → Shared → Prop} {E : Value → Shared → Prop}
    (hroom : A.depth < recursionLimit) (hof : s.heap.get? f = some (kla_obj "<lambda>" qual params (.Subscript (.Name x p1) (.Constant (.int 0) j p2) p3) scope [] pm c' ctv)) (hcd : s.heap.CodeRec (.ref c') qual)
    (hk : scope.kind = .function) (hco : scope.isCoroutine = false) (hgen : scope.isGenerator = false) (hcell : ∀ y ∈ scope.names, y.2 ≠ .cell) (hx : scope.names.lookup x = some .local) (hxd : (x == ("__debug__" : Str)) = false)
    (hbind : ∀ v : Value, bindArgs (kla_fn "<lambda>" qual params (.Subscript (.Name x p1) (.Constant (.int 0) j p2) p3) scope [] pm (.ref c') ctv) ⟨[v], []⟩ = pure [(x, v)])
    (ht : IsTup s.heap p its) (h0 : its[0]? = some u) (hlim : s.heap.NoLimit)
    (h : ∀ h' tk, (∀ b o, s.heap.get? b = some o → h'.get? b = some o) → Q u { s with heap := h', toks := tk }) :
    wpAny (model prog w) A (call (.ref f) [.ref p]) Q E s := by
  have rc : codeAny (model prog w) A (.call (.ref f) ⟨[.ref p], []⟩) (fun r s' => ∃ h' tk, r = .ok (.ret u) ∧ s' = { s with heap := h', toks := tk } ∧ ∀ b o, s.heap.get? b = some o → h'.get? b = some o) s := by
    refine kla_callFunE hroom hof rfl hco hgen rfl hcd ?_
    rw [hbind]
    refine wpAny_pure (wpAny_newFunctionEnv hcell (fun y hy => ?_) (fun h₁ hns hsb => ⟨hlim.fresh _ hsb, ?_⟩) hk)
    · rw [List.mem_singleton] at hy
      rw [hy]
      exact hx
    have kp : ∀ b o, s.heap.get? b = some o → h₁.get? b = some o := fun b o e => hsb.extBut b o (Nat.ne_of_lt (Heap.lt_size e)) (Heap.get?_push_of_some _ e)
    refine kla_codeExpr ?_
    refine PyProof.Rows.Subscript_ (wpAny_Name (wpAny_loadName_local (v := .ref p) hk hx hns (by show List.lookup x [(x, Value.ref p)] = _; simp) ?_) hxd)
    refine wpAny_Constant_int ?_
    obtain ⟨o, ho, hc, n, hd⟩ := ht
    have pl : IsTup h₁ p its := ⟨o, kp _ _ ho, hc, n, hd⟩
    have hsz : 0 < its.size := by
      rcases Nat.lt_or_ge 0 its.size with q | q
      · exact q
      · rw [Array.getElem?_eq_none q] at h0; cases h0
    refine wpAny_mono (Q := fun r s' => r = u ∧ s' = { s with heap := h₁, toks := s.toks + 1 + 1 }) (E := fun _ _ => False) ?_ (fun r s' hq => ?_) (fun _ _ z => z.elim)
    · refine subscriptTail_builtinR (x := u) (T := "tuple") (id := "tuple.__getitem__") (s := { s with heap := h₁, toks := s.toks + 1 + 1 }) (IsTup.typeIs (s := { s with heap := h₁, toks := s.toks + 1 + 1 }) pl) slot_tuple_getitem.lookup ?_ (by rfl)
      exact getItem_tuple (s := { s with heap := h₁, toks := s.toks + 1 + 1 }) (j := 0) pl (by decide) (by decide) (by rw [seqIndex_of (by decide) (by omega)]; rfl) h0 ⟨rfl, rfl, rfl⟩
    · obtain ⟨rfl, rfl⟩ := hq
      exact ⟨h₁, _, rfl, rfl, kp⟩
  refine wpAny_call (codeAny_mono rc fun r s' hq => ?_)
  obtain ⟨h', tk, rfl, rfl, kp⟩ := hq
  exact h h' tk kp
/-! ### sorted(xs, key=lambda node: node[0]) -/
theorem reads_ints {h : Heap} : ∀ {k : List Int} {vs : List Value}, L2.Vals (k.map L2.V.int) vs → ReadsAll h vs (k.map PyData.int) []
  | [], _, r => by cases r; exact .nil
  | i :: k, _, r => by
    cases r with
    | cons r1 r2 =>
      obtain ⟨t, rfl⟩ := r1
      exact ReadsAll.cons (as := []) (bs := []) (.int i t) (reads_ints r2)
theorem each_of {β : Type} {g : β → L2.V} : ∀ {bs : List β} {vs : List Value}, L2.Vals (bs.map g) vs → EachIs (fun v b => L2.RelV (g b) v) vs bs
  | [], _, r => by cases r; exact .nil
  | b :: bs, _, r => by
    cases r with
    | cons r1 r2 => exact .cons r1 (each_of r2)
theorem vals_of {β : Type} {g : β → L2.V} : ∀ {bs : List β} {vs : List Value}, EachIs (fun v b => L2.RelV (g b) v) vs bs → L2.Vals (bs.map g) vs
  | _, _, .nil => .nil
  | _, _, .cons r1 r2 => .cons r1 (vals_of r2)
theorem alike_ints : ∀ (a b : List Int), alikeAll (a.map PyData.int) (b.map PyData.int) = true
  | [], _ => by simp [alikeAll]
  | _ :: _, [] => by simp [alikeAll]
  | x :: a, y :: b => by simp only [List.map_cons, alikeAll, alike, alike_ints a b, Bool.and_self]
theorem depth_ints : ∀ k : List Int, (PyData.list (k.map .int)).depth ≤ 2
  | [] => by simp [PyData.depth, PyData.depthAll]
  | i :: k => by
    have := depth_ints k
    simp only [List.map_cons, PyData.depth, PyData.depthAll] at this ⊢
    omega
/-- the order of the keys -/
abbrev leK (p q : L2.V × List Int) : Bool := decide (p.2 ≤ q.2)
/-- what the making of a lambda does to the heap: a code object is new and told in the table at P, or nothing -/
def LamStep (P : Addr) (q : Str) (H H1 : L2.Hp) : Prop := H1 = H ∨ ∃ (ps0 ps : Array Value) (c' : Addr), H P = some (.tbl ps0) ∧ H c' = none ∧ H1 = L2.upd (L2.upd H P (.tbl ps)) c' (LamX.CodeO c' q)
section
open L2 LamX
theorem lam_make3 {X : Cx} {pins : List (Addr × Obj)} {σ : L2.St} {H : Hp} {s : Shared} {c P : Addr} {params : Arguments} {body : Expr} {scope : Scope} {pos : Pos} {E : Value → Shared → Prop} {Q : Value → Shared → Prop} (I : Inv X pins σ H s) (TB : TabB X.base X.mg c P) (hcode : X.env.code = .ref c)
    (hT : TabS H P (X.env.qual ++ "<lambda>")) (hdef : defaultsOf params X.env = ([], [])) (hfree : ∀ y ∈ scope.names, y.2 = .free → ∃ c, X.env.cells.lookup y.1 = some c)
    (h : ∀ (f c' : Addr) (pm ctv : Value) (H1 : Hp) (s' : Shared), Inv X pins σ H1 s' → LamStep P (X.env.qual ++ "<lambda>") H H1 → TabS H1 P (X.env.qual ++ "<lambda>") →
      s'.heap.get? f = some (PySem.W.kla_obj "<lambda>" (X.env.qual ++ "<lambda>") params body scope (cloFrom X.env.cells scope.names []) pm c' ctv) → H1 c' = some (CodeO c' (X.env.qual ++ "<lambda>")) → Q (.ref f) s') :
    wpAny (model X.prog X.w) X.A (eval (.Lambda params body scope pos) X.env) Q E s := by
  obtain ⟨ps, hP, ht, ha⟩ := hT
  refine PySem.W.kla_eval hdef ?_
  have bP : s.heap.BuiltinsAt X.mg P := TB.bm.keeps I.bk
  have hP' : s.heap.get? P = some { cls := .none, data := .fields ps } := I.hok P _ hP
  cases hc : codeAmong pos ps.toList with
  | none =>
    refine PySem.W.kla_makeFunction (mg := X.mg) (c := c) (P := P) (ps := ps) (closure_ok hfree) I.ok.glob (I.mod.glob.keeps I.bk) hcode (TB.code.keeps I.bk) hP' ht hc TB.gP bP fun c' ctv h' tk hx hge hlt hrec htb => ?_
    obtain ⟨c2, oc, vs, t, e2, hoc, hd, hv⟩ := hrec
    cases e2
    have nC : H c' = none := I.hok.fresh hge
    have I1 := inv_table (t' := tk) (more := #[rawInt pos.line, rawInt pos.col, .ref c']) (h' := h'.push (PySem.W.kla_obj "<lambda>" (X.env.qual ++ "<lambda>") params body scope (cloFrom X.env.cells scope.names []) ((X.mg "__name__").getD .none) c' ctv)) I hP
      (fun b o hb e => Heap.get?_push_of_some _ (hx b o hb e)) (Heap.get?_push_of_some _ htb) hge ⟨oc, vs, t, Heap.get?_push_of_some _ hoc, hd, hv⟩
    have eL : (ps ++ #[rawInt pos.line, rawInt pos.col, .ref c']).toList = ps.toList ++ [rawInt pos.line, rawInt pos.col, .ref c'] := by simp
    refine h h'.objs.size c' ((X.mg "__name__").getD .none) ctv _ _ I1 (.inr ⟨ps, _, c', hP, nC, rfl⟩) ?_ (Heap.get?_push_size _ rfl) upd_same
    refine ⟨_, by rw [upd_ne (ne_of_none hP nC), upd_same], by rw [eL]; exact PySem.TriplesOk_snoc _ _ _ _ ht, fun p' cv hcv => ?_⟩
    rw [eL] at hcv
    rcases among_app _ ht hcv with z | z
    · obtain ⟨c0, e1, e2⟩ := ha p' cv z
      refine ⟨c0, e1, ?_⟩
      rw [upd_ne (ne_of_none e2 nC), upd_ne (fun z => by rw [z, hP] at e2; exact codeO_ne _ (Option.some.inj e2).symm)]
      exact e2
    · exact ⟨c', z, upd_same⟩
  | some cv =>
    obtain ⟨c', e, hco⟩ := ha pos cv hc
    subst e
    refine PySem.W.kla_makeFunctionHit (mg := X.mg) (c := c) (P := P) (ps := ps) (closure_ok hfree) I.ok.glob (I.mod.glob.keeps I.bk) hcode (TB.code.keeps I.bk) hP' ht hc bP fun ctv h' tk hx hsz => ?_
    exact h h'.objs.size c' ((X.mg "__name__").getD .none) ctv H _ (I.kept fun b o e => Heap.get?_push_of_some _ (hx b o e)) (.inl rfl) ⟨ps, hP, ht, ha⟩ (Heap.get?_push_size _ rfl) hco
end
def tSortLam (P : Addr) (q : Str) (te : L2.TE) : L2.TE := fun σ H Q => te σ H fun v H1 => ∃ (l : Addr) (bs : List (L2.V × List Int)), v = .ref l ∧ H1 l = some (.lst (bs.map (·.1))) ∧ LamX.TabS H1 P q ∧
  (∀ b ∈ bs, ∃ (p q : Addr) (r : List L2.V), b.1 = .ref p ∧ H1 p = some (.tup (.ref q :: r)) ∧ H1 q = some (.lst (b.2.map L2.V.int))) ∧
  ∀ H2 p, LamStep P q H1 H2 → LamX.TabS H2 P q → H2 p = none → Q (.ref p) (L2.upd H2 p (.lst ((bs.mergeSort leK).map (·.1))))
theorem LamStep.keep {P : Addr} {q : Str} {H H1 : L2.Hp} {b : Addr} {o : L2.HO} (h : LamStep P q H H1) (e : H b = some o) (n : b ≠ P) : H1 b = some o := by
  rcases h with rfl | ⟨ps0, ps, c', h1, h2, rfl⟩
  · exact e
  · rw [L2.upd_ne (L2.ne_of_none e h2), L2.upd_ne n]
    exact e
theorem pe_sortLam {X : L2.Cx} {k : Nat} {c P : Addr} {params : Arguments} {scope : Scope} {x : Str} {e : Expr} {te : L2.TE} {j : Nat} {p1 p2 p3 lpos p4 pos : Pos} {kpos : Pos} (hr : L2.Room (k + 2) X.A)
    (TB : LamX.TabB X.base X.mg c P) (hcode : X.env.code = .ref c) (hdef : defaultsOf params X.env = ([], []))
    (hg : L2.Gl X "sorted") (hm : X.mg "sorted" = none) (ha : L2.PE X e te)
    (hk : scope.kind = .function) (hco : scope.isCoroutine = false) (hgen : scope.isGenerator = false) (hcell : ∀ y ∈ scope.names, y.2 ≠ .cell) (hfree : ∀ y ∈ scope.names, y.2 ≠ .free) (hx : scope.names.lookup x = some .local) (hxd : (x == ("__debug__" : Str)) = false)
    (hcl : L2.cloFrom X.env.cells scope.names [] = [])
    (hbind : ∀ (q : Str) (pm cv ctv v : Value), bindArgs (kla_fn "<lambda>" q params (.Subscript (.Name x p1) (.Constant (.int 0) j p2) p3) scope [] pm cv ctv) ⟨[v], []⟩ = pure [(x, v)])
    (he : backTo pos (starEach [e] X.env) = (false, eval e X.env) :: backTo pos (starEach [] X.env)) (hpl : (backTo pos (starEach [e] X.env)).any (·.1) = false)
    (hkw : backToKw pos (keywordEach [{ arg := some (Str.ofString "key"), value := .Lambda params (.Subscript (.Name x p1) (.Constant (.int 0) j p2) p3) scope lpos, pos := kpos }] X.env) = [(some (Str.ofString "key"), do let v ← eval (.Lambda params (.Subscript (.Name x p1) (.Constant (.int 0) j p2) p3) scope lpos) X.env; standAt pos; pure v)]) :
    L2.PE X (.Call (.Name "sorted" p4) [e] [{ arg := some (Str.ofString "key"), value := .Lambda params (.Subscript (.Name x p1) (.Constant (.int 0) j p2) p3) scope lpos, pos := kpos }] pos) (tSortLam P (X.env.qual ++ "<lambda>") te) := by
  refine ⟨fun pins s σ H Q I h => ?_⟩
  refine wpAny_Call_Name_kw (L2.ld_blt I hg hm (by rfl : bootBuiltins "sorted" = some (.builtin "sorted")) ?_ (by decide) (by decide))
  refine PyProof.Rows.callWith_kw ?_ he hpl (by rw [hkw]; rfl) (by rw [hkw]; rfl)
  rw [he, hkw]
  refine Calls.spliced_cons (L2.thn (ha.run pins s σ H _ I h) fun v s1 ⟨y, H1, I1, r1, q1⟩ => Calls.spliced_nil ?_)
  obtain ⟨l, bs, rfl, hl, hT, hb, q⟩ := q1
  obtain rfl : v = Value.ref l := r1
  refine PyProof.Rows.evalAll_cons (wpAny_bind (lam_make3 I1 TB hcode hT hdef (fun y hy z => absurd z (hfree y hy)) fun f c' pm ctv H2 s2 I2 st T2 hf hco' => wpAny_bind (wpAny_standAt (wpAny_pure (PyProof.Rows.evalAll_nil ?_)))))
  rw [hcl] at hf
  have nP : ∀ {b o}, H1 b = some o → (∀ ps, o ≠ .tbl ps) → b ≠ P := fun {b o} e n z => by
    obtain ⟨ps, h1, _⟩ := hT
    rw [z, h1] at e
    exact n ps (Option.some.inj e).symm
  have hl2 : H2 l = some (.lst (bs.map (·.1))) := st.keep hl (nP hl fun _ z => by cases z)
  obtain ⟨its, rv, pl, hz⟩ := I2.list (L2.SqL.of hl2)
  rw [List.length_map] at hz
  obtain ⟨⟨oc, vs, t, hoc, hdc, hvc⟩, _, _⟩ := I2.hok c' _ hco'
  have hlim := I2.nolimit
  refine sortedO (b := false) (R := fun v (b : L2.V × List Int) => L2.RelV b.1 v) (fun b => .list (b.2.map .int)) pl.isList (each_of rv) ?_ ?_ hz ?_ (PyProof.Rows.ksk_s1 _ _) (fun _ => PyProof.Rows.ksk_l1 _ _) (fun a => PyProof.Rows.ksk_t1 _ _) ?_ ?_
  · intro d hd d' hd'
    obtain ⟨b, _, rfl⟩ := List.mem_map.mp hd
    obtain ⟨b', _, rfl⟩ := List.mem_map.mp hd'
    show alikeAll _ _ = true
    exact alike_ints _ _
  · refine .inr fun d hd => ?_
    obtain ⟨b, _, rfl⟩ := List.mem_map.mp hd
    exact ⟨by simp, by simp⟩
  · intro b _
    have := hr.un
    have := depth_ints b.2
    omega
  · intro v b hv hbm h tk kp
    obtain ⟨p, qa, r, e1, e2, e3⟩ := hb b hbm
    rw [e1] at hv
    obtain rfl : v = Value.ref p := hv
    have e2' := st.keep e2 (nP e2 fun _ z => by cases z)
    have e3' := st.keep e3 (nP e3 fun _ z => by cases z)
    obtain ⟨ti, rt, ⟨o, ho, hc, n, hd⟩, _⟩ := I2.tuple (L2.SqT.of e2')
    obtain ⟨li, rl, ⟨lo, ln, ho2, hc2, hd2, hs2⟩, _⟩ := I2.list (L2.SqL.of e3')
    cases rt with
    | @cons _ u _ us ru rus =>
      obtain rfl : u = Value.ref qa := ru
      refine lam_call (s := { s2 with heap := h, toks := tk }) (its := ((Value.ref qa) :: us).toArray) (by have := hr.dp; show X.A.depth < _; omega) (kp _ _ hf) ⟨c', oc, vs, t, rfl, kp _ _ hoc, hdc, hvc⟩ hk hco hgen hcell hx hxd (fun v => hbind _ _ _ _ _) ⟨o, kp _ _ ho, hc, n, hd⟩ rfl (hlim.keeps kp) fun h3 tk3 kp3 => ?_
      exact ⟨h3, tk3, rfl, kp3, _, .list (kp3 _ _ (kp _ _ ho2)) hc2 (by first | exact hs2 | exact hd2) (by simpa using reads_ints rl), fun b hb => by
        rw [List.mem_singleton] at hb
        rw [hb]
        exact Heap.lt_size ho2⟩
  · intro out cc h' tk kp fr hat hlen hout
    rw [dataLe_rows] at hout
    exact ⟨.ref _, _, I2.laid (a := s2.heap.objs.size + 1) (o := .lst ((bs.mergeSort leK).map (·.1))) (t' := tk) kp (Nat.le_succ _) ⟨by rw [List.length_map, List.length_mergeSort]; exact hz, out, cc, vals_of hout, hat⟩, rfl, q _ _ st T2 (I2.hok.fresh (Nat.le_succ _))⟩
end K5
set_option Elab.async false
set_option linter.all false
set_option maxRecDepth 100000
set_option maxHeartbeats 4000000
namespace K5
open PySem PySem.Spec PyProof.Rows L2 PySem.Froz
/-! ### sets of texts, made of a list of different ones -/
section
variable {P : Program} {w : World} {A : Around} {E : Value → Shared → Prop} {s : Shared}
structure SetSR (P : Program) (w : World) (h : Heap) (a : Addr) (l : List Str) : Prop where
  ob : ∃ D : SD, h.get? a = some (sObj "set" D) ∧ TxOk P w D l ∧ Ris D.2.2.place.toList ∧ (w.params.followText "set-order" = true ∨ D.2.2.led = true) ∧ ∃ vs, List.Perm (D.1.toList.map (·.2)) vs ∧ StrsAre vs l
theorem SetSR.keep {h h' : Heap} {a : Addr} {l : List Str} (R : SetSR P w h a l) (ha : ∀ o, h.get? a = some o → h'.get? a = some o) : SetSR P w h' a l := by
  obtain ⟨D, ho, r⟩ := R.ob
  exact ⟨D, ha _ ho, r⟩
theorem setSR_fresh {h : Heap} {a : Addr} (ho : h.get? a = some { cls := .type "set", dict := none, data := .set #[] 0 (.fresh 0 0 (!w.params.followText "set-order")) }) : SetSR P w h a [] := by
  refine ⟨(#[], 0, .fresh 0 0 (!w.params.followText "set-order")), ho, TxOk.nil (by rfl), List.Pairwise.nil, ?_, [], List.Perm.refl _, .nil⟩
  show _ ∨ (!w.params.followText "set-order") = true
  cases w.params.followText "set-order"
  · exact .inr rfl
  · exact .inl rfl
theorem tailTx_more {ep : Nat} {es1 : Array (Int × Value)} {t2 : SetTable} {b : Bool} (r : Ris t2.place.toList) : Ris (tailTx ep es1 t2 b).2.2.place.toList ∧ (tailTx ep es1 t2 b).2.2.led = t2.led ∧ List.Perm (tailTx ep es1 t2 b).1.toList es1.toList := by
  unfold tailTx
  split
  · exact ⟨relayAll_ris _ _ _, relayAll_led _ _ _, relayAll_perm _ _ _⟩
  · exact ⟨r, rfl, List.Perm.refl _⟩
theorem SetSR.add {h : Heap} {a : Addr} {l : List Str} {k : Str} {u : Tok} {D : SD} (F : TxOk P w D l) (r : Ris D.2.2.place.toList) (ld : w.params.followText "set-order" = true ∨ D.2.2.led = true) (pv : ∃ vs, List.Perm (D.1.toList.map (·.2)) vs ∧ StrsAre vs l)
    (ho : h.get? a = some (sObj "set" (addTx (hashStr w k) (.str k u) D))) : SetSR P w h a (k :: l) := by
  obtain ⟨es, ep, t⟩ := D
  obtain ⟨vs, p1, p2⟩ := pv
  have hr := layNew_ris t es (hashStr w k) (.str k u) r
  have hl := layNew_led t es (hashStr w k) (.str k u)
  have hp := layNew_perm t es (hashStr w k) (.str k u)
  have hr2 : Ris (if (layNew t es (hashStr w k) (.str k u)).2.1.plain = true then { (layNew t es (hashStr w k) (.str k u)).2.1 with plain := false } else (layNew t es (hashStr w k) (.str k u)).2.1).place.toList := by
    split <;> exact hr
  have hl2 : (if (layNew t es (hashStr w k) (.str k u)).2.1.plain = true then { (layNew t es (hashStr w k) (.str k u)).2.1 with plain := false } else (layNew t es (hashStr w k) (.str k u)).2.1).led = t.led := by
    split <;> exact hl
  obtain ⟨m1, m2, m3⟩ := tailTx_more (ep := ep) (es1 := (layNew t es (hashStr w k) (.str k u)).1) (b := (layNew t es (hashStr w k) (.str k u)).2.2.1) hr2
  refine ⟨_, ho, add_ok u F, m1, ?_, .str k u :: vs, ?_, .cons k u p2⟩
  · show _ ∨ (tailTx _ _ _ _).2.2.led = true
    rw [m2, hl2]
    exact ld
  · refine (m3.map (·.2)).trans ((hp.map (·.2)).trans ?_)
    rw [Array.toList_push, List.map_append]
    exact List.perm_append_comm.trans (p1.cons _)
/-- set.update's loop -/
theorem set_update_strs {I : Addr} {fp wr : List Addr} {G : Array GenState → Array GenState → Prop} {n : Nat} {Pv : Nat → Value → Prop} {St : Nat → Shared → Prop} {R : Result → Shared → Prop}
    (W : WalksS P w A.in1 I fp wr G n Pv St) (S : Addr) (hSf : S ∉ fp) (ks : List Str) (hn : n = ks.length) (hnd : ks.Nodup) (hfew : ks.length < 64) (hval : ∀ i v, Pv i v → ∃ k t, ks[i]? = some k ∧ v = .str k t)
    (h0 : Heap) (hS0 : h0.get? S = none) (hw0 : ∀ b ∈ wr, h0.get? b = none) :
    ∀ (k i : Nat) (s : Shared), n - i = k → i ≤ n → St i s → (∀ b o, h0.get? b = some o → s.heap.get? b = some o) → SetSR P w s.heap S (ks.take i).reverse →
      (∀ s', Moved (S :: wr) G s s' → SetSR P w s'.heap S (ks.take n).reverse → (∀ b o, h0.get? b = some o → s'.heap.get? b = some o) → R (.ok (.ret .none)) s') →
      codeAny (model P w) A (.builtin "set.update.loop" ⟨[.ref S, .ref I], []⟩) R s := by
  have hSw : S ∉ wr := fun h => hSf (W.sub _ h)
  have hsub : ∀ b ∈ wr, b ∈ S :: wr := fun b hb => List.mem_cons_of_mem _ hb
  have keepM : ∀ {s s' : Shared}, Moved wr G s s' → (∀ b o, h0.get? b = some o → s.heap.get? b = some o) → ∀ b o, h0.get? b = some o → s'.heap.get? b = some o := fun hm hkp b o e =>
    hm.heap b o (fun hb => by rw [hw0 b hb] at e; cases e) (hkp b o e)
  intro k
  induction k with
  | zero =>
    intro i s hk' hi hst hkp hS hR
    have hin : i = n := by omega
    subst hin
    refine codeAny_builtin F.entry_set_update_loop ?_
    rw [Around.under_plainId F.plain_set_update_loop _]
    show wpAny _ A.in1 (pyNext (.ref I) >>= _) _ _ s
    refine wpAny_bind (W.done s _ _ hst fun s' hm => ?_)
    show wpAny _ A.in1 (ret Value.none) _ _ s'
    exact wpAny_pure (hR s' (hm.mono hsub) (hS.keep (fun o e => hm.heap S o hSw e)) (keepM hm hkp))
  | succ k ih =>
    intro i s hk' hi hst hkp hS hR
    have hlt : i < n := by omega
    refine codeAny_builtin F.entry_set_update_loop ?_
    rw [Around.under_plainId F.plain_set_update_loop _]
    show wpAny _ A.in1 (pyNext (.ref I) >>= _) _ _ s
    refine wpAny_bind (W.item i s _ _ hlt hst fun v s' hP hst' hm => ?_)
    obtain ⟨p, t, hp, rfl⟩ := hval i v hP
    have hkp' := keepM hm hkp
    obtain ⟨D, ho, F1, r1, l1, p1⟩ := (hS.keep (fun o e => hm.heap S o hSw e)).ob
    have hnk : p ∉ (ks.take i).reverse := fun z => by
      rw [List.mem_reverse] at z
      obtain ⟨m, hm2, e⟩ := List.getElem_of_mem z
      rw [List.length_take] at hm2
      rw [List.getElem_take] at e
      obtain ⟨hi2, e2⟩ := List.getElem?_eq_some_iff.mp hp
      exact List.pairwise_iff_getElem.mp hnd m i (by omega) hi2 (by omega) (e.trans e2.symm)
    show wpAny _ A.in1 (holding [Value.str p t] (setAdd S (.str p t)) >>= _) _ _ s'
    refine wpAny_bind (wpAny_holding ?_)
    unfold setAdd
    refine wpAny_holding ?_
    refine wpAny_bind ((PySem.strKind P w).pyHash (k := p) (strKind_is _ _ _ _) ?_)
    have e : (ks.take (i + 1)).reverse = p :: (ks.take i).reverse := by
      rw [take_next hp, List.reverse_append]; rfl
    have hlen : (ks.take i).reverse.length + 1 < scanBound := by
      rw [List.length_reverse, List.length_take]; unfold scanBound; omega
    refine add_x (s := { s' with toks := s'.toks + 1 }) ho F1 hnk hlen ?_
    have hsb := Heap.SameBut.update s'.heap S (fun _ => sObj "set" (addTx (hashStr w p) (.str p t) D))
    have hS2 : SetSR P w (s'.heap.update S (fun _ => sObj "set" (addTx (hashStr w p) (.str p t) D))) S (ks.take (i + 1)).reverse := by
      rw [e]
      exact SetSR.add F1 r1 l1 p1 (get_upd _ ho rfl)
    have hkp2 : ∀ b o, h0.get? b = some o → (s'.heap.update S (fun _ => sObj "set" (addTx (hashStr w p) (.str p t) D))).get? b = some o := fun b o e => (hsb.2 b (fun z => by rw [z, hS0] at e; cases e)).trans (hkp' b o e)
    refine wpAny_pure ⟨plainId_quiet F.plain_set_update_loop _, ih (i + 1) _ (by omega) hlt (W.frame _ s' _ _ hst' (Nat.le_add_right _ _) fun b hb o e => ?_) hkp2 hS2 fun s'' hm'' hS'' hkp'' => ?_⟩
    · rw [hsb.2 b (fun h : b = S => hSf (by rw [← h]; exact hb))]; exact e
    · refine hR s'' (Moved.trans W.gtrans ((hm.mono hsub).then_heap (Nat.le_add_right _ _) fun b o hb e => ?_) hm'') hS'' hkp''
      rw [hsb.2 b (fun h : b = S => hb (by rw [h]; exact List.mem_cons_self))]; exact e
set_option maxRecDepth 100000 in
set_option maxHeartbeats 3200000 in
theorem call_set_strs {l : Addr} {items : Array Value} (ks : List Str) {Q : Value → Shared → Prop} (hh : A.handled = none) (hl : s.heap.IsList l items) (hit : StrsAre items.toList ks) (hnd : ks.Nodup) (hfew : ks.length < 64)
    (h : ∀ (h' : Heap) (tk : Nat), SetSR P w h' s.heap.objs.size ks.reverse → (∀ b o, s.heap.get? b = some o → h'.get? b = some o) → Q (.ref s.heap.objs.size) { s with heap := h', toks := tk }) :
    wpAny (model P w) A (call (.type "set") [.ref l]) Q E s := by
  have hisz : items.size = ks.length := by
    rw [← Array.length_toList]
    exact StrsAre.len_eq hit
  obtain ⟨c, tl, hmro⟩ := F.called_set.mro
  have hmade := F.called_set.made
  have hsub := F.called_set.sub
  refine wpAny_call (codeAny_of_tree ?_)
  show wpAny _ _ (callAny (.type "set") _) _ _ _
  refine wpAny_pure ⟨Code.quiet_builtin _ (by decide +kernel), codeAny_builtin F.entry_type_call ?_⟩
  rw [Around.under_plain (weight_type_call_type "set" [.ref l] []) rfl]
  have h1 := F.called_set.notType
  have h2 := F.called_set.canCreate
  have hct := F.typeCall_set_1 (.ref l)
  repeat (any_goals (first | assumption | wp_step))

  refine codeAny_mono (code_set_led1 (.ref l) (E := E) (Q₁ := fun obj s₁ => obj = .ref s.heap.objs.size ∧ s₁ = { s with heap := s.heap.push { cls := .type "set", dict := none, data := .set #[] 0 (.fresh 0 0 (!w.params.followText "set-order")) } }) ⟨rfl, rfl⟩) fun r s₁ hr => ?_
  cases r with
  | error e => exact hr
  | ok fl =>
    cases fl with
    | ret obj =>
      obtain ⟨rfl, rfl⟩ := hr
      have hS : (s.heap.push { cls := .type "set", dict := none, data := .set #[] 0 (.fresh 0 0 (!w.params.followText "set-order")) }).get? s.heap.objs.size = some { cls := .type "set", dict := none, data := .set #[] 0 (.fresh 0 0 (!w.params.followText "set-order")) } := Heap.get?_push_size _ rfl
      have hT : Shared.TypeIs { s with heap := s.heap.push { cls := .type "set", dict := none, data := .set #[] 0 (.fresh 0 0 (!w.params.followText "set-order")) } } (.ref s.heap.objs.size) "set" := ⟨_, hS, rfl⟩
      have hli := F.called_set.init.lookup
      have hbi := F.called_set.init.bind (.ref s.heap.objs.size)
      repeat (any_goals (first | assumption | wp_step))

      refine codeAny_mono (codeAny_call_builtin (R := wants (fun r s₂ => r = .none ∧ ∃ h' tk, s₂ = { s with heap := h', toks := tk } ∧ SetSR P w h' s.heap.objs.size ks.reverse ∧
          (∀ b o, s.heap.get? b = some o → h'.get? b = some o)) E) F.called_set.init.plain F.entry_set_init (check_set_init_1 hT ?_)) fun r₂ s₂ hr₂ => ?_
      · obtain ⟨ol, hol, hcl, nl, hdl⟩ := hl
        obtain ⟨ocls, odict, odata, oslots⟩ := ol
        simp only at hcl hdl
        subst hcl; subst hdl
        have hol' : (s.heap.push { cls := .type "set", dict := none, data := .set #[] 0 (.fresh 0 0 (!w.params.followText "set-order")) }).get? l = some { cls := .type "list", dict := odict, data := .seq items nl, slots := oslots } := Heap.get?_push_of_some _ hol
        have hsls := F.sub_list_set
        have hslf := F.sub_list_frozenset
        have hne : (Value.type "list" == Value.type "dict") = false := by decide
        have hl1 : (s.heap.push { cls := .type "set", dict := none, data := .set #[] 0 (.fresh 0 0 (!w.params.followText "set-order")) }).IsList l items := ⟨_, hol', rfl, nl, rfl⟩
        unfold Builtin.«set.__init__» noKeywords Builtin.Frozenset.updateFrom
        generalize hPI : pyIter = PI
        wp_walk
        subst hPI

        refine wpAny_pyIter_list hl1 ?_
        refine wpAny_bind (wpAny_runValue ?_)
        have hlS : l < s.heap.objs.size := Heap.lt_size hol
        have hh3 : A.in1.in1.in1.handled = none := by simp [hh]
        have hz1 : (s.heap.push { cls := .type "set", dict := none, data := .set #[] 0 (.fresh 0 0 (!w.params.followText "set-order")) }).objs.size = s.heap.objs.size + 1 := Heap.size_push ..
        have hneI : l ≠ (s.heap.push { cls := .type "set", dict := none, data := .set #[] 0 (.fresh 0 0 (!w.params.followText "set-order")) }).objs.size := by
          rw [Heap.size_push]; exact Nat.ne_of_lt (Nat.lt_succ_of_lt hlS)
        have hSf : s.heap.objs.size ∉ [(s.heap.push { cls := .type "set", dict := none, data := .set #[] 0 (.fresh 0 0 (!w.params.followText "set-order")) }).objs.size, l] := by
          rw [Heap.size_push]; simp only [List.mem_cons, List.mem_singleton, List.not_mem_nil, or_false, not_or]
          exact ⟨Nat.ne_of_lt (Nat.lt_succ_self _), Nat.ne_of_gt hlS⟩
        have hval : ∀ (i : Nat) (v : Value), items[i]? = some v → ∃ k t, ks[i]? = some k ∧ v = .str k t := fun i v hv => by
          obtain ⟨t, e⟩ := SS.strs_at hit i v (by rw [Array.getElem?_toList]; exact hv)
          have hi : i < ks.length := by
            rw [← hisz]
            exact (Array.getElem?_eq_some_iff.mp hv).1
          exact ⟨ks[i], t, List.getElem?_eq_getElem hi, by rw [e, List.getD_eq_getElem?_getD, List.getElem?_eq_getElem hi]; rfl⟩
        have none_of : ∀ b, s.heap.objs.size ≤ b → s.heap.get? b = none := fun b hb => by
          cases q : s.heap.get? b with
          | none => rfl
          | some o => exact absurd (Nat.lt_of_lt_of_le (Heap.lt_size q) hb) (Nat.lt_irrefl _)
        refine set_update_strs ((Walks.list hh3 _ l hneI items).toS) s.heap.objs.size
          hSf ks hisz hnd hfew hval s.heap (none_of _ (Nat.le_refl _)) (fun b hb => none_of b (by
            rw [List.mem_singleton.mp hb, Heap.size_push]
            exact Nat.le_succ _)) (items.size - 0) 0 _ (by omega) (Nat.zero_le _)
          ⟨⟨_, Heap.get?_push_size _ rfl, rfl, rfl⟩, (hl1.push _)⟩ (fun b o e => Heap.get?_push_of_some _ (Heap.get?_push_of_some _ e)) ?hS0 ?hR
        case hS0 =>
          have hget : ((s.heap.push { cls := .type "set", dict := none, data := .set #[] 0 (.fresh 0 0 (!w.params.followText "set-order")) }).push { cls := .type "list_iterator", data := .fields #[.ref l, .int 0 0] }).get? s.heap.objs.size
              = some { cls := .type "set", dict := none, data := .set #[] 0 (.fresh 0 0 (!w.params.followText "set-order")) } := Heap.get?_push_of_some _ hS
          exact setSR_fresh hget
        case hR =>
          intro s' hm hS' hkp
          obtain ⟨h', g2, d', tk', os'⟩ := s'
          have eg : g2 = s.gens := hm.gens
          have ed : d' = s.drawn := hm.drawn
          have eo : os' = s.os := hm.os
          subst eg; subst ed; subst eo
          show wpAny _ _ _ _ _ _
          refine wpAny_pure ?_
          show wpAny _ _ (ret Value.none) _ _ _
          rw [hisz, List.take_length] at hS'
          exact wpAny_pure ⟨rfl, h', tk', rfl, hS', hkp⟩

      · cases r₂ with
        | error e => exact hr₂
        | ok fl₂ =>
          cases fl₂ with
          | ret r =>
            obtain ⟨rfl, h', tk, rfl, hS', hk'⟩ := hr₂
            repeat (any_goals (first | assumption | wp_step))
            exact h _ _ hS' hk'
          | _ => exact hr₂.elim
    | _ => exact hr.elim

/-- sorted(the set) -/
def vS : Value → Str
  | .str x _ => x
  | _ => Str.empty
theorem strsAre_map : ∀ {vs : List Value} {l : List Str}, StrsAre vs l → l = vs.map vS
  | _, _, .nil => rfl
  | _, _, .cons x t h => by rw [List.map_cons, ← strsAre_map h]; rfl
theorem strsAre_mem : ∀ {vs : List Value} {l : List Str}, StrsAre vs l → ∀ v ∈ vs, ∃ x t, v = .str x t
  | _, _, .nil, v, h => by cases h
  | _, _, .cons x t hs, v, h => by
    rcases List.mem_cons.mp h with rfl | h
    · exact ⟨x, t, rfl⟩
    · exact strsAre_mem hs v h
theorem strsAre_all : ∀ (vs : List Value), (∀ v ∈ vs, ∃ x t, v = .str x t) → StrsAre vs (vs.map vS)
  | [], _ => .nil
  | v :: vs, h => by
    obtain ⟨x, t, rfl⟩ := h v (List.mem_cons_self ..)
    exact .cons x t (strsAre_all vs fun u hu => h u (List.mem_cons_of_mem _ hu))
theorem strsAre_perm {us vs : List Value} {l : List Str} (p : us.Perm vs) (h : StrsAre vs l) : StrsAre us (us.map vS) ∧ (us.map vS).Perm l :=
  ⟨strsAre_all us fun v hv => strsAre_mem h v (p.mem_iff.mp hv), by rw [strsAre_map h]; exact p.map vS⟩
end
def SetSO (P : Program) (w : World) (a : Addr) (l : List Str) : HO := .ext fun h => SetSR P w h a l
def rSetS (P : Program) (w : World) (K : PySem.W.Frag) : List V → Hp → VK → Prop := fun xs H Q => ∃ (l : Addr) (ks : List Str), xs = [.ref l] ∧ SqL K H l (ks.map V.str) ∧ ks.Nodup ∧ ks.length < 64 ∧ ∀ p, H p = none → Q (.ref p) (upd H p (SetSO P w p ks.reverse))
def rSortSetS (P : Program) (w : World) : List V → Hp → VK → Prop := fun xs H Q => ∃ (a : Addr) (l : List Str), xs = [.ref a] ∧ H a = some (SetSO P w a l) ∧ l.length < 64 ∧ ∀ ys p, ys.Perm l → sortedS ys = true → H p = none → Q (.ref p) (upd H p (.lst (ys.map V.str)))
section
variable {X : Cx}
theorem cr_setS (hc : X.calm = true) : CallR X (.type "set") (rSetS X.prog X.w X.K) := by
  intro pins s σ H xs us Q I r h
  obtain ⟨l, ks, rfl, hs, hnd, h64, q⟩ := h
  obtain ⟨its, rv, hl, _⟩ := I.list hs
  rw [Vals.ref1 r]
  refine call_set_strs ks (I.ok.hd hc) hl.isList (by simpa using rv.strs) hnd h64 fun h' tk R k => ?_
  have hn : H s.heap.objs.size = none := I.hok.fresh (Nat.le_refl _)
  refine ⟨.ref _, upd H s.heap.objs.size (SetSO X.prog X.w s.heap.objs.size ks.reverse), I.laid (t' := tk) k (Nat.le_refl _) ⟨R, ?_, fun h1 h2 p k => p.keep k⟩, rfl, q _ hn⟩
  obtain ⟨D, ho, _⟩ := R.ob
  exact ⟨_, ho⟩
theorem cr_sortedSetS (hc : X.calm = true) : CallR X (.builtin "sorted") (rSortSetS X.prog X.w) := by
  intro pins s σ H xs us Q I r h
  obtain ⟨a, l, rfl, ha, h64, q⟩ := h
  obtain ⟨D, ho, F1, r1, l1, vs, p1, p2⟩ := ((I.hok a _ ha).1 : SetSR X.prog X.w s.heap a l).ob
  rw [Vals.ref1 r]
  have hsz : D.1.size < scanBound := by rw [show D.1.size = l.length from F1.sz]; unfold scanBound; omega
  refine Calls.call_function_entry kind_sorted plain_sorted entry_sorted (args_sorted1 _) ?_
  unfold Builtin.«sorted»
  refine wpAny_bind (m := checkCount "sorted" 1 1 _) (wpAny_pure ?_)
  refine wpAny_bind (collect_set (A := X.A.in1) (P := X.prog) (w := X.w) (I.ok.hd hc) ⟨_, ho, rfl, rfl⟩ F1.fit hsz r1 l1 fun s1 out k1 hz g1 o1 pm => ?_)
  obtain ⟨hS, hperm⟩ := strsAre_perm (pm.trans p1) p2
  have hal : out.length = l.length := by rw [← List.length_map (f := vS), hperm.length_eq]
  refine wpAny_bind (wpAny_newList ?_ (by rw [hal, sizeLine_eq]; omega))
  have hoL : (s1.heap.push (seqObj "list" out.toArray 0)).get? s1.heap.objs.size = some (seqObj "list" out.toArray 0) := Heap.get?_push_size _ rfl
  refine wpAny_bind (wpAny_holding (wpAny_call_entry PyProof.Rows.slot_list_sort ⟨_, hoL, rfl⟩ PyProof.Rows.entry_list_sort
    (list_sort_treeK strKind_oneLt (s := { s1 with heap := s1.heap.push (seqObj "list" out.toArray 0) }) hoL hS.keysOf (fun v₁ v₂ rest e => keyKind_strs (by rw [← e]; exact hS)) (by rw [hal]; exact h64) fun st' hp hs => ⟨_, rfl, ?_⟩)
    (PyProof.Rows.args_list_sort _)))
  obtain ⟨ys, y1, y2, y3⟩ := sorted_out_str hS hp hs
  obtain ⟨e', he'⟩ := PyProof.Rows.sortedHeap_at (vs := out) (out := (arrOf st').map (·.2)) hoL
  have hyl := y2.trans hperm
  have hlen : (ys.map V.str).length ≤ sizeLine := by
    rw [List.length_map, hyl.length_eq]
    exact Nat.le_trans (Nat.le_of_lt h64) (by decide)
  have hn : H s1.heap.objs.size = none := I.hok.fresh hz
  have kk : ∀ b u, s.heap.get? b = some u → (sortedHeap (s1.heap.push (seqObj "list" out.toArray 0)) s1.heap.objs.size out ((arrOf st').map (·.2))).get? b = some u := fun b u e => by
    have q := k1 b u e
    have hlt := Heap.lt_size q
    rw [sortedHeap_old (Nat.ne_of_lt hlt) (by rw [size_push']; exact Nat.lt_succ_of_lt hlt)]
    exact Heap.get?_push_of_some _ q
  have J : Inv X pins σ (upd H s1.heap.objs.size (.lst (ys.map V.str))) { s with heap := sortedHeap (s1.heap.push (seqObj "list" out.toArray 0)) s1.heap.objs.size out ((arrOf st').map (·.2)), gens := s1.gens, drawn := s1.drawn, toks := s1.toks } :=
    I.call (ch := []) (Un.laid kk hz hn) (I.hok.laid kk hz ⟨hlen, ((arrOf st').map (·.2)).toList, e', vals_of_strs y1, by rw [Array.toArray_toList]; exact he'⟩) (by rw [g1]; exact I.bare) (fun _ z => nomatch z)
  have e : ({ s1 with heap := sortedHeap (s1.heap.push (seqObj "list" out.toArray 0)) s1.heap.objs.size out ((arrOf st').map (·.2)) } : Shared) = { s with heap := sortedHeap (s1.heap.push (seqObj "list" out.toArray 0)) s1.heap.objs.size out ((arrOf st').map (·.2)), gens := s1.gens, drawn := s1.drawn, toks := s1.toks } := by
    cases s1
    cases s
    cases o1
    rfl
  refine wpAny_pure ⟨_, rfl, .ref s1.heap.objs.size, upd H s1.heap.objs.size (.lst (ys.map V.str)), ?_, rfl, q ys _ hyl y3 hn⟩
  have J' := J
  rw [← e] at J'
  exact J'
end
end K5
set_option Elab.async false
set_option linter.all false
set_option maxRecDepth 100000
set_option maxHeartbeats 4000000
namespace K5
open PySem PySem.Spec PyProof.Rows L2
section
variable {X : Cx}
/-- d.update(d2) -/
theorem mt_dupdate : MtR X "dict.update" (fun x xs H Q => ∃ (a b : Addr) (kvs more : List (Key × V)), x = .ref a ∧ xs = [.ref b] ∧ a ≠ b ∧ H a = some (.dK kvs) ∧ H b = some (.dK more) ∧ kvs.length + more.length ≤ sizeLine ∧ Q .non (upd H a (.dK (mergeK kvs more)))) := by
  intro pins s σ H x xs v us Q I rx rxs h
  obtain ⟨a, b, kvs, more, rfl, rfl, hne, ha, hb, hz, q⟩ := h
  obtain rfl : v = Value.ref a := rx
  rw [Vals.ref1 rxs]
  obtain ⟨z1, hd1, vs, rel, dd⟩ := dk_of I.hok ha
  obtain ⟨z2, hd2, ws, rel2, dd2⟩ := dk_of I.hok hb
  refine call_meetsIn PySem.F.slot_dict_update dd.typeIs PySem.F.entry_dict_update (PySem.F.args_dict_update_2 _ _) (meets_dict_update (mixKind X.prog X.w) a b hne hd2) ⟨vs, ws, dd, dd2, by rw [← rel.length, ← rel2.length]; exact hz, fun h' dd' _ hs => ?_⟩
  have he : ∃ q, h'.get? a = some q := let ⟨q, _, _, hq, _⟩ := dd'; ⟨q, hq⟩
  exact ⟨.non, _, d_write I (by rw [ha]; exact True.intro) hs he (dk_new (Nat.le_trans (length_mergeK more kvs) hz) hd1 (KV.merge rel2 rel) dd'), rfl, q⟩
end
/-! ### ascending texts -/
def sLt (a b : Str) : Prop := a.cps.toList < b.cps.toList
theorem str_ext {a b : Str} (h : a.cps.toList = b.cps.toList) : a = b := by
  cases a; cases b
  congr
  exact Array.ext' h
theorem sLt_trans {a b c : Str} (h : sLt a b) (k : sLt b c) : sLt a c := List.lt_trans h k
theorem sLt_irrefl (a : Str) : ¬ sLt a a := List.lt_irrefl _
theorem sLt_tri (a b : Str) : sLt a b ∨ a = b ∨ sLt b a := by
  by_cases h : a.cps.toList < b.cps.toList
  · exact .inl h
  · by_cases k : b.cps.toList < a.cps.toList
    · exact .inr (.inr k)
    · exact .inr (.inl (str_ext (List.le_antisymm (List.not_lt.mp k) (List.not_lt.mp h))))
theorem rising_pw : ∀ (l : List Str) (x : Str), risingS x l = true → (x :: l).Pairwise fun a b => ¬ sLt b a
  | [], x, _ => by simp
  | y :: l, x, h => by
    simp only [risingS, Bool.and_eq_true, Bool.not_eq_true', ltCps_eq, decide_eq_false_iff_not] at h
    have ih := rising_pw l y h.2
    refine List.pairwise_cons.mpr ⟨fun z hz => ?_, ih⟩
    rcases List.mem_cons.mp hz with rfl | hz
    · exact h.1
    · have h2 := (List.pairwise_cons.mp ih).1 z hz
      intro q
      rcases sLt_tri y z with t | t | t
      · exact h.1 (sLt_trans t q)
      · rw [← t] at q; exact h.1 q
      · exact h2 t
theorem sorted_pw {l : List Str} (h : sortedS l = true) : l.Pairwise fun a b => ¬ sLt b a := by
  cases l with
  | nil => exact .nil
  | cons x l => exact rising_pw l x h
/-- two ascending lists with the same members -/
theorem asc_eq : ∀ {l m : List Str}, l.Pairwise sLt → m.Pairwise (fun a b => ¬ sLt b a) → m.Perm l → m = l
  | [], m, _, _, p => p.eq_nil
  | x :: l, [], _, _, p => by cases p.symm.eq_nil
  | x :: l, y :: m, hl, hm, p => by
    have hx := List.pairwise_cons.mp hl
    have hy := List.pairwise_cons.mp hm
    have e : y = x := by
      rcases List.mem_cons.mp (p.mem_iff.mp (List.mem_cons_self ..)) with e | e
      · exact e
      · have h1 := hx.1 y e
        rcases List.mem_cons.mp (p.mem_iff.mpr (List.mem_cons_self ..)) with e2 | e2
        · exact e2.symm
        · exact absurd h1 (hy.1 x e2)
    subst e
    rw [asc_eq hx.2 hy.2 (List.Perm.cons_inv p)]
theorem asc_nodup {l : List Str} (h : l.Pairwise sLt) : l.Nodup := h.imp fun {a b} q e => by rw [e] at q; exact sLt_irrefl _ q
theorem asc_of {l : List Str} (h : l.Pairwise fun a b => ¬ sLt b a) (n : l.Nodup) : l.Pairwise sLt := by
  have := h.and n
  refine this.imp fun {a b} q => ?_
  rcases sLt_tri a b with t | t | t
  · exact t
  · exact absurd t q.2
  · exact absurd t q.1
end K5
set_option Elab.async false
set_option linter.all false
set_option maxRecDepth 100000
set_option maxHeartbeats 4000000
namespace K5
open PySem PySem.Spec PyProof.Rows L2
/-! ### numbers of ways -/
def Tr.no : Tr → Way → Nat
  | _, [] => 0
  | t, j :: w => 1 + Tr.sizes (t.kids.take j) + (t.ch j).no w
theorem take_le {cs : List Tr} {j : Nat} {c : Tr} (h : cs[j]? = some c) : Tr.sizes (cs.take j) + c.size ≤ Tr.sizes cs := by
  rw [← take_sizes_succ h]; exact sizes_take cs (j + 1)
theorem wy_no : ∀ (w : Way) (t : Tr), t.ok w → t.no w < t.size ∧ t.wy (t.no w) = w
  | [], t, _ => ⟨t.size_pos, wy_0 t⟩
  | j :: w, t, h => by
    obtain ⟨hj, hw⟩ := h
    have e := ch_get hj
    obtain ⟨h1, h2⟩ := wy_no w (t.ch j) hw
    have hs := sizes_kids t
    have := take_le e
    refine ⟨by simp only [Tr.no]; omega, ?_⟩
    show t.wy (1 + Tr.sizes (t.kids.take j) + (t.ch j).no w) = _
    rw [show 1 + Tr.sizes (t.kids.take j) + (t.ch j).no w = (Tr.sizes (t.kids.take j) + (t.ch j).no w) + 1 by omega, wy_kid e (by omega) (by omega), Nat.add_sub_cancel_left, h2]
theorem no_wy : ∀ (n : Nat) (t : Tr) (k : Nat), t.size ≤ n → k < t.size → t.no (t.wy k) = k
  | 0, t, k, h, hk => by omega
  | n + 1, t, 0, h, hk => by rw [wy_0]; rfl
  | n + 1, t, k + 1, h, hk => by
    have hs := sizes_kids t
    obtain ⟨j, c, e, h1, h2⟩ := sizes_le_take (cs := t.kids) (k := k) (by omega)
    have hc := take_le e
    have hj := (List.getElem?_eq_some_iff.mp e).1
    have e2 : t.ch j = c := Option.some.inj ((ch_get hj).symm.trans e)
    rw [wy_kid e h1 h2]
    simp only [Tr.no]
    rw [e2, no_wy n c _ (by omega) (by omega)]
    omega
/-- the induction along a way -/
theorem wy_step {t : Tr} {k : Nat} (hk : k + 1 < t.size) : ∃ (m : Str) (cs : List Tr) (j : Nat) (c : Tr), t = .el m cs ∧ cs[j]? = some c ∧ Tr.sizes (cs.take j) ≤ k ∧ k < Tr.sizes (cs.take j) + c.size ∧ t.wy (k + 1) = j :: c.wy (k - Tr.sizes (cs.take j)) ∧ c.size < t.size ∧ (Tr.el m cs).ch j = c := by
  cases t with
  | tx s => simp [Tr.size] at hk
  | el m cs =>
    simp only [Tr.size] at hk
    obtain ⟨j, c, e, h1, h2⟩ := sizes_le_take (cs := cs) (k := k) (by omega)
    have hc := take_le e
    have hj := (List.getElem?_eq_some_iff.mp e).1
    exact ⟨m, cs, j, c, rfl, e, h1, h2, wy_kid (t := .el m cs) e h1 h2, by simp only [Tr.size]; omega, Option.some.inj ((ch_get (t := .el m cs) hj).symm.trans e)⟩
theorem nodess_at : ∀ {cs : List Tr} {j k : Nat} {c : Tr}, cs[j]? = some c → Tr.sizes (cs.take j) ≤ k → k < Tr.sizes (cs.take j) + c.size → (Tr.nodess cs)[k]? = c.nodes[k - Tr.sizes (cs.take j)]?
  | d :: cs, 0, k, c, h, h1, h2 => by
    cases (Option.some.inj h)
    simp only [List.take_zero, Tr.sizes, Nat.zero_add] at *
    rw [Tr.nodess, List.getElem?_append_left (by rw [nodes_len]; exact h2), Nat.sub_zero]
  | d :: cs, j + 1, k, c, h, h1, h2 => by
    rw [List.take_succ_cons, Tr.sizes] at *
    rw [Tr.nodess, List.getElem?_append_right (by rw [nodes_len]; omega), nodes_len, nodess_at (j := j) (c := c) (by simpa using h) (by omega) (by omega), Nat.sub_sub]
theorem nodes_wy : ∀ (n : Nat) (t : Tr) (k : Nat), t.size ≤ n → k < t.size → t.nodes[k]? = some (t.go (t.wy k))
  | 0, t, k, h, hk => by omega
  | n + 1, t, 0, h, hk => by rw [wy_0]; cases t <;> simp [Tr.nodes, Tr.go]
  | n + 1, t, k + 1, h, hk => by
    obtain ⟨m, cs, j, c, rfl, e, h1, h2, hw, hs, e2⟩ := wy_step hk
    rw [hw, Tr.nodes, List.getElem?_cons_succ, nodess_at e h1 h2, nodes_wy n c _ (by omega) (by omega)]
    show _ = some (((Tr.el m cs).ch j).go _)
    rw [e2]
theorem repls_at {x : Tr} : ∀ {cs : List Tr} {j k : Nat} {c : Tr}, cs[j]? = some c → Tr.sizes (cs.take j) ≤ k → k < Tr.sizes (cs.take j) + c.size → Tr.repls x cs k = cs.set j (Tr.repl x c (k - Tr.sizes (cs.take j)))
  | d :: cs, 0, k, c, h, h1, h2 => by
    cases (Option.some.inj h)
    simp only [List.take_zero, Tr.sizes, Nat.zero_add] at *
    rw [Tr.repls, if_pos h2, Nat.sub_zero]
    rfl
  | d :: cs, j + 1, k, c, h, h1, h2 => by
    rw [List.take_succ_cons, Tr.sizes] at *
    rw [Tr.repls, if_neg (by omega), repls_at (j := j) (c := c) (by simpa using h) (by omega) (by omega), Nat.sub_sub]
    rfl
theorem repl_put {x : Tr} : ∀ (n : Nat) (t : Tr) (k : Nat), t.size ≤ n → k < t.size → Tr.repl x t k = t.put (t.wy k) x
  | 0, t, k, h, hk => by omega
  | n + 1, t, 0, h, hk => by rw [wy_0, put_nil, repl_0]
  | n + 1, t, k + 1, h, hk => by
    obtain ⟨m, cs, j, c, rfl, e, h1, h2, hw, hs, e2⟩ := wy_step hk
    rw [hw, put_cons, e2, Tr.repl, repls_at e h1 h2, repl_put n c _ (by omega) (by omega)]
/-! ### parents -/
theorem parss_at : ∀ {cs : List Tr} {b p d j k : Nat} {c : Tr}, cs[j]? = some c → Tr.sizes (cs.take j) ≤ k → k < Tr.sizes (cs.take j) + c.size → (Tr.parss b p d cs)[k]? = (c.pars (b + Tr.sizes (cs.take j)) (some p) d)[k - Tr.sizes (cs.take j)]?
  | f :: cs, b, p, d, 0, k, c, h, h1, h2 => by
    cases (Option.some.inj h)
    simp only [List.take_zero, Tr.sizes, Nat.zero_add] at *
    rw [Tr.parss, List.getElem?_append_left (by rw [pars_len]; exact h2), Nat.sub_zero, Nat.add_zero]
  | f :: cs, b, p, d, j + 1, k, c, h, h1, h2 => by
    rw [List.take_succ_cons, Tr.sizes] at *
    rw [Tr.parss, List.getElem?_append_right (by rw [pars_len]; omega), pars_len, parss_at (j := j) (c := c) (by simpa using h) (by omega) (by omega), Nat.sub_sub, Nat.add_assoc]
theorem wy_nil {t : Tr} {k : Nat} (hk : k < t.size) (h : t.wy k = []) : k = 0 := by
  have := no_wy t.size t k (Nat.le_refl _) hk
  rw [h] at this
  exact this.symm
theorem pars_fst : ∀ (n : Nat) (t : Tr) (b : Nat) (p : Option Nat) (d k : Nat), t.size ≤ n → k < t.size → ∃ y, (t.pars b p d)[k]? = some y ∧ y.1 = if k = 0 then p else some (b + t.no (t.wy k).dropLast)
  | 0, t, b, p, d, k, h, hk => by omega
  | n + 1, t, b, p, d, 0, h, hk => by cases t <;> exact ⟨_, rfl, rfl⟩
  | n + 1, t, b, p, d, k + 1, h, hk => by
    obtain ⟨m, cs, j, c, rfl, e, h1, h2, hw, hs, e2⟩ := wy_step hk
    obtain ⟨y, hy, hy1⟩ := pars_fst n c (b + 1 + Tr.sizes (cs.take j)) (some b) (d + 1) (k - Tr.sizes (cs.take j)) (by omega) (by omega)
    refine ⟨y, ?_, ?_⟩
    · rw [Tr.pars, List.getElem?_cons_succ, parss_at e h1 h2, hy]
    · rw [hy1, hw, if_neg (Nat.succ_ne_zero k)]
      by_cases h0 : k - Tr.sizes (cs.take j) = 0
      · rw [if_pos h0, h0, wy_0]
        rfl
      · rw [if_neg h0]
        have hne : c.wy (k - Tr.sizes (cs.take j)) ≠ [] := fun z => h0 (wy_nil (by omega) z)
        rw [List.dropLast_cons_of_ne_nil hne]
        simp only [Tr.no, Tr.kids]
        rw [e2]
        congr 1
        omega
mutual
theorem pars_mem : ∀ (t : Tr) (b : Nat) (p : Option Nat) (d : Nat), ∀ x ∈ (t.pars b p d).map (·.1), x = p ∨ ∃ y, x = some y ∧ b ≤ y ∧ y < b + t.size
  | .tx s, b, p, d, x, h => by
    simp only [Tr.pars, List.map_cons, List.map_nil, List.mem_singleton] at h
    exact .inl h
  | .el m cs, b, p, d, x, h => by
    simp only [Tr.pars, List.map_cons, List.mem_cons] at h
    rcases h with h | h
    · exact .inl h
    · rcases parss_mem cs (b + 1) b (d + 1) x h with h | ⟨y, e, h1, h2⟩
      · exact .inr ⟨b, h, Nat.le_refl _, by simp only [Tr.size]; omega⟩
      · exact .inr ⟨y, e, by omega, by simp only [Tr.size]; omega⟩
theorem parss_mem : ∀ (ts : List Tr) (b p d : Nat), ∀ x ∈ (Tr.parss b p d ts).map (·.1), x = some p ∨ ∃ y, x = some y ∧ b ≤ y ∧ y < b + Tr.sizes ts
  | [], b, p, d, x, h => by simp [Tr.parss] at h
  | t :: ts, b, p, d, x, h => by
    simp only [Tr.parss, List.map_append, List.mem_append] at h
    rcases h with h | h
    · rcases pars_mem t b (some p) d x h with h | ⟨y, e, h1, h2⟩
      · exact .inl h
      · exact .inr ⟨y, e, h1, by simp only [Tr.sizes]; omega⟩
    · rcases parss_mem ts (b + t.size) p d x h with h | ⟨y, e, h1, h2⟩
      · exact .inl h
      · exact .inr ⟨y, e, by omega, by simp only [Tr.sizes]; omega⟩
end
theorem cnt_zero {l : List (Option Nat)} {q : Nat} (h : ∀ x ∈ l, x ≠ some q) : l.count (some q) = 0 := List.count_eq_zero.mpr fun m => h _ m rfl
theorem parss_cnt : ∀ (ts : List Tr) (b p d : Nat), p < b → ((Tr.parss b p d ts).map (·.1)).count (some p) = ts.length
  | [], b, p, d, h => rfl
  | t :: ts, b, p, d, h => by
    simp only [Tr.parss, List.map_append, List.count_append, List.length_cons]
    rw [parss_cnt ts (b + t.size) p d (by omega)]
    have : ((t.pars b (some p) d).map (·.1)).count (some p) = 1 := by
      cases t with
      | tx s => simp [Tr.pars]
      | el m cs =>
        simp only [Tr.pars, List.map_cons, List.count_cons_self]
        rw [cnt_zero fun x hx z => ?_]
        rcases parss_mem cs (b + 1) b (d + 1) x hx with e | ⟨y, e, h1, h2⟩
        · rw [e] at z; injection z; omega
        · rw [e] at z; injection z; omega
    omega
theorem parss_take : ∀ (ts : List Tr) (b p d j : Nat), (Tr.parss b p d ts).take (Tr.sizes (ts.take j)) = Tr.parss b p d (ts.take j)
  | [], b, p, d, j => by simp [Tr.parss]
  | t :: ts, b, p, d, 0 => by simp [Tr.parss, Tr.sizes]
  | t :: ts, b, p, d, j + 1 => by
    simp only [List.take_succ_cons, Tr.parss, Tr.sizes]
    rw [List.take_append, pars_len, Nat.add_sub_cancel_left, parss_take ts, List.take_of_length_le (by rw [pars_len]; omega)]
theorem parss_split : ∀ (ts : List Tr) (b p d j k : Nat) (c : Tr), ts[j]? = some c → k ≤ c.size → (Tr.parss b p d ts).take (Tr.sizes (ts.take j) + k) = Tr.parss b p d (ts.take j) ++ (c.pars (b + Tr.sizes (ts.take j)) (some p) d).take k
  | t :: ts, b, p, d, 0, k, c, h, hk => by
    cases (Option.some.inj h)
    simp only [List.take_zero, Tr.sizes, Nat.zero_add, Nat.add_zero, Tr.parss, List.nil_append]
    rw [List.take_append, pars_len, Nat.sub_eq_zero_of_le hk, List.take_zero, List.append_nil]
  | t :: ts, b, p, d, j + 1, k, c, h, hk => by
    simp only [List.take_succ_cons, Tr.parss, Tr.sizes]
    rw [List.take_append, pars_len, List.take_of_length_le (by rw [pars_len]; omega), show t.size + Tr.sizes (ts.take j) + k - t.size = Tr.sizes (ts.take j) + k by omega, parss_split ts (b + t.size) p d j k c (by simpa using h) hk, List.append_assoc, Nat.add_assoc]
theorem cnt_at : ∀ (u : Way) (t : Tr) (b : Nat) (p : Option Nat) (d c : Nat), (∀ q, p = some q → q < b) → t.ok (u ++ [c]) → (((t.pars b p d).map (·.1)).take (t.no (u ++ [c]))).count (some (b + t.no u)) = c
  | [], .tx s, b, p, d, c, hp, h => by simp [Tr.ok, Tr.kids] at h
  | [], .el m cs, b, p, d, c, hp, h => by
    have hc : c < cs.length := h.1
    have e1 : (Tr.el m cs).no ([] ++ [c]) = Tr.sizes (cs.take c) + 1 := by
      simp only [List.nil_append, Tr.no, Tr.kids]; omega
    rw [e1, ← List.map_take, Tr.pars, List.take_succ_cons, parss_take, List.map_cons, List.count_cons_of_ne, show b + (Tr.el m cs).no [] = b from rfl, parss_cnt _ _ _ _ (by omega), List.length_take]
    · omega
    · intro z
      have := hp _ z
      simp only [Tr.no] at this
      omega
  | j :: u, .tx s, b, p, d, c, hp, h => by simp [Tr.ok, Tr.kids] at h
  | j :: u, .el m cs, b, p, d, c, hp, h => by
    obtain ⟨hj, hw⟩ := h
    have hw : ((Tr.el m cs).ch j).ok (u ++ [c]) := hw
    have e := ch_get hj
    have hj : j < cs.length := hj
    have e : cs[j]? = some ((Tr.el m cs).ch j) := e
    generalize (Tr.el m cs).ch j = x at e hw
    have ex : (Tr.el m cs).ch j = x := Option.some.inj ((ch_get (t := .el m cs) hj).symm.trans e)
    have h1 := (wy_no _ _ hw).1
    have ih := cnt_at u x (b + 1 + Tr.sizes (cs.take j)) (some b) (d + 1) c (fun q z => by injection z; omega) hw
    rw [show (Tr.el m cs).no (j :: u ++ [c]) = (Tr.sizes (cs.take j) + x.no (u ++ [c])) + 1 by simp only [List.cons_append, Tr.no, Tr.kids, ex]; omega]
    rw [← List.map_take, Tr.pars, List.take_succ_cons, parss_split cs (b + 1) b (d + 1) j _ x e (by omega), List.map_cons, List.map_append, List.count_cons_of_ne, List.count_append]
    · rw [show b + (Tr.el m cs).no (j :: u) = b + 1 + Tr.sizes (cs.take j) + x.no u by simp only [Tr.no, Tr.kids, ex]; omega]
      rw [cnt_zero fun y hy z => ?_, List.map_take, ih, Nat.zero_add]
      rcases parss_mem (cs.take j) (b + 1) b (d + 1) y hy with q | ⟨v, q, h3, h4⟩
      · rw [q] at z; injection z; omega
      · rw [q] at z; injection z; omega
    · intro z
      have := hp _ z
      omega
theorem no_app : ∀ (u v : Way) (t : Tr), t.no (u ++ v) = t.no u + (t.go u).no v
  | [], v, t => by simp [Tr.no, Tr.go]
  | j :: u, v, t => by
    simp only [List.cons_append, Tr.no, Tr.go, no_app u v (t.ch j)]
    omega
/-! ### does, of the way form -/
theorem cut_pth {t : Tr} {k c : Nat} {u : Way} (hk : k < t.size) (hw : t.wy k = u ++ [c]) : t.pth[k]? = some (some (t.no u)) ∧ (t.pth.take k).count (some (t.no u)) = c := by
  have hok : t.ok (u ++ [c]) := hw ▸ wy_ok (Nat.le_refl _) hk
  have hno := no_wy _ t k (Nat.le_refl _) hk
  rw [hw] at hno
  obtain ⟨y, hy, hy1⟩ := pars_fst _ t 0 none 1 k (Nat.le_refl _) hk
  have k0 : k ≠ 0 := fun z => by rw [z, wy_0] at hw; simp at hw
  constructor
  · rw [Tr.pth, List.getElem?_map, hy]
    show some y.1 = _
    rw [hy1, if_neg k0, hw, List.dropLast_concat, Nat.zero_add]
  · have := cnt_at u t 0 none 1 c (fun q z => by cases z) hok
    rw [hno, Nat.zero_add] at this
    exact this
theorem does_of {e : Ed} {t t' : Tr} (h : e.doW t t') (hr : ∀ k p x, e = .gra k p x → t'.rs = true) : e.does t t' := by
  cases e with
  | ren k n =>
    obtain ⟨hk, m, cs, h1, h2, rfl⟩ := h
    exact ⟨m, cs, by rw [nodes_wy _ t k (Nat.le_refl _) hk, h1], h2, (repl_put _ t k (Nat.le_refl _) hk).symm⟩
  | ret k s =>
    obtain ⟨hk, s0, h1, h2, rfl⟩ := h
    exact ⟨s0, by rw [nodes_wy _ t k (Nat.le_refl _) hk, h1], h2, (repl_put _ t k (Nat.le_refl _) hk).symm⟩
  | gra k p x =>
    obtain ⟨hk, m, cs, h1, h2, h3, h4, rfl⟩ := h
    exact ⟨m, cs, by rw [nodes_wy _ t k (Nat.le_refl _) hk, h1], h2, h3, h4, (repl_put _ t k (Nat.le_refl _) hk).symm, hr _ _ _ rfl⟩
  | cut k =>
    obtain ⟨hk, u, c, m, cs, hw, hg, hap, rfl⟩ := h
    obtain ⟨h1, h2⟩ := cut_pth hk hw
    have hok : t.ok (u ++ [c]) := hw ▸ wy_ok (Nat.le_refl _) hk
    obtain ⟨hu, hc⟩ := (ok_snoc t u c).mp hok
    obtain ⟨hn, hwn⟩ := wy_no u t hu
    rw [hg] at hc
    refine ⟨t.no u, m, cs, fun z => ?_, h1, ?_, by rw [h2]; exact hc, by rw [h2]; exact hap, ?_⟩
    · rw [z, wy_0] at hw; simp at hw
    · rw [nodes_wy _ t _ (Nat.le_refl _) hn, hwn, hg]
    · rw [h2, repl_put _ t _ (Nat.le_refl _) hn, hwn]
/-! ### put -/
theorem put_ok : ∀ (w : Way) (t x : Tr), t.ok w → (t.put w x).ok w ∧ (t.put w x).go w = x ∧ (t.put w x).no w = t.no w ∧ (∀ y, (t.put w x).put w y = t.put w y) ∧ (t.put w x).size + (t.go w).size = t.size + x.size ∧ t.put w (t.go w) = t ∧ (t.put w x).isTx = (if w = [] then x.isTx else false)
  | [], t, x, h => by
    rw [put_nil]
    exact ⟨trivial, rfl, rfl, fun y => by rw [put_nil, put_nil], by simp only [Tr.go]; omega, by rw [put_nil]; rfl, rfl⟩
  | j :: w, .tx s, x, h => by simp [Tr.ok, Tr.kids] at h
  | j :: w, .el m cs, x, h => by
    obtain ⟨hj, hw⟩ := h
    have hj : j < cs.length := hj
    have e := ch_get (t := .el m cs) hj
    have e : cs[j]? = some ((Tr.el m cs).ch j) := e
    obtain ⟨i1, i2, i3, i4, i5, i6, _⟩ := put_ok w ((Tr.el m cs).ch j) x hw
    rw [put_cons]
    generalize hc : (Tr.el m cs).ch j = c at *
    have hch : (Tr.el m (cs.set j (c.put w x))).ch j = c.put w x := by
      simp [Tr.ch, Tr.kids, hj]
    have hz : Tr.sizes (cs.set j (c.put w x)) + c.size = Tr.sizes cs + (c.put w x).size := by
      have : ∀ (cs : List Tr) (j : Nat) (c y : Tr), cs[j]? = some c → Tr.sizes (cs.set j y) + c.size = Tr.sizes cs + y.size := by
        intro cs
        induction cs with
        | nil => intro j c y h; simp at h
        | cons d cs ih =>
          intro j c y h
          cases j with
          | zero =>
            cases (Option.some.inj h)
            simp only [List.set_cons_zero, Tr.sizes]; omega
          | succ j =>
            have := ih j c y (by simpa using h)
            simp only [List.set_cons_succ, Tr.sizes]; omega
      exact this cs j c _ e
    refine ⟨⟨by simpa [Tr.kids] using hj, by rw [hch]; exact i1⟩, ?_, ?_, fun y => ?_, ?_, ?_, by simp [Tr.isTx]⟩
    · show ((Tr.el m (cs.set j (c.put w x))).ch j).go w = x
      rw [hch]; exact i2
    · simp only [Tr.no, hch, i3, hc]
      simp only [Tr.kids]
      rw [List.take_set_of_le (Nat.le_refl _)]
    · rw [put_cons, hch, put_cons, hc, i4 y, List.set_set]
    · show (Tr.el m _).size + (((Tr.el m cs).ch j).go w).size = _
      rw [hc]
      simp only [Tr.size]
      omega
    · show (Tr.el m cs).put (j :: w) (((Tr.el m cs).ch j).go w) = _
      rw [put_cons, hc, i6]
      congr 1
      rw [List.getElem?_eq_some_iff] at e
      obtain ⟨_, e⟩ := e
      rw [← e]
      exact List.set_getElem_self ..
theorem good_kid : ∀ {cs : List Tr} {j : Nat} {c : Tr}, Tr.goods cs = true → cs[j]? = some c → c.good = true
  | d :: cs, 0, c, h, e => by
    cases (Option.some.inj e)
    simp only [Tr.goods, Bool.and_eq_true] at h
    exact h.1
  | d :: cs, j + 1, c, h, e => by
    simp only [Tr.goods, Bool.and_eq_true] at h
    exact good_kid (cs := cs) (j := j) h.2 (by simpa using e)
theorem good_go : ∀ (w : Way) (t : Tr), t.ok w → t.good = true → (t.go w).good = true
  | [], t, _, h => h
  | j :: w, .tx s, h, _ => by simp [Tr.ok, Tr.kids] at h
  | j :: w, .el m cs, h, hg => by
    simp only [Tr.good, Bool.and_eq_true] at hg
    exact good_go w _ h.2 (good_kid hg.2 (ch_get (t := .el m cs) h.1))
theorem good_el {m : Str} {cs : List Tr} (h : (Tr.el m cs).good = true) : isNm m = true ∧ apart cs = true := by
  simp only [Tr.good, Bool.and_eq_true] at h
  exact h.1
/-! ### an edit told by another number -/
def Ed.to (k : Nat) : Ed → Ed
  | .ren _ n => .ren k n
  | .ret _ s => .ret k s
  | .cut _ => .cut k
  | .gra _ p x => .gra k p x
theorem wy_in {n : Str} {ps : List Tr} {i k : Nat} {p : Tr} (hi : ps[i]? = some p) (hk : k < p.size) : (Tr.el n ps).wy (1 + Tr.sizes (ps.take i) + k) = i :: p.wy k ∧ 1 + Tr.sizes (ps.take i) + k < (Tr.el n ps).size ∧ (Tr.el n ps).ch i = p := by
  have h := take_le hi
  refine ⟨?_, by simp only [Tr.size]; omega, ?_⟩
  · rw [show 1 + Tr.sizes (ps.take i) + k = (Tr.sizes (ps.take i) + k) + 1 by omega, wy_kid (t := .el n ps) hi (by simp only [Tr.kids]; omega) (by simp only [Tr.kids]; omega)]
    simp only [Tr.kids, Nat.add_sub_cancel_left]
  · exact Option.some.inj ((ch_get (t := .el n ps) (List.getElem?_eq_some_iff.mp hi).1).symm.trans hi)
/-- an edit of a child is one of the root -/
theorem doW_in {e : Ed} {n : Str} {ps : List Tr} {i : Nat} {p p' : Tr} (hi : ps[i]? = some p) (h : e.doW p p') : (e.to (1 + Tr.sizes (ps.take i) + e.k)).doW (.el n ps) (.el n (ps.set i p')) := by
  obtain ⟨hw, hz, hc⟩ := wy_in (n := n) hi (doW_k h)
  have hg : ∀ u, (Tr.el n ps).go (i :: u) = p.go u := fun u => by
    show ((Tr.el n ps).ch i).go u = _
    rw [hc]
  have hp : ∀ u x, (Tr.el n ps).put (i :: u) x = .el n (ps.set i (p.put u x)) := fun u x => by rw [put_cons, hc]
  cases e with
  | ren k nn =>
    obtain ⟨hk, m, cs, h1, h2, rfl⟩ := h
    exact ⟨hz, m, cs, by rw [show (Ed.ren k nn).k = k from rfl] at *; rw [hw, hg, h1], h2, by rw [show (Ed.ren k nn).k = k from rfl] at *; rw [hw, hp]⟩
  | ret k s =>
    obtain ⟨hk, s0, h1, h2, rfl⟩ := h
    exact ⟨hz, s0, by rw [show (Ed.ret k s).k = k from rfl] at *; rw [hw, hg, h1], h2, by rw [show (Ed.ret k s).k = k from rfl] at *; rw [hw, hp]⟩
  | gra k pl x =>
    obtain ⟨hk, m, cs, h1, h2, h3, h4, rfl⟩ := h
    exact ⟨hz, m, cs, by rw [show (Ed.gra k pl x).k = k from rfl] at *; rw [hw, hg, h1], h2, h3, h4, by rw [show (Ed.gra k pl x).k = k from rfl] at *; rw [hw, hp]⟩
  | cut k =>
    obtain ⟨hk, u, c, m, cs, h1, h2, h3, rfl⟩ := h
    exact ⟨hz, i :: u, c, m, cs, by rw [show (Ed.cut k).k = k from rfl] at *; rw [hw, h1]; rfl, by rw [hg, h2], h3, by rw [hp]⟩
theorem ins_dl {cs : List Tr} {c : Nat} {x : Tr} (h : cs[c]? = some x) : ins (dl cs c) c x = cs := by
  have hc := (List.getElem?_eq_some_iff.mp h).1
  obtain ⟨_, e⟩ := List.getElem?_eq_some_iff.mp h
  unfold ins dl
  have hl : (cs.take c).length = c := by rw [List.length_take]; omega
  rw [List.take_append, hl, Nat.sub_self, List.take_zero, List.append_nil, List.drop_append, hl, Nat.sub_self, List.drop_zero, List.drop_of_length_le (by omega), List.nil_append, List.take_of_length_le (by omega), ← e, List.append_assoc]
  rw [List.singleton_append, List.getElem_cons_drop, List.take_append_drop]
theorem dl_ins {cs : List Tr} {c : Nat} {x : Tr} (h : c ≤ cs.length) : dl (ins cs c x) c = cs := by
  unfold ins dl
  have hl : (cs.take c).length = c := by rw [List.length_take]; omega
  rw [List.append_assoc, List.take_append, hl, Nat.sub_self, List.take_zero, List.append_nil, List.take_of_length_le (by omega), List.drop_append, hl, List.drop_of_length_le (by omega), Nat.add_sub_cancel_left]
  simp
/-- what takes an edit of a child back -/
theorem backs_in {e b : Ed} {n : Str} {ps : List Tr} {i : Nat} {p p' : Tr} (hi : ps[i]? = some p) (h : e.doW p p') (hg : p.good = true) (hb : (e.to (1 + Tr.sizes (ps.take i) + e.k)).backs (.el n ps) b) :
    ∃ b0 : Ed, b = b0.to (1 + Tr.sizes (ps.take i) + b0.k) ∧ b0.doW p' p := by
  have hk := doW_k h
  obtain ⟨hw, hz, hc⟩ := wy_in (n := n) hi hk
  have hgo : ∀ u, (Tr.el n ps).go (i :: u) = p.go u := fun u => by
    show ((Tr.el n ps).ch i).go u = _
    rw [hc]
  have hn := nodes_wy _ (Tr.el n ps) _ (Nat.le_refl _) hz
  rw [hw, hgo] at hn
  have hok := wy_ok (Nat.le_refl _) hk
  have hno := no_wy _ p _ (Nat.le_refl _) hk
  cases e with
  | ren k nn =>
    obtain ⟨_, m, cs, h1, h2, rfl⟩ := h
    obtain ⟨m', cs', hb1, rfl⟩ := hb
    rw [show (Ed.ren k nn).k = k from rfl] at *
    rw [hn, h1] at hb1
    cases hb1
    obtain ⟨i1, i2, i3, i4, i5, i6, _⟩ := put_ok (p.wy k) p (.el nn cs) hok
    obtain ⟨q1, q2⟩ := wy_no _ _ i1
    rw [i3, hno] at q1 q2
    have hgk := good_go _ _ hok hg
    rw [h1] at hgk
    refine ⟨.ren k m, rfl, q1, nn, cs, by rw [q2, i2], (good_el hgk).1, ?_⟩
    rw [q2, i4, ← h1, i6]
  | ret k s =>
    obtain ⟨_, s0, h1, h2, rfl⟩ := h
    obtain ⟨s', hb1, rfl⟩ := hb
    rw [show (Ed.ret k s).k = k from rfl] at *
    rw [hn, h1] at hb1
    cases hb1
    obtain ⟨i1, i2, i3, i4, i5, i6, _⟩ := put_ok (p.wy k) p (.tx s) hok
    obtain ⟨q1, q2⟩ := wy_no _ _ i1
    rw [i3, hno] at q1 q2
    have hgk := good_go _ _ hok hg
    rw [h1] at hgk
    refine ⟨.ret k s0, rfl, q1, s, by rw [q2, i2], hgk, ?_⟩
    rw [q2, i4, ← h1, i6]
  | gra k pl x =>
    obtain ⟨_, m, cs, h1, h2, h3, h4, rfl⟩ := h
    obtain ⟨m', cs', hb1, rfl⟩ := hb
    rw [show (Ed.gra k pl x).k = k from rfl] at *
    rw [hn, h1] at hb1
    cases hb1
    obtain ⟨i1, i2, i3, i4, i5, i6, _⟩ := put_ok (p.wy k) p (.el m (ins cs pl x)) hok
    have hgk := good_go _ _ hok hg
    rw [h1] at hgk
    have hlt : pl < (ins cs pl x).length := by
      simp only [ins, List.length_append, List.length_take, List.length_drop, List.length_cons, List.length_nil]; omega
    have ok2 : (p.put (p.wy k) (.el m (ins cs pl x))).ok (p.wy k ++ [pl]) := (ok_snoc _ _ _).mpr ⟨i1, by rw [i2]; exact hlt⟩
    obtain ⟨q1, q2⟩ := wy_no _ _ ok2
    have hnn : (p.put (p.wy k) (.el m (ins cs pl x))).no (p.wy k ++ [pl]) = k + 1 + Tr.sizes (cs.take pl) := by
      rw [no_app, i3, hno, i2]
      simp only [Tr.no, Tr.kids]
      have : (ins cs pl x).take pl = cs.take pl := by
        have hl : (cs.take pl).length = pl := by rw [List.length_take]; omega
        unfold ins
        rw [List.append_assoc, List.take_append, hl, Nat.sub_self, List.take_zero, List.append_nil, List.take_of_length_le (by omega)]
      rw [this]
      omega
    rw [hnn] at q1 q2
    refine ⟨.cut (k + 1 + Tr.sizes (cs.take pl)), ?_, q1, p.wy k, pl, m, ins cs pl x, q2, i2, by rw [dl_ins h2]; exact (good_el hgk).2, ?_⟩
    · show Ed.cut _ = Ed.cut _
      congr 1
      show 1 + Tr.sizes (ps.take i) + k + 1 + Tr.sizes (cs.take pl) = 1 + Tr.sizes (ps.take i) + (k + 1 + Tr.sizes (cs.take pl))
      omega
    · rw [dl_ins h2, i4, ← h1, i6]
  | cut k =>
    obtain ⟨_, u, c, m, cs, h1, h2, h3, rfl⟩ := h
    obtain ⟨pp, y, hb1, hb2, rfl⟩ := hb
    rw [show (Ed.cut k).k = k from rfl] at *
    rw [hn] at hb1
    cases hb1
    obtain ⟨c1, c2⟩ := cut_pth hz (u := i :: u) (c := c) (by rw [hw, h1]; rfl)
    rw [c1] at hb2
    cases hb2
    rw [c2]
    rw [h1] at hok
    obtain ⟨hu, hcc⟩ := (ok_snoc p u c).mp hok
    rw [h2] at hcc
    have hcc : c < cs.length := hcc
    obtain ⟨i1, i2, i3, i4, i5, i6, _⟩ := put_ok u p (.el m (dl cs c)) hu
    obtain ⟨q1, q2⟩ := wy_no _ _ i1
    rw [i3] at q1 q2
    have hgk := good_go _ _ hu hg
    rw [h2] at hgk
    have hxg := good_go _ _ hok hg
    have hxe : cs[c]? = some (p.go (u ++ [c])) := by
      rw [go_snoc, h2]
      exact ch_get (t := .el m cs) hcc
    rw [h1]
    refine ⟨.gra (p.no u) c (p.go (u ++ [c])), ?_, q1, m, dl cs c, by rw [q2, i2], ?_, hxg, by rw [ins_dl hxe]; exact (good_el hgk).2, ?_⟩
    · show Ed.gra _ _ _ = Ed.gra _ _ _
      congr 1
      simp only [Tr.no, Tr.kids, hc]
      rfl
    · simp only [dl, List.length_append, List.length_take, List.length_drop]; omega
    · rw [q2, ins_dl hxe, i4, ← h2, i6]
end K5
set_option Elab.async false
set_option linter.all false
set_option maxRecDepth 100000
set_option maxHeartbeats 4000000
namespace K5
open PySem PySem.Spec PyProof.Rows L2
/-! ### ways, in preorder, with their upward paths -/
mutual
def Tr.pre : Tr → List Way
  | .tx _ => [[]]
  | .el _ cs => [] :: Tr.pres 0 cs
def Tr.pres (j : Nat) : List Tr → List Way
  | [] => []
  | c :: cs => (c.pre).map (j :: ·) ++ Tr.pres (j + 1) cs
end
def Tr.up (nm : List Str) : Tr → List Nat → Way → List Nat
  | _, acc, [] => acc
  | t, acc, j :: w => (t.ch j).up nm (lab nm t :: acc) w
theorem up_snoc (nm : List Str) (j : Nat) : ∀ (u : Way) (t : Tr) (acc : List Nat), t.up nm acc (u ++ [j]) = lab nm (t.go u) :: t.up nm acc u
  | [], t, acc => rfl
  | i :: u, t, acc => up_snoc nm j u (t.ch i) (lab nm t :: acc)
theorem up_len (nm : List Str) : ∀ (u : Way) (t : Tr) (acc : List Nat), (t.up nm acc u).length = acc.length + u.length
  | [], t, acc => by simp [Tr.up]
  | i :: u, t, acc => by
    show ((t.ch i).up nm (lab nm t :: acc) u).length = _
    rw [up_len nm u]
    simp only [List.length_cons]
    omega
theorem pres_app : ∀ (as bs : List Tr) (j : Nat), Tr.pres j (as ++ bs) = Tr.pres j as ++ Tr.pres (j + as.length) bs
  | [], bs, j => by simp [Tr.pres]
  | a :: as, bs, j => by
    simp only [List.cons_append, Tr.pres, pres_app as bs (j + 1), List.append_assoc, List.length_cons]
    rw [show j + 1 + as.length = j + (as.length + 1) by omega]
theorem pres_mem : ∀ {cs : List Tr} {j : Nat} {w : Way}, w ∈ Tr.pres j cs ↔ ∃ i c v, cs[i]? = some c ∧ v ∈ c.pre ∧ w = (j + i) :: v
  | [], j, w => by simp [Tr.pres]
  | d :: cs, j, w => by
    simp only [Tr.pres, List.mem_append, List.mem_map, pres_mem (cs := cs) (j := j + 1)]
    constructor
    · rintro (⟨v, h, rfl⟩ | ⟨i, c, v, h1, h2, rfl⟩)
      · exact ⟨0, d, v, rfl, h, by simp⟩
      · exact ⟨i + 1, c, v, by simpa using h1, h2, by rw [show j + 1 + i = j + (i + 1) by omega]⟩
    · rintro ⟨i, c, v, h1, h2, rfl⟩
      cases i with
      | zero =>
        cases (Option.some.inj h1)
        exact .inl ⟨v, h2, by simp⟩
      | succ i => exact .inr ⟨i, c, v, by simpa using h1, h2, by rw [show j + 1 + i = j + (i + 1) by omega]⟩
theorem pre_mem : ∀ (w : Way) (t : Tr), w ∈ t.pre ↔ t.ok w
  | [], t => by cases t <;> simp [Tr.pre, Tr.ok]
  | j :: w, .tx s => by simp [Tr.pre, Tr.ok, Tr.kids]
  | j :: w, .el n cs => by
    have e : (j :: w ∈ (Tr.el n cs).pre) ↔ j :: w ∈ Tr.pres 0 cs := by simp [Tr.pre]
    rw [e, pres_mem]
    constructor
    · rintro ⟨i, c, v, h1, h2, h3⟩
      rw [Nat.zero_add] at h3
      injection h3 with h3 h4
      subst h3 h4
      have hj := (List.getElem?_eq_some_iff.mp h1).1
      have hc : (Tr.el n cs).ch j = c := Option.some.inj ((ch_get (t := .el n cs) hj).symm.trans h1)
      exact ⟨hj, by rw [hc]; exact (pre_mem w c).mp h2⟩
    · rintro ⟨hj, hw⟩
      exact ⟨j, _, w, ch_get (t := .el n cs) hj, (pre_mem w _).mpr hw, by rw [Nat.zero_add]⟩
theorem cons_lt {a b : Nat} {l m : List Nat} : a :: l < b :: m ↔ a < b ∨ a = b ∧ l < m := List.cons_lt_cons_iff
mutual
theorem pre_lt : ∀ t : Tr, t.pre.Pairwise (· < ·)
  | .tx _ => by simp [Tr.pre]
  | .el _ cs => by
    simp only [Tr.pre]
    refine List.pairwise_cons.mpr ⟨fun w hw => ?_, pres_lt 0 cs⟩
    obtain ⟨i, c, v, _, _, rfl⟩ := pres_mem.mp hw
    exact List.nil_lt_cons _ _
theorem pres_lt : ∀ (j : Nat) (cs : List Tr), (Tr.pres j cs).Pairwise (· < ·)
  | j, [] => by simp [Tr.pres]
  | j, c :: cs => by
    simp only [Tr.pres]
    refine List.pairwise_append.mpr ⟨?_, pres_lt (j + 1) cs, fun a ha b hb => ?_⟩
    · rw [List.pairwise_map]
      exact (pre_lt c).imp fun h => cons_lt.mpr (.inr ⟨rfl, h⟩)
    · obtain ⟨v, _, rfl⟩ := List.mem_map.mp ha
      obtain ⟨i, c', v', _, _, rfl⟩ := pres_mem.mp hb
      exact cons_lt.mpr (.inl (by omega))
end
mutual
theorem pre_len : ∀ t : Tr, t.pre.length = t.size
  | .tx _ => rfl
  | .el _ cs => by simp only [Tr.pre, List.length_cons, Tr.size, pres_len 0 cs]; omega
theorem pres_len : ∀ (j : Nat) (cs : List Tr), (Tr.pres j cs).length = Tr.sizes cs
  | j, [] => rfl
  | j, c :: cs => by simp only [Tr.pres, List.length_append, List.length_map, Tr.sizes, pre_len c, pres_len (j + 1) cs]
end
/-- the key of a way -/
def upI (r : Tr) (nm : List Str) (w : Way) : List Int := (r.up nm [] w).map fun x => ((x : Nat) : Int)
def leW (r : Tr) (nm : List Str) (a b : Way) : Bool := decide (upI r nm a ≤ upI r nm b)
def ordS (r : Tr) (nm : List Str) : List Way := r.pre.mergeSort (leW r nm)
section
variable {r : Tr} {nm : List Str}
theorem leW_trans (a b c : Way) (h : leW r nm a b = true) (k : leW r nm b c = true) : leW r nm a c = true := by
  simp only [leW, decide_eq_true_eq] at *
  exact List.le_trans h k
theorem leW_total (a b : Way) : (leW r nm a b || leW r nm b a) = true := by
  simp only [leW, Bool.or_eq_true, decide_eq_true_eq]
  exact List.le_total _ _
theorem ordS_perm : (ordS r nm).Perm r.pre := List.mergeSort_perm _ _
theorem ordS_mem (w : Way) : w ∈ ordS r nm ↔ r.ok w := by rw [ordS_perm.mem_iff, pre_mem]
theorem ordS_nodup : (ordS r nm).Nodup := by
  rw [ordS_perm.nodup_iff]
  exact (pre_lt r).imp fun {a b} h e => by rw [e] at h; exact List.lt_irrefl _ h
/-- the order of the rows -/
def ltS (r : Tr) (nm : List Str) (a b : Way) : Prop := upI r nm a < upI r nm b ∨ upI r nm a = upI r nm b ∧ a < b
theorem ltS_asymm {a b : Way} (h : ltS r nm a b) (k : ltS r nm b a) : False := by
  rcases h with h | ⟨h1, h2⟩
  · rcases k with k | ⟨k1, k2⟩
    · exact List.lt_irrefl _ (List.lt_trans h k)
    · rw [k1] at h; exact List.lt_irrefl _ h
  · rcases k with k | ⟨k1, k2⟩
    · rw [h1] at k; exact List.lt_irrefl _ k
    · exact List.lt_irrefl _ (List.lt_trans h2 k2)
theorem two_sub {α : Type} : ∀ {l : List α} {a b : α}, l.Nodup → List.Sublist [a, b] l → List.Sublist [b, a] l → False
  | [], a, b, _, h, _ => by cases h
  | x :: l, a, b, n, h, k => by
    obtain ⟨n1, n2⟩ := List.nodup_cons.mp n
    cases h with
    | cons _ h =>
      cases k with
      | cons _ k => exact two_sub n2 h k
      | cons_cons _ k => exact n1 (h.subset (by simp))
    | cons_cons _ h =>
      have hb : b ∈ l := h.subset (by simp)
      cases k with
      | cons _ k => exact n1 (k.subset (by simp))
      | cons_cons _ k => exact n1 hb
theorem sub_of_lt {α : Type} {R : α → α → Prop} (as : ∀ a b, R a b → R b a → False) (ir : ∀ a, ¬ R a a) : ∀ {l : List α} {x y : α}, l.Pairwise R → x ∈ l → y ∈ l → R x y → List.Sublist [x, y] l
  | z :: l, x, y, p, hx, hy, h => by
    obtain ⟨p1, p2⟩ := List.pairwise_cons.mp p
    rcases List.mem_cons.mp hx with rfl | hx'
    · rcases List.mem_cons.mp hy with rfl | hy'
      · exact absurd h (ir _)
      · exact List.Sublist.cons_cons _ (List.singleton_sublist.mpr hy')
    · rcases List.mem_cons.mp hy with rfl | hy'
      · exact (as _ _ h (p1 x hx')).elim
      · exact List.Sublist.cons _ (sub_of_lt as ir p2 hx' hy' h)
theorem way_tri (a b : Way) : a < b ∨ a = b ∨ b < a := by
  by_cases h : a < b
  · exact .inl h
  · by_cases k : b < a
    · exact .inr (.inr k)
    · exact .inr (.inl (List.le_antisymm (List.not_lt.mp k) (List.not_lt.mp h)))
theorem int_tri (a b : List Int) (h : a ≤ b) : a < b ∨ a = b := by
  by_cases k : a < b
  · exact .inl k
  · exact .inr (List.le_antisymm h (List.not_lt.mp k))
theorem ordS_lt : (ordS r nm).Pairwise (ltS r nm) := by
  have hs : (ordS r nm).Pairwise fun a b => leW r nm a b = true := List.pairwise_mergeSort leW_trans leW_total _
  refine List.pairwise_iff_forall_sublist.mpr fun {a b} h => ?_
  have hle := List.pairwise_iff_forall_sublist.mp hs h
  have hle' : upI r nm a ≤ upI r nm b := by simpa [leW] using hle
  rcases int_tri _ _ hle' with k | k
  · exact .inl k
  · have ha : a ∈ r.pre := ordS_perm.mem_iff.mp (h.subset (by simp))
    have hb : b ∈ r.pre := ordS_perm.mem_iff.mp (h.subset (by simp))
    have hne : a ≠ b := fun e => by
      have := List.pairwise_iff_forall_sublist.mp (ordS_nodup (r := r) (nm := nm)) h
      exact this e
    rcases way_tri a b with t | t | t
    · exact .inr ⟨k, t⟩
    · exact absurd t hne
    · have s1 := sub_of_lt (fun a b h k => List.lt_irrefl _ (List.lt_trans h k)) (fun a => List.lt_irrefl a) (pre_lt r) hb ha t
      have s2 : List.Sublist [b, a] (ordS r nm) := List.pair_sublist_mergeSort leW_trans leW_total (by simp [leW, k]) s1
      exact (two_sub ordS_nodup h s2).elim
theorem uniq_sorted {α : Type} {R : α → α → Prop} (as : ∀ a b, R a b → R b a → False) : ∀ {l m : List α}, l.Pairwise R → m.Pairwise R → (∀ x, x ∈ l ↔ x ∈ m) → l = m
  | [], [], _, _, _ => rfl
  | [], y :: m, _, _, h => by have := (h y).mpr (List.mem_cons_self ..); cases this
  | x :: l, [], _, _, h => by have := (h x).mp (List.mem_cons_self ..); cases this
  | x :: l, y :: m, hl, hm, h => by
    obtain ⟨l1, l2⟩ := List.pairwise_cons.mp hl
    obtain ⟨m1, m2⟩ := List.pairwise_cons.mp hm
    have irr : ∀ a, ¬ R a a := fun a k => as _ _ k k
    have e : x = y := by
      rcases List.mem_cons.mp ((h x).mp (List.mem_cons_self ..)) with e | e
      · exact e
      · rcases List.mem_cons.mp ((h y).mpr (List.mem_cons_self ..)) with e2 | e2
        · exact e2.symm
        · exact (as _ _ (m1 x e) (l1 y e2)).elim
    subst e
    refine congrArg _ (uniq_sorted as l2 m2 fun z => ?_)
    constructor
    · intro hz
      rcases List.mem_cons.mp ((h z).mp (List.mem_cons_of_mem _ hz)) with e | e
      · rw [e] at hz; exact (irr _ (l1 _ hz)).elim
      · exact e
    · intro hz
      rcases List.mem_cons.mp ((h z).mpr (List.mem_cons_of_mem _ hz)) with e | e
      · rw [e] at hz; exact (irr _ (m1 _ hz)).elim
      · exact e
theorem snoc_lt {i j : Nat} : ∀ {u v : Way}, u.length = v.length → u < v → u ++ [i] < v ++ [j]
  | [], [], _, h => absurd h (List.lt_irrefl _)
  | [], _ :: _, e, _ => by simp at e
  | _ :: _, [], e, _ => by simp at e
  | a :: u, b :: v, e, h => by
    rcases cons_lt.mp h with q | ⟨q1, q2⟩
    · exact cons_lt.mpr (.inl q)
    · exact cons_lt.mpr (.inr ⟨q1, snoc_lt (by simpa using e) q2⟩)
theorem snoc_lt_same {i j : Nat} (h : i < j) : ∀ u : Way, u ++ [i] < u ++ [j]
  | [] => cons_lt.mpr (.inl h)
  | a :: u => cons_lt.mpr (.inr ⟨rfl, snoc_lt_same h u⟩)
theorem upI_snoc (u : Way) (j : Nat) : upI r nm (u ++ [j]) = ((lab nm (r.go u) : Nat) : Int) :: upI r nm u := by
  rw [upI, up_snoc]; rfl
theorem upI_len (u : Way) : (upI r nm u).length = u.length := by rw [upI, List.length_map, up_len]; simp
theorem icons_lt {a b : Int} {l m : List Int} : a :: l < b :: m ↔ a < b ∨ a = b ∧ l < m := List.cons_lt_cons_iff
/-- the kids of families stand in order -/
theorem kid_ltS {u v : Way} {i j : Nat} (h : lab nm (r.go u) < lab nm (r.go v) ∨ lab nm (r.go u) = lab nm (r.go v) ∧ ltS r nm u v) : ltS r nm (u ++ [i]) (v ++ [j]) := by
  unfold ltS
  rw [upI_snoc, upI_snoc]
  rcases h with h | ⟨h1, h2 | ⟨h2, h3⟩⟩
  · exact .inl (icons_lt.mpr (.inl (by omega)))
  · exact .inl (icons_lt.mpr (.inr ⟨by rw [h1], h2⟩))
  · refine .inr ⟨by rw [h1, h2], snoc_lt ?_ h3⟩
    rw [← upI_len (r := r) (nm := nm), ← upI_len (r := r) (nm := nm), h2]
theorem fam_pw {S : List Way} (hS : S.Pairwise (ltS r nm)) : (fam r nm S).Pairwise fun u v => lab nm (r.go u) < lab nm (r.go v) ∨ lab nm (r.go u) = lab nm (r.go v) ∧ ltS r nm u v := by
  unfold fam
  have hr : ∀ n, ((List.range n).flatMap fun l => famL r nm S (l + 1)).Pairwise (fun u v => lab nm (r.go u) < lab nm (r.go v) ∨ lab nm (r.go u) = lab nm (r.go v) ∧ ltS r nm u v) := by
    intro n
    induction n with
    | zero => simp
    | succ n ih =>
      rw [List.range_succ, List.flatMap_append]
      refine List.pairwise_append.mpr ⟨ih, ?_, fun a ha b hb => ?_⟩
      · rw [List.flatMap_singleton]
        have hf := hS.sublist (List.filter_sublist (p := isL r nm (n + 1)) (l := S))
        refine List.Pairwise.imp_of_mem (fun {u v} hu hv h => ?_) hf
        have h1 := (List.mem_filter.mp hu).2
        have h2 := (List.mem_filter.mp hv).2
        simp only [isL, Bool.and_eq_true, beq_iff_eq] at h1 h2
        exact .inr ⟨h1.1.trans h2.1.symm, h⟩
      · obtain ⟨l, hl, ha⟩ := List.mem_flatMap.mp ha
        rw [List.flatMap_singleton] at hb
        have h1 := (List.mem_filter.mp ha).2
        have h2 := (List.mem_filter.mp hb).2
        simp only [isL, Bool.and_eq_true, beq_iff_eq] at h1 h2
        have := List.mem_range.mp hl
        exact .inl (by omega)
  exact hr _
theorem fams_pw : ∀ F : List Way, F.Pairwise (fun u v => lab nm (r.go u) < lab nm (r.go v) ∨ lab nm (r.go u) = lab nm (r.go v) ∧ ltS r nm u v) → (F.flatMap (kidsW r)).Pairwise (ltS r nm)
  | [], _ => by simp
  | u :: F, h => by
    obtain ⟨h1, h2⟩ := List.pairwise_cons.mp h
    rw [List.flatMap_cons]
    refine List.pairwise_append.mpr ⟨?_, fams_pw F h2, fun a ha b hb => ?_⟩
    · unfold kidsW
      rw [List.pairwise_map]
      refine List.pairwise_lt_range.imp fun {i j} hij => ?_
      exact .inr ⟨by rw [upI_snoc, upI_snoc], snoc_lt_same hij u⟩
    · obtain ⟨i, _, rfl⟩ := List.mem_map.mp ha
      obtain ⟨v, hv, hb⟩ := List.mem_flatMap.mp hb
      obtain ⟨j, _, rfl⟩ := List.mem_map.mp hb
      exact kid_ltS (h1 v hv)
theorem ordS_ord (named : ∀ w, r.ok w → ∀ n cs, r.go w = .el n cs → n ∈ nm) (names : ∀ n ∈ nm, ∃ w, r.ok w ∧ ∃ cs, r.go w = .el n cs) (asc : nm.Pairwise sLt) : Ord r nm (ordS r nm) := by
  refine ⟨uniq_sorted (fun a b => ltS_asymm) ordS_lt ?_ fun w => ?_, ordS_nodup, fun w h => (ordS_mem w).mp h, fun w h => (ordS_mem w).mpr h, fun w h => named w ((ordS_mem w).mp h), fun n hn => ?_, asc⟩
  · refine List.pairwise_cons.mpr ⟨fun w hw => ?_, fams_pw _ (fam_pw ordS_lt)⟩
    obtain ⟨u, _, hw⟩ := List.mem_flatMap.mp hw
    obtain ⟨j, _, rfl⟩ := List.mem_map.mp hw
    left
    rw [upI_snoc]
    exact List.nil_lt_cons _ _
  · rw [ordS_mem]
    constructor
    · intro hw
      rcases List.eq_nil_or_concat w with rfl | ⟨u, j, rfl⟩
      · exact List.mem_cons_self ..
      · rw [List.concat_eq_append] at *
        obtain ⟨hu, hj⟩ := (ok_snoc r u j).mp hw
        refine List.mem_cons_of_mem _ (List.mem_flatMap.mpr ⟨u, ?_, List.mem_map.mpr ⟨j, List.mem_range.mpr hj, rfl⟩⟩)
        have hfl : (r.go u).fl = true := fl_iff.mpr (by omega)
        cases e : r.go u with
        | tx s => rw [e] at hj; simp [Tr.kids] at hj
        | el n cs =>
          have hn := named u hu n cs e
          have hi := List.idxOf_lt_length_of_mem hn
          refine List.mem_flatMap.mpr ⟨nm.idxOf n, List.mem_range.mpr hi, List.mem_filter.mpr ⟨(ordS_mem u).mpr hu, ?_⟩⟩
          simp only [isL, Bool.and_eq_true, beq_iff_eq]
          refine ⟨?_, hfl⟩
          rw [e]
          show 1 + nm.idxOf n = _
          omega
    · intro hw
      rcases List.mem_cons.mp hw with rfl | hw
      · trivial
      · obtain ⟨u, hu, hw⟩ := List.mem_flatMap.mp hw
        obtain ⟨j, hj, rfl⟩ := List.mem_map.mp hw
        exact (ok_snoc r u j).mpr ⟨(ordS_mem u).mp (fam_mem hu).1, List.mem_range.mp hj⟩
  · obtain ⟨w, hw, cs, e⟩ := names n hn
    exact ⟨w, (ordS_mem w).mpr hw, cs, e⟩
end
end K5
set_option Elab.async false
set_option linter.all false
set_option maxRecDepth 100000
set_option maxHeartbeats 4000000
namespace K5
open PySem PySem.Spec PyProof.Rows L2
/-! ### the names in a tree -/
mutual
def Tr.nms : Tr → List Str
  | .tx _ => []
  | .el n cs => n :: Tr.nmss cs
def Tr.nmss : List Tr → List Str
  | [] => []
  | t :: ts => t.nms ++ Tr.nmss ts
end
theorem nmss_app : ∀ (as bs : List Tr), Tr.nmss (as ++ bs) = Tr.nmss as ++ Tr.nmss bs
  | [], bs => by simp [Tr.nmss]
  | a :: as, bs => by simp only [List.cons_append, Tr.nmss, nmss_app as bs, List.append_assoc]
theorem nmss_mem : ∀ {cs : List Tr} {k : Str}, k ∈ Tr.nmss cs ↔ ∃ c ∈ cs, k ∈ c.nms
  | [], k => by simp [Tr.nmss]
  | c :: cs, k => by simp [Tr.nmss, nmss_mem (cs := cs)]
/-- the names are those of the elements -/
theorem nms_go : ∀ (w : Way) (t : Tr), t.ok w → ∀ n cs, t.go w = .el n cs → n ∈ t.nms
  | [], t, _, n, cs, e => by
    have e : t = .el n cs := e
    rw [e]; simp [Tr.nms]
  | j :: w, .tx s, h, n, cs, e => by simp [Tr.ok, Tr.kids] at h
  | j :: w, .el m ds, h, n, cs, e => by
    have := nms_go w _ h.2 n cs e
    exact List.mem_cons_of_mem _ (nmss_mem.mpr ⟨_, List.mem_of_getElem? (ch_get (t := .el m ds) h.1), this⟩)
mutual
theorem nms_of : ∀ (t : Tr) (k : Str), k ∈ t.nms → ∃ w, t.ok w ∧ ∃ cs, t.go w = .el k cs
  | .tx s, k, h => by simp [Tr.nms] at h
  | .el n cs, k, h => by
    rcases List.mem_cons.mp h with rfl | h
    · exact ⟨[], trivial, cs, rfl⟩
    · obtain ⟨j, w, hj, hw, ds, e⟩ := nmss_of cs k h
      have hc := ch_get (t := .el n cs) (j := j) (by
        have := (List.getElem?_eq_some_iff.mp hj).1
        exact this)
      have ec : (Tr.el n cs).ch j = cs.getD j (.tx Str.empty) := rfl
      have e2 : cs.getD j (.tx Str.empty) = _ := rfl
      rw [show cs[j]? = (Tr.el n cs).kids[j]? from rfl, hc] at hj
      refine ⟨j :: w, ⟨(List.getElem?_eq_some_iff.mp hc).1, ?_⟩, ds, ?_⟩
      · rw [Option.some.inj hj]; exact hw
      · show ((Tr.el n cs).ch j).go w = _
        rw [Option.some.inj hj]; exact e
theorem nmss_of : ∀ (ts : List Tr) (k : Str), k ∈ Tr.nmss ts → ∃ j w, ∃ (hj : ts[j]? = some (ts.getD j (.tx Str.empty))), (ts.getD j (.tx Str.empty)).ok w ∧ ∃ cs, (ts.getD j (.tx Str.empty)).go w = .el k cs
  | [], k, h => by simp [Tr.nmss] at h
  | t :: ts, k, h => by
    rcases List.mem_append.mp h with h | h
    · obtain ⟨w, hw, cs, e⟩ := nms_of t k h
      exact ⟨0, w, rfl, hw, cs, e⟩
    · obtain ⟨j, w, hj, hw, cs, e⟩ := nmss_of ts k h
      exact ⟨j + 1, w, by simpa using hj, hw, cs, e⟩
end
def nmK (ks : List Str) : List (Key × V) := ks.map fun k => ((Sum.inr k : Key), V.bl true)
def addN (ks : List Str) (k : Str) : List Str := if k ∈ ks then ks else ks ++ [k]
def mergeN (ks more : List Str) : List Str := more.foldl addN ks
theorem putK_nm (ks : List Str) (k : Str) : putK (nmK ks) (.inr k) (.bl true) = nmK (addN ks k) := by
  unfold putK addN
  by_cases h : k ∈ ks
  · rw [if_pos, if_pos h]
    · unfold nmK
      rw [List.map_map]
      refine List.map_congr_left fun x _ => ?_
      simp only [Function.comp]
      split <;> rfl
    · simp only [nmK, List.any_map, List.any_eq_true, Function.comp, decide_eq_true_eq]
      exact ⟨k, h, rfl⟩
  · rw [if_neg, if_neg h]
    · simp [nmK]
    · simp only [nmK, List.any_map, List.any_eq_true, Function.comp, decide_eq_true_eq]
      rintro ⟨x, hx, e⟩
      injection e with e
      exact h (e ▸ hx)
theorem mergeK_nm : ∀ (more ks : List Str), mergeK (nmK ks) (nmK more) = nmK (mergeN ks more)
  | [], ks => rfl
  | k :: more, ks => by
    show mergeK (putK (nmK ks) (.inr k) (.bl true)) (nmK more) = _
    rw [putK_nm, mergeK_nm more]
    rfl
theorem addN_mem {ks : List Str} {k x : Str} : x ∈ addN ks k ↔ x ∈ ks ∨ x = k := by
  unfold addN
  split
  · rename_i h
    exact ⟨.inl, fun q => q.elim id fun e => e ▸ h⟩
  · simp
theorem addN_nodup {ks : List Str} {k : Str} (h : ks.Nodup) : (addN ks k).Nodup := by
  unfold addN
  split
  · exact h
  · rename_i hk
    exact List.nodup_append.mpr ⟨h, by simp, fun a ha b hb => by rw [List.mem_singleton.mp hb]; exact fun e => hk (e ▸ ha)⟩
theorem mergeN_all : ∀ (more ks : List Str), ks.Nodup → (mergeN ks more).Nodup ∧ (∀ x, x ∈ mergeN ks more ↔ x ∈ ks ∨ x ∈ more) ∧ (mergeN ks more).length ≤ ks.length + more.length
  | [], ks, h => ⟨h, fun x => by simp [mergeN], by simp [mergeN]⟩
  | k :: more, ks, h => by
    obtain ⟨h1, h2, h3⟩ := mergeN_all more (addN ks k) (addN_nodup h)
    refine ⟨h1, fun x => ?_, ?_⟩
    · show x ∈ mergeN (addN ks k) more ↔ _
      rw [h2, addN_mem, List.mem_cons, or_assoc]
    · show (mergeN (addN ks k) more).length ≤ _
      have : (addN ks k).length ≤ ks.length + 1 := by unfold addN; split <;> simp
      simp only [List.length_cons]
      omega
def spNmsIn (n : Nat) : Sp := fun vs H Q _ => ∃ (G : Hp) (t : Tr) (v : V), vs = [v] ∧ Same G H ∧ IsT G t v ∧ t.size ≤ 10000 ∧ t.depth ≤ n ∧ ∀ p ks H', Same H H' → H p = none → H' p = some (.dK (nmK ks)) → ks.Nodup → (∀ k, k ∈ ks ↔ k ∈ t.nms) → ks.length ≤ t.size → Q (.ref p) H'
section
variable {P : Program} {w : World} {K : PySem.W.Frag} {mg : Str → Option Value} {base : Heap} {k : Nat}
theorem sc_names_in : FnScope ["tree", "found", "child"] ["tree"] (defScope s_names_in) := ⟨rfl, rfl, rfl, by decide +kernel, rfl, by decide +kernel, by decide +kernel⟩
theorem hd_names_in (D : Df K mg "names_in" s_names_in) (T : Tx K mg) : ∀ n : Nat, Hd P w K mg base "names_in" ["tree"] (k + n) (spNmsIn n)
  | 0 => by
    refine hd_vac D (fun _ _ _ _ _ _ us hl => match us, hl with | [_], _ => rfl) fun vs H Q E h => ?_
    obtain ⟨G, t, v, _, _, _, _, hd, _⟩ := h
    have := t.depth_pos
    omega
  | n + 1 => by
    have h_names_in := hd_names_in D T n
    refine hd_mk (k := k + n) D sc_names_in (fun _ _ _ _ _ _ us hl => match us, hl with | [_], _ => rfl) (fun vs H Q E h => ?_) (fun f cdv A outer s H vs Q E hr h => ?_)
    · obtain ⟨G, t, v, rfl, _⟩ := h; rfl
    obtain ⟨G, t, v, rfl, sg, ht, hz, hd, q⟩ := h
    refine ⟨_, (pss_cons (ps_if (pt_val (pe_callB call_isi (by rfl) T.isinstance (by decide +kernel) (pa_cons (pv 0) (pa_cons (pe_bltn (v := .ty "str") (by rfl) T.str (by decide +kernel) rfl) pa_nil))))
      (pss_one (ps_ret pe_dnewK))
      pss_nil)
    (pss_cons (ps_set (i := 1) sc_names_in.nd rfl (Or.inl rfl) (pe_disp (pps_cons (pe_ix ix_tup (pv 0) pe_int (fun _ _ => rfl)) pe_bl pps_nil) (by rfl) (by rfl) (fun z => by cases z) (by decide)))
    (pss_cons (ps_for PassesOwn.never rfl (pi_list (pe_ix ix_tup (pv 0) pe_int (fun _ _ => rfl))) (pg_name (i := 2) sc_names_in.nd rfl (Or.inl rfl))
      (pss_one (ps_expr (pe_bm PySem.F.plainAttrs_dict PySem.F.slot_dict_update PySem.F.type_dict_update mt_dupdate (pv 1) (pa_cons (pe_hd h_names_in hr rfl (pa_cons (pv 2) pa_nil)) pa_nil)))))
    (pss_one (ps_ret (pv 1)))))), ?_⟩
    obtain ⟨y, ty, kt⟩ := ht.ty sg (K := K)
    refine ⟨_, rfl, _, _, _, _, _, rfl, .ty "str", ty, kt, _, rfl, ?_⟩
    cases t with
    | tx z => exact iteT fun p np => q p [] _ (Same.up np) np upd_same .nil (fun k => by simp [Tr.nms]) (Nat.zero_le _)
    | el m cs =>
      obtain ⟨a, lc, ws, rfl, h1, h2, h3⟩ := ht
      refine iteF fun p np => ?_
      have u0 : Same H (upd H p (.dK [])) := Same.up np
      refine ⟨_, rfl, a, _, _, _, rfl, rfl, SqT.of (u0 _ _ (sg _ _ h1)), at_0, upd_same, [(.inr m, .bl true)], rfl, by show 1 ≤ 15; decide, ?_⟩
      have e0 : upd (upd H p (.dK [])) p (.dK (mergeK [] [((.inr m : Key), .bl true)])) = upd H p (.dK (nmK [m])) := by
        rw [upd_upd]
        rfl
      rw [e0]
      have u1 : Same H (upd H p (.dK (nmK [m]))) := Same.up np
      have hzz := hz
      simp only [Tr.size] at hzz
      simp only [Tr.depth] at hd
      refine ⟨_, rfl, a, _, _, _, rfl, rfl, SqT.of (u1 _ _ (sg _ _ h1)), at_1, lc, rfl, ⟨_, SqL.of (u1 _ _ (sg _ _ h2))⟩, for_it (walk_list (xs := ws)) (fun i σ H2 => ∃ (x2 : Option V) (ks : List Str), σ = [some (.ref a), some (.ref p), x2] ∧ Same H H2 ∧ H2 p = some (.dK (nmK ks)) ∧ ks.Nodup ∧ (∀ x, x ∈ ks ↔ x ∈ m :: Tr.nmss (cs.take i)) ∧ ks.length ≤ 1 + Tr.sizes (cs.take i))
        ⟨none, [m], rfl, u1, upd_same, by simp, fun x => by simp [Tr.nmss], by simp⟩ (fun i σ H2 _ ⟨_, _, _, s2, _⟩ => SqL.of (s2 _ _ (sg _ _ h2))) ?_ ?_⟩
      · rintro i y σ H2 H3 hi ⟨x2, ks, rfl, s2, hp2, nd, hm, hl⟩ ⟨rfl, hy⟩
        obtain ⟨c, hc, hcy⟩ := h3.at_ hy
        have hcs := take_le hc
        have hcd := depths_get hc
        have hts := take_sizes_succ hc
        refine ⟨_, rfl, .inr (.inr (.inl ⟨rfl, .inl ⟨_, hp2⟩⟩)), _, rfl, G, c, y, rfl, sg.trans s2, hcy, by omega, by omega, fun p' ks' H4 s4 np' hp' nd' hm' hl' => ?_⟩
        have hp4 := s4 _ _ hp2
        obtain ⟨m1, m2, m3⟩ := mergeN_all ks' ks nd
        refine ⟨p, p', _, _, rfl, rfl, ne_of_none hp2 np', hp4, hp', ?_, some y, mergeN ks ks', rfl, fun b o e => ?_, by rw [upd_same, mergeK_nm], m1, fun x => ?_, by omega⟩
        · have := c.size_pos
          simp only [nmK, List.length_map]
          exact small (by omega)
        · rw [upd_ne (ne_of_none e np)]
          exact s4 _ _ (s2 _ _ e)
        · have hti : cs.take (i + 1) = cs.take i ++ [c] := by rw [List.take_succ, hc]; rfl
          rw [m2, hm, hm', hti, nmss_app]
          simp [Tr.nmss, or_assoc]
      · rintro σ H2 ⟨x2, ks, rfl, s2, hp2, nd, hm, hl⟩
        have e : cs.take ws.length = cs := List.take_of_length_le (by rw [h3.len]; exact Nat.le_refl _)
        rw [e] at hm hl
        exact ⟨_, rfl, q p ks H2 s2 np hp2 nd hm hl⟩
end
end K5
set_option Elab.async false
set_option linter.all false
set_option maxRecDepth 100000
set_option maxHeartbeats 4000000
namespace K5
open PySem PySem.Spec PyProof.Rows L2
abbrev cGa (K : PySem.W.Frag) : Addr := He.ga K "Gatherer"
abbrev cRw (K : PySem.W.Frag) : Addr := He.ga K "Rows"
def lstb (t : Tr) (b : Bool) (w : Way) : Nat := if w = [] then (if b then 1 else 0) else lst t w
def RN (nm : List Str) (t : Tr) (acc : List Nat) (b : Bool) (G : Hp) (w : Way) (y : V) : Prop := ∃ p q : Addr, y = .ref p ∧ G p = some (.tup [.ref q, nV (lab nm (t.go w)), nV (lstb t b w), nV (nfl (t.go w)), textV (t.go w)]) ∧ G q = some (.lst (vN (t.up nm acc w)))
theorem RN.mono {nm : List Str} {t : Tr} {acc : List Nat} {b : Bool} {G G' : Hp} {w : Way} {y : V} (s : Same G G') (h : RN nm t acc b G w y) : RN nm t acc b G' w y := by
  obtain ⟨p, q, e, h1, h2⟩ := h
  exact ⟨p, q, e, s _ _ h1, s _ _ h2⟩
theorem lst_cons {n : Str} {cs : List Tr} {i : Nat} {c : Tr} (hc : cs[i]? = some c) (w : Way) : lst (.el n cs) (i :: w) = lstb c (decide (i + 1 = cs.length)) w := by
  have hj := (List.getElem?_eq_some_iff.mp hc).1
  have e : (Tr.el n cs).ch i = c := Option.some.inj ((ch_get (t := .el n cs) hj).symm.trans hc)
  cases w with
  | nil =>
    unfold lstb lst
    simp [Tr.go, Tr.kids]
  | cons j w =>
    unfold lstb
    rw [if_neg (List.cons_ne_nil _ _)]
    unfold lst
    rw [if_neg (List.cons_ne_nil _ _), if_neg (List.cons_ne_nil _ _)]
    show (if (j :: w).getLastD 0 + 1 = (((Tr.el n cs).ch i).go (j :: w).dropLast).kids.length then _ else _) = _
    rw [e]
theorem RN.kid {nm : List Str} {n : Str} {cs : List Tr} {acc : List Nat} {b : Bool} {G : Hp} {i : Nat} {c : Tr} {w : Way} {y : V} (hc : cs[i]? = some c) (h : RN nm c (lab nm (.el n cs) :: acc) (decide (i + 1 = cs.length)) G w y) : RN nm (.el n cs) acc b G (i :: w) y := by
  have hj := (List.getElem?_eq_some_iff.mp hc).1
  have e : (Tr.el n cs).ch i = c := Option.some.inj ((ch_get (t := .el n cs) hj).symm.trans hc)
  obtain ⟨p, q, e1, h1, h2⟩ := h
  refine ⟨p, q, e1, ?_, ?_⟩
  · show G p = some (.tup [.ref q, nV (lab nm (((Tr.el n cs).ch i).go w)), nV (lstb (.el n cs) b (i :: w)), nV (nfl (((Tr.el n cs).ch i).go w)), textV (((Tr.el n cs).ch i).go w)])
    rw [e, h1]
    show _ = some (HO.tup [_, _, nV (if i :: w = [] then _ else lst (.el n cs) (i :: w)), _, _])
    rw [if_neg (by simp), lst_cons hc]
  · show G q = some (.lst (vN (((Tr.el n cs).ch i).up nm (lab nm (.el n cs) :: acc) w)))
    rw [e, h2]
theorem Al.mapL {α β : Type} {R : β → V → Prop} {f : α → β} {xs : List α} {ys : List V} (h : Al (fun x y => R (f x) y) xs ys) : Al R (xs.map f) ys := by
  refine ⟨by rw [List.length_map]; exact h.1, fun i x e => ?_⟩
  rw [List.getElem?_map] at e
  cases q : xs[i]? with
  | none => rw [q] at e; cases e
  | some z =>
    rw [q] at e
    cases e
    exact h.2 i z q
def spGathI (K : PySem.W.Frag) : Sp := fun vs H Q _ => ∃ (G : Hp) (a dx na : Addr), vs = [.ref a, .ref na] ∧ Same G H ∧ G a = none ∧ H a = some (.ins (cGa K) dx []) ∧
  ∀ no H', Gr (· = a) G H G H' → H' a = some (.ins (cGa K) dx (fGatherer (.ref na) (.ref no))) → H' no = some (.lst []) → H no = none → Q .non H'
def spGath (K : PySem.W.Frag) (n : Nat) : Sp := fun vs H Q _ => ∃ (G : Hp) (t : Tr) (v : V) (nm : List Str) (acc : List Nat) (b : Bool) (a dx na no up : Addr) (ds : List V), vs = [.ref a, v, .ref up, .bl b] ∧ Same G H ∧ IsT G t v ∧ G a = some (.ins (cGa K) dx (fGatherer (.ref na) (.ref no))) ∧ G na = some (.lst (nm.map V.str)) ∧ G up = some (.lst (vN acc)) ∧ H no = some (.lst ds) ∧ G no = none ∧ (∀ k ∈ t.nms, k ∈ nm) ∧ t.size ≤ 10000 ∧ ds.length + t.size ≤ 20000 ∧ acc.length + t.depth ≤ 1000 ∧ t.depth ≤ n ∧
  ∀ G' ws H', Gr (· = no) G H G' H' → H' no = some (.lst (ds ++ ws)) → Al (RN nm t acc b G') t.pre ws → Q .non H'
def spRowsI (K : PySem.W.Frag) : Sp := fun vs H Q _ => ∃ (G : Hp) (a dx l0 l1 l2 l3 l4 : Addr) (x0 x1 x2 x3 x4 : List V), vs = [.ref a, .ref l0, .ref l1, .ref l2, .ref l3, .ref l4] ∧ Same G H ∧ G a = none ∧ H a = some (.ins (cRw K) dx []) ∧ H l0 = some (.lst x0) ∧ H l1 = some (.lst x1) ∧ H l2 = some (.lst x2) ∧ H l3 = some (.lst x3) ∧ H l4 = some (.lst x4) ∧
  ∀ G' q0 q1 q2 q3 q4 H', Gr (· = a) G H G' H' → H' a = some (.ins (cRw K) dx (fRows (.ref q0) (.ref q1) (.ref q2) (.ref q3) (.ref q4))) → G' q0 = some (.lst x0) → G' q1 = some (.lst x1) → G' q2 = some (.lst x2) → G' q3 = some (.lst x3) → G' q4 = some (.lst x4) → Q .non H'
theorem idx_get {nm : List Str} {m : Str} (h : m ∈ nm) : nm[nm.idxOf m]? = some m := by
  have hi := List.idxOf_lt_length_of_mem h
  rw [List.getElem?_eq_getElem hi, List.getElem_idxOf hi]
theorem idx_no {nm : List Str} {m : Str} {j : Nat} (h : j < nm.idxOf m) : nm[j]? ≠ some m := fun e => by
  obtain ⟨hj, e⟩ := List.getElem?_eq_some_iff.mp e
  have h2 := List.not_of_lt_findIdx (p := (· == m)) (xs := nm) h
  simp [e] at h2
section
variable {P : Program} {w : World} {K : PySem.W.Frag} {mg : Str → Option Value} {base : Heap} {k : Nat}
theorem sc_Gatherer_init : FnScope ["self", "names"] ["self", "names"] (defScope s_Gatherer_init) := ⟨rfl, rfl, rfl, by decide +kernel, rfl, by decide +kernel, by decide +kernel⟩
theorem mkd_Gatherer (D : Di K mg "Gatherer" (cGa K) "Gatherer.__init__" s_Gatherer_init) (T : Tx K mg) : Mkd P w K mg base "Gatherer" (cGa K) ["self", "names"] (k + 2) (spGathI K) := by
  refine mkd_mk D sc_Gatherer_init (fun _ _ _ _ _ _ us hl => match us, hl with | [_, _], _ => rfl) (fun vs H Q E h => ?_) (fun f cdv A outer s H vs Q E hr h => ?_)
  · obtain ⟨G, a, dx, na, rfl, _⟩ := h; rfl
  obtain ⟨G, a, dx, na, rfl, sg, ga, ha, q⟩ := h
  refine ⟨_, (pss_cons (ps_fld (pv 0) (pv 1) rfl)
    (pss_one (ps_fld (pv 0) (pe_lst pa_nil) rfl))), ?_⟩
  refine ⟨_, rfl, _, rfl, a, cGa K, dx, _, rfl, ha, T.cGatherer, T.nGatherer_names, by show 0 < 1000; decide, ?_⟩
  rw [pGatherer0]
  have g1 : Gr (· = a) G H G (upd H a (.ins (cGa K) dx (fGatherer1 (.ref na)))) := .put sg rfl ga ha
  refine ⟨by show 0 ≤ sizeLine; decide, fun p np => ?_⟩
  have g2 := g1.al (o := .lst []) np
  have ha2 : upd (upd H a (.ins (cGa K) dx (fGatherer1 (.ref na)))) p (.lst []) a = some (.ins (cGa K) dx (fGatherer1 (.ref na))) := by rw [upd_ne (ne_of_none upd_same np), upd_same]
  refine ⟨_, rfl, a, cGa K, dx, _, rfl, ha2, T.cGatherer, T.nGatherer_nodes, by show 1 < 1000; decide, ?_⟩
  rw [pGatherer1]
  have g3 := g2.wr (o := .ins (cGa K) dx (fGatherer (.ref na) (.ref p))) (.inr rfl) ga ha2
  have hpa : p ≠ a := fun z => by rw [z, upd_same] at np; cases np
  exact q p _ g3 upd_same (by rw [upd_ne hpa, upd_same]) (g1.dom _ np)
theorem sc_Rows_init : FnScope ["self", "names", "labels", "lasts", "fulls", "texts"] ["self", "names", "labels", "lasts", "fulls", "texts"] (defScope s_Rows_init) := ⟨rfl, rfl, rfl, by decide +kernel, rfl, by decide +kernel, by decide +kernel⟩
theorem mkd_Rows (D : Di K mg "Rows" (cRw K) "Rows.__init__" s_Rows_init) (T : Tx K mg) : Mkd P w K mg base "Rows" (cRw K) ["self", "names", "labels", "lasts", "fulls", "texts"] (k + 2) (spRowsI K) := by
  refine mkd_mk D sc_Rows_init (fun _ _ _ _ _ _ us hl => match us, hl with | [_, _, _, _, _, _], _ => rfl) (fun vs H Q E h => ?_) (fun f cdv A outer s H vs Q E hr h => ?_)
  · obtain ⟨G, a, dx, l0, l1, l2, l3, l4, x0, x1, x2, x3, x4, rfl, _⟩ := h; rfl
  obtain ⟨G, a, dx, l0, l1, l2, l3, l4, x0, x1, x2, x3, x4, rfl, sg, ga, ha, h0, h1, h2, h3, h4, q⟩ := h
  refine ⟨_, (pss_cons (ps_fld (pv 0) (pe_callTy call_list_of (by rfl) T.list (by decide +kernel) (pa_cons (pv 1) pa_nil)) rfl)
    (pss_cons (ps_fld (pv 0) (pe_callTy call_list_of (by rfl) T.list (by decide +kernel) (pa_cons (pv 2) pa_nil)) rfl)
    (pss_cons (ps_fld (pv 0) (pe_callTy call_list_of (by rfl) T.list (by decide +kernel) (pa_cons (pv 3) pa_nil)) rfl)
    (pss_cons (ps_fld (pv 0) (pe_callTy call_list_of (by rfl) T.list (by decide +kernel) (pa_cons (pv 4) pa_nil)) rfl)
    (pss_one (ps_fld (pv 0) (pe_callTy call_list_of (by rfl) T.list (by decide +kernel) (pa_cons (pv 5) pa_nil)) rfl)))))), ?_⟩
  -- one step: a list is copied, the copy is frozen, the field is written
  have step : ∀ {G1 H1 : Hp} {f0 f1 : List (Str × V)} {l : Addr} {x : List V}, Gr (· = a) G H G1 H1 → G1 a = none → H1 a = some (.ins (cRw K) dx f0) → H l = some (.lst x) → l ≠ a → ∀ r, H1 r = none → 
      Gr (· = a) G H (upd G1 r (.lst x)) (upd (upd H1 r (.lst x)) a (.ins (cRw K) dx f1)) ∧ upd G1 r (.lst x) a = none ∧ upd (upd H1 r (.lst x)) a (.ins (cRw K) dx f1) a = some (.ins (cRw K) dx f1) ∧ upd H1 r (.lst x) a = some (.ins (cRw K) dx f0) := by
    intro G1 H1 f0 f1 l x g hg hh hl hla r nr
    have hra : r ≠ a := fun z => by rw [z, hh] at nr; cases nr
    have e1 : upd H1 r (.lst x) a = some (.ins (cRw K) dx f0) := by rw [upd_ne hra.symm]; exact hh
    have g1 := g.al (o := .lst x) nr
    have g2 := g1.wr (o := .ins (cRw K) dx f1) (.inr rfl) hg e1
    have g3 := g2.frz (g.dom _ nr) (show upd (upd H1 r (.lst x)) a (.ins (cRw K) dx f1) r = some (.lst x) by rw [upd_ne hra, upd_same])
    exact ⟨g3, by rw [upd_ne hra.symm]; exact hg, upd_same, e1⟩
  have na : ∀ {l x}, H l = some (.lst x) → l ≠ a := fun {l x} h z => by rw [z, ha] at h; cases h
  refine ⟨_, rfl, l0, _, rfl, .inl (SqL.of h0), fun r0 n0 => ?_⟩
  obtain ⟨g1, ga1, ha1, e1⟩ := step (f1 := fRows1 (.ref r0)) (.refl sg) ga ha h0 (na h0) r0 n0
  refine ⟨_, rfl, a, cRw K, dx, _, rfl, e1, T.cRows, T.nRows_names, by show 0 < 1000; decide, ?_⟩
  rw [pRows0]
  refine ⟨_, rfl, l1, _, rfl, .inl (SqL.of (g1.at_ h1 (na h1))), fun r1 n1 => ?_⟩
  obtain ⟨g2, ga2, ha2, e2⟩ := step (f1 := fRows2 (.ref r0) (.ref r1)) g1 ga1 ha1 h1 (na h1) r1 n1
  refine ⟨_, rfl, a, cRw K, dx, _, rfl, e2, T.cRows, T.nRows_labels, by show 1 < 1000; decide, ?_⟩
  rw [pRows1]
  refine ⟨_, rfl, l2, _, rfl, .inl (SqL.of (g2.at_ h2 (na h2))), fun r2 n2 => ?_⟩
  obtain ⟨g3, ga3, ha3, e3⟩ := step (f1 := fRows3 (.ref r0) (.ref r1) (.ref r2)) g2 ga2 ha2 h2 (na h2) r2 n2
  refine ⟨_, rfl, a, cRw K, dx, _, rfl, e3, T.cRows, T.nRows_lasts, by show 2 < 1000; decide, ?_⟩
  rw [pRows2]
  refine ⟨_, rfl, l3, _, rfl, .inl (SqL.of (g3.at_ h3 (na h3))), fun r3 n3 => ?_⟩
  obtain ⟨g4, ga4, ha4, e4⟩ := step (f1 := fRows4 (.ref r0) (.ref r1) (.ref r2) (.ref r3)) g3 ga3 ha3 h3 (na h3) r3 n3
  refine ⟨_, rfl, a, cRw K, dx, _, rfl, e4, T.cRows, T.nRows_fulls, by show 3 < 1000; decide, ?_⟩
  rw [pRows3]
  refine ⟨_, rfl, l4, _, rfl, .inl (SqL.of (g4.at_ h4 (na h4))), fun r4 n4 => ?_⟩
  obtain ⟨g5, ga5, ha5, e5⟩ := step (f1 := fRows (.ref r0) (.ref r1) (.ref r2) (.ref r3) (.ref r4)) g4 ga4 ha4 h4 (na h4) r4 n4
  refine ⟨_, rfl, a, cRw K, dx, _, rfl, e5, T.cRows, T.nRows_texts, by show 4 < 1000; decide, ?_⟩
  rw [pRows4]
  have f0 := g1.sub0
  have m1 : upd (upd (upd (upd (upd G r0 (.lst x0)) r1 (.lst x1)) r2 (.lst x2)) r3 (.lst x3)) r4 (.lst x4) r4 = some (.lst x4) := upd_same
  have k4 : Same (upd (upd (upd (upd G r0 (.lst x0)) r1 (.lst x1)) r2 (.lst x2)) r3 (.lst x3)) (upd (upd (upd (upd (upd G r0 (.lst x0)) r1 (.lst x1)) r2 (.lst x2)) r3 (.lst x3)) r4 (.lst x4)) := Same.up (same_none g4.sub n4)
  have k3 : Same (upd (upd (upd G r0 (.lst x0)) r1 (.lst x1)) r2 (.lst x2)) (upd (upd (upd (upd G r0 (.lst x0)) r1 (.lst x1)) r2 (.lst x2)) r3 (.lst x3)) := Same.up (same_none g3.sub n3)
  have k2 : Same (upd (upd G r0 (.lst x0)) r1 (.lst x1)) (upd (upd (upd G r0 (.lst x0)) r1 (.lst x1)) r2 (.lst x2)) := Same.up (same_none g2.sub n2)
  have k1 : Same (upd G r0 (.lst x0)) (upd (upd G r0 (.lst x0)) r1 (.lst x1)) := Same.up (same_none g1.sub n1)
  exact q _ r0 r1 r2 r3 r4 _ g5 ha5 (k4 _ _ (k3 _ _ (k2 _ _ (k1 _ _ upd_same)))) (k4 _ _ (k3 _ _ (k2 _ _ upd_same))) (k4 _ _ (k3 _ _ upd_same)) (k4 _ _ upd_same) upd_same
theorem sc_Gatherer_gather : FnScope ["self", "tree", "upward", "is_last", "name", "children", "label", "place", "child"] ["self", "tree", "upward", "is_last"] (defScope s_Gatherer_gather) := ⟨rfl, rfl, rfl, by decide +kernel, rfl, by decide +kernel, by decide +kernel⟩
theorem md_Gatherer_gather (D : Dm K (cGa K) "gather" "Gatherer.gather" s_Gatherer_gather) (T : Tx K mg) : ∀ n : Nat, Md P w K mg base (cGa K) "gather" ["self", "tree", "upward", "is_last"] [] (k + n) (spGath K n)
  | 0 => by
    refine md_vac D (fun _ _ _ _ _ _ us hl => match us, hl with | [_, _, _, _], _ => rfl) fun vs H Q E h => ?_
    obtain ⟨G, t, v, nm, acc, b, a, dx, na, no, up, ds, _, _, _, _, _, _, _, _, _, _, _, _, hd, _⟩ := h
    have := t.depth_pos
    omega
  | n + 1 => by
    have h_Gatherer_gather := md_Gatherer_gather D T n
    refine md_mk (k := k + n) D sc_Gatherer_gather (fun _ _ _ _ _ _ us hl => match us, hl with | [_, _, _, _], _ => rfl) (fun vs H Q E h => ?_) (fun f cdv A outer s H vs Q E hr h => ?_)
    · obtain ⟨G, t, v, nm, acc, b, a, dx, na, no, up, ds, rfl, _⟩ := h; rfl
    obtain ⟨G, t, v, nm, acc, b, a, dx, na, no, up, ds, rfl, sg, ht, ha, hna, hup, hno, gno, hnms, hz, hzd, hac, hd, q⟩ := h
    refine ⟨_, (pss_cons (ps_if (pt_val (pe_callB call_isi (by rfl) T.isinstance (by decide +kernel) (pa_cons (pv 1) (pa_cons (pe_bltn (v := .ty "str") (by rfl) T.str (by decide +kernel) rfl) pa_nil))))
      (pss_cons (ps_expr (pe_bm PySem.F.plainAttrs_list PySem.F.slot_list_append PySem.F.type_list_append mt_append (pe_fld (pv 0) rfl) (pa_cons (pe_tup (pa_cons (pv 2) (pa_cons pe_int (pa_cons (pe_callTy call_int1 (by rfl) T.int (by decide +kernel) (pa_cons (pv 3) pa_nil)) (pa_cons pe_int (pa_cons (pv 1) pa_nil)))))) pa_nil)))
      (pss_one ps_retN))
      pss_nil)
    (pss_cons (ps_asg (pv 1) (pg_tup rfl (pgs_cons (pg_name (i := 4) sc_Gatherer_gather.nd rfl (Or.inl rfl)) (pgs_cons (pg_name (i := 5) sc_Gatherer_gather.nd rfl (Or.inl rfl)) pgs_nil))))
    (pss_cons (ps_set (i := 6) sc_Gatherer_gather.nd rfl (Or.inl rfl) (pe_op op_add pe_int (pe_bm PySem.F.plainAttrs_list PySem.F.slot_list_index PySem.F.type_list_index mt_index (pe_fld (pv 0) rfl) (pa_cons (pv 4) pa_nil))))
    (pss_cons (ps_expr (pe_bm PySem.F.plainAttrs_list PySem.F.slot_list_append PySem.F.type_list_append mt_append (pe_fld (pv 0) rfl) (pa_cons (pe_tup (pa_cons (pv 2) (pa_cons (pv 6) (pa_cons (pe_callTy call_int1 (by rfl) T.int (by decide +kernel) (pa_cons (pv 3) pa_nil)) (pa_cons (pe_callTy call_int1 (by rfl) T.int (by decide +kernel) (pa_cons (pe_cmpR op_gt (pe_callB call_len_seq (by rfl) T.len (by decide +kernel) (pa_cons (pv 5) pa_nil)) pe_int (nomark _)) pa_nil)) (pa_cons pe_non pa_nil)))))) pa_nil)))
    (pss_one (ps_for PassesOwn.never rfl (pi_enum (by rfl) T.enumerate (pa_cons (pv 5) pa_nil)) (pg_tup rfl (pgs_cons (pg_name (i := 7) sc_Gatherer_gather.nd rfl (Or.inl rfl)) (pgs_cons (pg_name (i := 8) sc_Gatherer_gather.nd rfl (Or.inl rfl)) pgs_nil)))
      (pss_one (ps_expr (pe_md h_Gatherer_gather T.cGatherer hr (pv 0) (pa_cons (pv 8) (pa_cons (pe_op op_cat (pe_lst (pa_cons (pv 6) pa_nil)) (pv 2)) (pa_cons (pe_cmpR op_eq (pv 7) (pe_op op_sub (pe_callB call_len_seq (by rfl) T.len (by decide +kernel) (pa_cons (pv 5) pa_nil)) pe_int) (nomark _)) pa_nil)))))))))))), ?_⟩
    obtain ⟨y, ty, kt⟩ := ht.ty sg (K := K)
    refine ⟨_, rfl, _, _, _, _, _, rfl, .ty "str", ty, kt, _, rfl, ?_⟩
    have hsb : sizeLine ≥ 1000000 := by decide
    have own : ∀ (p : Addr) (tl : List V), H p = none → Gr (· = no) G H (upd G p (.tup tl)) (upd (upd H p (.tup tl)) no (.lst (ds ++ [.ref p]))) ∧ Same G (upd G p (.tup tl)) := fun p tl np => by
      have hpn : p ≠ no := fun z => by rw [z, hno] at np; cases np
      have g1 : Gr (· = no) G H G (upd H p (.tup tl)) := .alloc sg np
      have g2 := g1.wr (o := .lst (ds ++ [.ref p])) (.inr rfl) gno (show upd H p (.tup tl) no = some (.lst ds) by rw [upd_ne hpn.symm]; exact hno)
      exact ⟨g2.frz np (by rw [upd_ne hpn, upd_same]), Same.up (same_none sg np)⟩
    cases t with
    | tx z =>
      obtain rfl : v = .str z := ht
      refine iteT ⟨_, rfl, a, _, dx, _, _, rfl, sg _ _ ha, T.cGatherer, T.nGatherer_nodes, lGatherer_nodes, .inl ⟨rfl, _, SqL.of hno⟩, _, rfl, _, rfl, .inr ⟨b, rfl, _, rfl, by show 5 ≤ sizeLine; decide, fun p np => ?_⟩⟩
      have hpn : p ≠ no := fun z => by rw [z, hno] at np; cases np
      have hno1 : upd H p (.tup [.ref up, .int 0, .int (if b = true then 1 else 0), .int 0, .str z]) no = some (.lst ds) := by rw [upd_ne hpn.symm]; exact hno
      refine ⟨no, _, _, rfl, rfl, hno1, smallT (by omega), ?_⟩
      obtain ⟨g, sG⟩ := own p _ np
      refine q _ [.ref p] _ g upd_same (Al.one ⟨p, up, rfl, ?_, sG _ _ hup⟩)
      rw [upd_same]
      cases b <;> rfl
    | el m cs =>
      obtain ⟨ea, lc, ws, rfl, h1, h2, h3⟩ := ht
      have hmn : m ∈ nm := hnms m (by simp [Tr.nms])
      have hlb : (1 : Int) + ((nm.idxOf m : Nat) : Int) = ((lab nm (.el m cs) : Nat) : Int) := by
        show _ = ((1 + nm.idxOf m : Nat) : Int); omega
      refine iteF ⟨_, rfl, ea, _, rfl, SqT.of (sg _ _ h1), rfl, _, _, rfl, _, _, rfl, rfl, ?_⟩
      refine ⟨_, rfl, a, _, dx, _, _, rfl, sg _ _ ha, T.cGatherer, T.nGatherer_names, lGatherer_names, .inl ⟨rfl, _, SqL.of (sg _ _ hna)⟩, _, rfl, na, _, .str m, nm.idxOf m, .str m, rfl, rfl, SqL.of (sg _ _ hna), rfl, by simp [flatV], ?_, by simp [eqV], fun j z' hj hz' => ?_, ?_⟩
      · rw [List.getElem?_map, idx_get hmn]; rfl
      · obtain ⟨x, hx, rfl⟩ := map_get hz'
        have := idx_no hj
        show (x == m) = false
        refine beq_eq_false_iff_ne.mpr fun e => this ?_
        rw [hx, e]
      refine ⟨1, ((nm.idxOf m : Nat) : Int), rfl, rfl, ?_⟩
      simp only [hlb]
      refine ⟨_, rfl, a, _, dx, _, _, rfl, sg _ _ ha, T.cGatherer, T.nGatherer_nodes, lGatherer_nodes, .inl ⟨rfl, _, SqL.of hno⟩, _, rfl, _, rfl, _, rfl, .inr ⟨b, rfl, _, rfl, lc, _, rfl, .inl (SqL.of (sg _ _ h2)), _, _, rfl, rfl, .inr ⟨_, rfl, by show 5 ≤ sizeLine; decide, fun p np => ?_⟩⟩⟩
      have hpn : p ≠ no := fun z => by rw [z, hno] at np; cases np
      obtain ⟨g, sG⟩ := own p [.ref up, nV (lab nm (.el m cs)), .int (if b = true then 1 else 0), .int (if decide ((0 : Int) < ((ws.length : Nat) : Int)) = true then (1 : Int) else 0), .non] np
      refine ⟨no, _, _, rfl, rfl, by rw [upd_ne hpn.symm]; exact hno, smallT (by omega), ?_⟩
      have hfl : (if decide ((0 : Int) < ((ws.length : Nat) : Int)) = true then (1 : Int) else 0) = ((nfl (.el m cs) : Nat) : Int) := by
        unfold nfl
        by_cases h0 : 0 < cs.length
        · rw [if_pos (decide_eq_true (by rw [h3.len]; omega)), if_pos ((fl_iff (t := .el m cs)).mpr h0)]; rfl
        · rw [if_neg (by simp; rw [← List.length_eq_zero_iff, h3.len]; omega), if_neg (fun z => h0 ((fl_iff (t := .el m cs)).mp z))]; rfl
      have hbl : (if b = true then (1 : Int) else 0) = (((if b then 1 else 0 : Nat)) : Int) := by cases b <;> rfl
      have hzz := hz
      simp only [Tr.size] at hzz
      simp only [Tr.depth] at hd hac
      refine ⟨_, rfl, lc, _, rfl, SqL.of (g.sub0 _ _ h2), for_it (walk_enum (xs := ws)) (fun i σ H2 => ∃ (G2 : Hp) (x7 x8 : Option V) (ws2 : List V), σ = [some (.ref a), some (.ref ea), some (.ref up), some (.bl b), some (.str m), some (.ref lc), some (nV (lab nm (.el m cs))), x7, x8] ∧ Gr (· = no) G H G2 H2 ∧ H2 no = some (.lst (ds ++ ws2)) ∧ ws2.length = 1 + Tr.sizes (cs.take i) ∧ Al (RN nm (.el m cs) acc b G2) ([] :: Tr.pres 0 (cs.take i)) ws2)
        ⟨_, none, none, [.ref p], rfl, g, upd_same, by simp [Tr.sizes], Al.one ⟨p, up, rfl, ?_, sG _ _ hup⟩⟩ (fun i σ H2 _ ⟨_, _, _, _, _, g2, _⟩ => SqL.of (g2.sub0 _ _ h2)) ?_ ?_⟩
      · rw [upd_same, hbl, hfl]; rfl
      · rintro i x σ H2 H3 hi ⟨G2, x7, x8, ws2, rfl, g2, hno2, hl2, al2⟩ ⟨p2, u2, y2, rfl, np2, rfl, e1, e2⟩
        cases (Option.some.inj e1)
        obtain ⟨c, hc, hcy⟩ := h3.at_ e2
        have hcs := take_le hc
        have hcd := depths_get hc
        have hts := take_sizes_succ hc
        have hci := (List.getElem?_eq_some_iff.mp hc).1
        refine ⟨p2, _, rfl, SqT.of upd_same, rfl, _, _, rfl, _, _, rfl, rfl, ?_⟩
        have g3 := g2.al (o := .tup [.int (i : Nat), y2]) np2
        have hno3 : upd H2 p2 (.tup [.int (i : Nat), y2]) no = some (.lst (ds ++ ws2)) := by rw [upd_ne (ne_of_none hno2 np2)]; exact hno2
        generalize upd H2 p2 (.tup [.int (i : Nat), y2]) = H3 at *
        refine ⟨_, rfl, a, dx, _, rfl, g3.sub0 _ _ ha, lGatherer_no_gather, _, rfl, _, rfl, by show 1 ≤ sizeLine; decide, fun p4 np4 => ⟨_, rfl, ?_⟩⟩
        have g4 := g3.al (o := .lst [nV (lab nm (.el m cs))]) np4
        refine ⟨p4, up, _, _, rfl, rfl, upd_same, g4.sub0 _ _ hup, small (by simp only [List.length_cons, List.length_nil, List.length_map]; omega), fun p5 np5 => ?_⟩
        have g5 := g4.al (o := .lst ([nV (lab nm (.el m cs))] ++ vN acc)) np5
        have hno5 : upd (upd H3 p4 (.lst [nV (lab nm (.el m cs))])) p5 (.lst ([nV (lab nm (.el m cs))] ++ vN acc)) no = some (.lst (ds ++ ws2)) := by
          have h4 : upd H3 p4 (.lst [nV (lab nm (.el m cs))]) no = some (.lst (ds ++ ws2)) := by rw [upd_ne (ne_of_none hno3 np4)]; exact hno3
          rw [upd_ne (ne_of_none h4 np5)]; exact h4
        have g6 := g5.frz (g4.dom _ np5) upd_same
        have sF := same_frz (p := p5) g5.sub upd_same
        refine ⟨_, rfl, _, rfl, lc, _, rfl, .inl (SqL.of (g5.sub0 _ _ h2)), _, _, rfl, rfl, rfl, ?_⟩
        have hdec : decide (V.int ((i : Nat) : Int) = V.int (((ws.length : Nat) : Int) - 1)) = decide (i + 1 = cs.length) := by
          rw [← h3.len]
          refine decide_eq_decide.mpr ⟨fun z => ?_, fun z => ?_⟩
          · injection z with z; omega
          · congr 1; omega
        rw [hdec]
        refine ⟨_, c, y2, nm, lab nm (.el m cs) :: acc, decide (i + 1 = cs.length), a, dx, na, no, p5, ds ++ ws2, rfl, g6.sub, hcy.mono g6.ext, g6.ext _ _ ha, g6.ext _ _ hna, upd_same, hno5, g6.free gno hno, fun k hk => hnms k (List.mem_cons_of_mem _ (nmss_mem.mpr ⟨c, List.mem_of_getElem? hc, hk⟩)), by omega, by rw [List.length_append, hl2]; simp only [Tr.size] at hzd; omega, by simp only [List.length_cons]; omega, by omega, fun G7 ws7 H7 g7 hno7 al7 => ?_⟩
        have hti : cs.take (i + 1) = cs.take i ++ [c] := by rw [List.take_succ, hc]; rfl
        have hlen7 : ws7.length = c.size := by rw [al7.len, pre_len]
        refine ⟨G7, some (.int (i : Nat)), some y2, ws2 ++ ws7, rfl, g6.trans g7, by rw [hno7, List.append_assoc], by rw [List.length_append, hl2, hlen7, hts]; omega, ?_⟩
        have hlt : (cs.take i).length = i := by rw [List.length_take]; omega
        have e : ([] :: Tr.pres 0 (cs.take (i + 1)) : List Way) = ([] :: Tr.pres 0 (cs.take i)) ++ (c.pre).map (i :: ·) := by
          rw [hti, pres_app, hlt]
          simp [Tr.pres]
        rw [e]
        exact (al2.mono fun w y h => h.mono (sF.trans g7.ext)).app (Al.mapL (al7.mono fun w y h => h.kid hc))
      · rintro σ H2 ⟨G2, x7, x8, ws2, rfl, g2, hno2, hl2, al2⟩
        have e : cs.take ws.length = cs := List.take_of_length_le (by rw [h3.len]; exact Nat.le_refl _)
        rw [e] at al2
        exact q G2 ws2 H2 g2 hno2 al2
end
end K5
set_option Elab.async false
set_option linter.all false
set_option maxRecDepth 100000
set_option maxHeartbeats 4000000
namespace K5
open PySem PySem.Spec PyProof.Rows L2
/-! ### the rows of a document -/
def IsRows (K : PySem.W.Frag) (G : Hp) (r : Tr) (nm : List Str) (S : List Way) (a : Addr) : Prop := ∃ dx q0 q1 q2 q3 q4 : Addr, G a = some (.ins (cRw K) dx (fRows (.ref q0) (.ref q1) (.ref q2) (.ref q3) (.ref q4))) ∧ G q0 = some (.lst (nm.map V.str)) ∧ G q1 = some (.lst (vN (S.map fun w => lab nm (r.go w)))) ∧ G q2 = some (.lst ((lsts r S).map V.int)) ∧ G q3 = some (.lst (vN (S.map fun w => nfl (r.go w)))) ∧ G q4 = some (.lst ((txs r S).map V.str))
theorem IsRows.mono {K : PySem.W.Frag} {G G' : Hp} {r : Tr} {nm : List Str} {S : List Way} {a : Addr} (s : Same G G') (h : IsRows K G r nm S a) : IsRows K G' r nm S a := by
  obtain ⟨dx, q0, q1, q2, q3, q4, h, h0, h1, h2, h3, h4⟩ := h
  exact ⟨dx, q0, q1, q2, q3, q4, s _ _ h, s _ _ h0, s _ _ h1, s _ _ h2, s _ _ h3, s _ _ h4⟩
abbrev qL : Str := "rows_of.<locals>.<lambda>"
structure Dt (K : PySem.W.Frag) (mg : Str → Option Value) (x : Str) (st : Stmt) (c : Addr) : Prop where
  ex : ∃ (f : Addr) (oc : Value) (od : Option Addr) (kV doc pm : Value) (an : Option Addr) (ct : Value) (osl : Array (Option Value)),
    K.lookup f = some ⟨oc, od, .func (PySem.W.fnOf x x (defArgs st) (defBody st) (defScope st) .none kV doc pm an (.ref c) ct), osl⟩ ∧ PySem.W.codeIn K (.ref c) x = true ∧ PySem.W.keepIn K (.ref f) = true ∧ mg x = some (.ref f)
theorem hd_mkC {P : Program} {w : World} {K : PySem.W.Frag} {mg : Str → Option Value} {base : Heap} {x : Str} {st : Stmt} {ps N : List Str} {k : Nat} {sp : Sp} {c : Addr} (D : Dt K mg x st c) (S : FnScope N ps (defScope st))
    (hb : ∀ (kV doc pm : Value) (an : Option Addr) (cdv ct : Value) (us : List Value), us.length = ps.length → bindArgs (PySem.W.fnOf x x (defArgs st) (defBody st) (defScope st) .none kV doc pm an cdv ct) ⟨us, []⟩ = pure (ps.zip us))
    (len : ∀ vs H Q E, sp vs H Q E → vs.length = ps.length)
    (hbody : ∀ (f : Addr) (A : Around) (outer : List Env) (s : Shared) (H : Hp) (vs : List V) (Q : VK) (E : XK), Room k (A.deeper (envOfC x (defScope st) s.heap.objs.size f (.ref c))) → sp vs H Q E →
      ∃ t, PSs (cxOf CX0 P w K mg base N x (defScope st) f (.ref c) A outer s H E).nox (defBody st) t ∧ t { nx := fun _ H' => Q .non H', rt := Q } (start N vs) H) : Hd P w K mg base x ps (k + 1) sp := by
  obtain ⟨f, oc, od, kV, doc, pm, an, ct, osl, lk, hcd, kp, a⟩ := D.ex
  have F : Fun K x x st f (PySem.W.fnOf x x (defArgs st) (defBody st) (defScope st) .none kV doc pm an (.ref c) ct) := ⟨⟨oc, od, kV, doc, pm, an, .ref c, ct, osl, rfl, lk, hcd⟩, kp⟩
  refine ⟨f, _, a, kp, F.binds hb, fn_of lk hcd S len fun A outer s H vs Q E hr hsp => ?_⟩
  obtain ⟨t, h, q⟩ := hbody f A outer s H vs Q E hr hsp
  exact ⟨t, h.nox, q⟩
theorem LamStep.gr {P : Addr} {q : Str} {G H H1 : Hp} (h : LamStep P q H H1) (t : LamX.TabS H1 P q) (s : Same G H) (gP : G P = none) : Gr (· = P) G H G H1 := by
  refine ⟨fun b o e n => h.keep e n, fun b e => ?_, Same.refl G, fun b o e => h.keep (s _ _ e) (fun z => by rw [z, gP] at e; cases e), fun b o e => .inl e⟩
  cases q' : H b with
  | none => rfl
  | some o =>
    by_cases hb : b = P
    · obtain ⟨ps, h1, _⟩ := t
      rw [hb, h1] at e; cases e
    · rw [h.keep q' hb] at e; cases e
theorem nodup_len {α : Type} [DecidableEq α] : ∀ {ks L : List α}, ks.Nodup → (∀ k ∈ ks, k ∈ L) → ks.length ≤ L.length
  | [], L, _, _ => Nat.zero_le _
  | k :: ks, L, n, h => by
    obtain ⟨n1, n2⟩ := List.nodup_cons.mp n
    have hk := h k (List.mem_cons_self ..)
    have := nodup_len (ks := ks) (L := L.erase k) n2 fun x hx => (List.mem_erase_of_ne (by rintro rfl; exact n1 hx)).mpr (h x (List.mem_cons_of_mem _ hx))
    rw [List.length_erase_of_mem hk] at this
    have := List.length_pos_of_mem hk
    simp only [List.length_cons]
    omega
theorem Al.zip {α : Type} {R : α → V → Prop} {xs : List α} {ys : List V} (h : Al R xs ys) : ∀ z ∈ xs.zip ys, R z.1 z.2 := by
  intro z hz
  obtain ⟨i, hi, e⟩ := List.getElem_of_mem hz
  have e2 : (xs.zip ys)[i]? = some z := by rw [List.getElem?_eq_getElem hi, e]
  rw [List.getElem?_zip_eq_some] at e2
  obtain ⟨y, h1, h2⟩ := h.2 i z.1 e2.1
  rw [e2.2] at h1
  cases h1
  exact h2
theorem Al.ofZip {α : Type} {R : α → V → Prop} (Z : List (α × V)) (h : ∀ z ∈ Z, R z.1 z.2) : Al R (Z.map (·.1)) (Z.map (·.2)) := by
  refine ⟨by simp, fun i x e => ?_⟩
  rw [List.getElem?_map] at e
  cases q : Z[i]? with
  | none => rw [q] at e; cases e
  | some z =>
    rw [q] at e
    cases e
    exact ⟨z.2, by rw [List.getElem?_map, q]; rfl, h z (List.mem_of_getElem? q)⟩
/-- the nodes sorted are those of the sorted ways -/
theorem sorted_nodes {r : Tr} {nm : List Str} {R : Way → V → Prop} {ws : List V} (h : Al R r.pre ws) : ∃ ws', (((r.pre.zip ws).map fun z => (z.2, upI r nm z.1)).mergeSort leK).map (·.1) = ws' ∧ Al R (ordS r nm) ws' := by
  refine ⟨_, rfl, ?_⟩
  have e1 : ((r.pre.zip ws).map fun z => (z.2, upI r nm z.1)).mergeSort leK = ((r.pre.zip ws).mergeSort fun a b => leW r nm a.1 b.1).map fun z => (z.2, upI r nm z.1) :=
    (List.map_mergeSort (r := fun a b : Way × V => leW r nm a.1 b.1) (s := leK) (f := fun z => (z.2, upI r nm z.1)) (fun a _ b _ => rfl)).symm
  have e2 : ((r.pre.zip ws).mergeSort fun a b => leW r nm a.1 b.1).map (·.1) = ordS r nm := by
    rw [List.map_mergeSort (s := leW r nm) (fun a _ b _ => rfl), List.map_fst_zip (by rw [h.len]; exact Nat.le_refl _)]
    rfl
  rw [e1, List.map_map, ← e2]
  exact Al.ofZip _ fun z hz => h.zip z ((List.mergeSort_perm _ _).mem_iff.mp hz)
theorem lstb_root (r : Tr) (w : Way) : lstb r true w = lst r w := by
  unfold lstb lst
  split <;> simp
def spRowsOf (K : PySem.W.Frag) (Pt : Addr) (n : Nat) : Sp := fun vs H Q _ => ∃ (G : Hp) (r : Tr) (v : V) (L : List Str), vs = [v] ∧ Same G H ∧ G Pt = none ∧ LamX.TabS H Pt qL ∧ IsT G r v ∧ r.isTx = false ∧ r.good = true ∧ r.rs = true ∧ r.size ≤ 1000 ∧ r.depth ≤ 100 ∧ r.depth ≤ n ∧ r.fit ∧ L.length < 60 ∧ (∀ k ∈ r.nms, k ∈ L) ∧
  ∀ nm G' a H', Gr (· = Pt) G H G' H' → LamX.TabS H' Pt qL → IsRows K G' r nm (ordS r nm) a → Ord r nm (ordS r nm) → nm.length < 60 → (∀ k, k ∈ nm ↔ k ∈ r.nms) → Q (.ref a) H'
end K5
set_option Elab.async false
set_option linter.all false
set_option maxRecDepth 100000
set_option maxHeartbeats 4000000
namespace K5
open PySem PySem.Spec PyProof.Rows L2
section
variable {P : Program} {w : World} {K : PySem.W.Frag} {mg : Str → Option Value} {base : Heap} {k : Nat}
theorem sc_rows_of : FnScope ["tree", "gatherer", "nodes", "labels", "node", "lasts", "fulls"] ["tree"] (defScope s_rows_of) := ⟨rfl, rfl, rfl, by decide +kernel, rfl, by decide +kernel, by decide +kernel⟩
theorem hd_rows_of {c Pt : Addr} (D : Dt K mg "rows_of" s_rows_of c) (TB : LamX.TabB base mg c Pt) (T : Tx K mg) (n : Nat) (h_is_document : Hd P w K mg base "is_document" ["tree"] (k + 2) spDoc) (h_names_in : Hd P w K mg base "names_in" ["tree"] (k + 2) (spNmsIn n))
    (h_Gatherer_init : Mkd P w K mg base "Gatherer" (cGa K) ["self", "names"] (k + 2) (spGathI K)) (h_Gatherer_gather : Md P w K mg base (cGa K) "gather" ["self", "tree", "upward", "is_last"] [] (k + 2) (spGath K n))
    (h_Rows_init : Mkd P w K mg base "Rows" (cRw K) ["self", "names", "labels", "lasts", "fulls", "texts"] (k + 2) (spRowsI K)) : Hd P w K mg base "rows_of" ["tree"] (k + 2 + 1) (spRowsOf K Pt n) := by
  refine hd_mkC D sc_rows_of (fun _ _ _ _ _ _ us hl => match us, hl with | [_], _ => rfl) (fun vs H Q E h => ?_) (fun f A outer s H vs Q E hr h => ?_)
  · obtain ⟨G, r, v, L, rfl, _⟩ := h; rfl
  obtain ⟨G, r, v, L, rfl, sg, gP, tP, ht, hel, hgood, hrs, hz, hdd, hd, hfit, hL, hLm, q⟩ := h
  refine ⟨_, (pss_cons (ps_if (pt_not (pt_val (pe_hd h_is_document hr rfl (pa_cons (pv 0) pa_nil))))
      (pss_one ps_never)
      pss_nil)
    (pss_cons (ps_set (i := 1) sc_rows_of.nd rfl (Or.inl rfl) (pe_mkd h_Gatherer_init hr rfl (pa_cons (pe_callB (call_sortedD rfl) (by rfl) T.sorted (by decide +kernel) (pa_cons (pe_hd h_names_in hr rfl (pa_cons (pv 0) pa_nil)) pa_nil)) pa_nil)))
    (pss_cons (ps_expr (pe_md h_Gatherer_gather T.cGatherer hr (pv 1) (pa_cons (pv 0) (pa_cons (pe_lst pa_nil) (pa_cons pe_bl pa_nil)))))
    (pss_cons (ps_set (i := 2) sc_rows_of.nd rfl (Or.inl rfl) (pe_sortLam (x := "node") (P := Pt) (c := c) hr TB rfl rfl rfl T.sorted (pe_fld (pv 1) rfl) rfl rfl rfl (by decide) (by decide) (by decide) (by decide) rfl (fun _ _ _ _ _ => rfl) rfl rfl rfl))
    (pss_cons (ps_setLc (i := 3) (own := [("node", 4)]) (g := gName 4) (tt := tYes) rfl sc_rows_of.nd rfl rfl (sw_true rfl rfl rfl (by decide +kernel)) (pi_list (pv 2)) (blkOk_by (own := [("node", 4)]) (N := ["tree", "gatherer", "nodes", "labels", "node", "lasts", "fulls"]) (sc := defScope s_rows_of) (by decide +kernel)) (fun _ _ _ _ _ => (pg_name (i := 4) sc_rows_of.nd rfl (Or.inl rfl))) (fun _ _ _ _ _ => pts_nil) (fun _ _ _ _ _ => (pe_ix (ixt K) (pv 4) pe_int (fun _ _ => rfl))))
    (pss_cons (ps_setLc (i := 5) (own := [("node", 4)]) (g := gName 4) (tt := tYes) rfl sc_rows_of.nd rfl rfl (sw_true rfl rfl rfl (by decide +kernel)) (pi_list (pv 2)) (blkOk_by (own := [("node", 4)]) (N := ["tree", "gatherer", "nodes", "labels", "node", "lasts", "fulls"]) (sc := defScope s_rows_of) (by decide +kernel)) (fun _ _ _ _ _ => (pg_name (i := 4) sc_rows_of.nd rfl (Or.inl rfl))) (fun _ _ _ _ _ => pts_nil) (fun _ _ _ _ _ => (pe_ix (ixt K) (pv 4) pe_int (fun _ _ => rfl))))
    (pss_cons (ps_setLc (i := 6) (own := [("node", 4)]) (g := gName 4) (tt := tYes) rfl sc_rows_of.nd rfl rfl (sw_true rfl rfl rfl (by decide +kernel)) (pi_list (pv 2)) (blkOk_by (own := [("node", 4)]) (N := ["tree", "gatherer", "nodes", "labels", "node", "lasts", "fulls"]) (sc := defScope s_rows_of) (by decide +kernel)) (fun _ _ _ _ _ => (pg_name (i := 4) sc_rows_of.nd rfl (Or.inl rfl))) (fun _ _ _ _ _ => pts_nil) (fun _ _ _ _ _ => (pe_ix (ixt K) (pv 4) pe_int (fun _ _ => rfl))))
    (pss_one (ps_ret (pe_mkd h_Rows_init hr rfl (pa_cons (pe_fld (pv 1) rfl) (pa_cons (pv 3) (pa_cons (pv 5) (pa_cons (pv 6) (pa_cons (pe_lc (own := [("node", 4)]) (g := gName 4) rfl sc_rows_of.nd (pi_list (pv 2)) (blkOk_by (own := [("node", 4)]) (N := ["tree", "gatherer", "nodes", "labels", "node", "lasts", "fulls"]) (sc := defScope s_rows_of) (by decide +kernel)) (fun _ _ _ _ _ => (pg_name (i := 4) sc_rows_of.nd rfl (Or.inl rfl))) (fun _ _ _ _ _ => (pts_one (pt_cmpR op_eq (pe_ix (ixt K) (pv 4) pe_int (fun _ _ => rfl)) pe_int (nomark _)))) (fun _ _ _ _ _ => (pe_ix (ixt K) (pv 4) pe_int (fun _ _ => rfl)))) pa_nil))))))))))))))), ?_⟩
  refine ⟨_, rfl, G, r, v, rfl, sg, ht, by omega, hfit, fun H1 s1 => ⟨_, rfl, ?_⟩⟩
  rw [hel, hgood, hrs]
  refine iteF ?_
  refine ⟨_, rfl, G, r, v, rfl, sg.trans s1, ht, by omega, hd, fun p ks H2 s2 np hp hnd hm hl => ?_⟩
  have h60 : ks.length < 64 := by
    have := nodup_len hnd (fun k hk => hLm k ((hm k).mp hk))
    omega
  refine ⟨p, nmK ks, ks, rfl, .inl hp, by simp [nmK], h60, fun nm qn hperm hsort nqn => ?_⟩
  have hasc : nm.Pairwise sLt := asc_of (sorted_pw hsort) (hperm.nodup_iff.mpr hnd)
  have hnm : ∀ k, k ∈ nm ↔ k ∈ r.nms := fun k => by rw [hperm.mem_iff, hm]
  have hnl : nm.length < 60 := by
    have := nodup_len (hperm.nodup_iff.mpr hnd) (fun k hk => hLm k ((hnm k).mp hk))
    omega
  have O : Ord r nm (ordS r nm) := ordS_ord (fun w hw n cs e => (hnm n).mpr (nms_go w r hw n cs e)) (fun n hn => nms_of r n ((hnm n).mp hn)) hasc
  have nP : ∀ {b : Addr}, H b = none → b ≠ Pt := fun {b} e z => by
    obtain ⟨ps, h1, _⟩ := tP
    rw [z, h1] at e; cases e
  have s02 := s1.trans s2
  have g0 : Gr W0 G H G H2 := .of sg s02
  have g3 := (g0.al (o := .lst (nm.map V.str)) nqn).frz (g0.dom _ nqn) upd_same
  have hG3 : upd G qn (.lst (nm.map V.str)) qn = some (.lst (nm.map V.str)) := upd_same
  generalize upd G qn (.lst (nm.map V.str)) = G3 at *
  generalize upd H2 qn (.lst (nm.map V.str)) = H3 at *
  refine fun x dx n1 n2 n3 => ?_
  have nxu : upd H3 dx (.own x) x = none := by rw [upd_ne n3.symm]; exact n1
  refine ⟨G3, x, dx, qn, rfl, g3.sub.trans ((Same.up n2).trans (Same.up nxu)), same_none g3.sub n1, upd_same, fun no H4 gi hx hno nno => ?_⟩
  have e1 : no ≠ x := fun z => by rw [z, upd_same] at nno; cases nno
  have e2 : no ≠ dx := fun z => by rw [z, upd_ne n3, upd_same] at nno; cases nno
  have nno3 : H3 no = none := by
    rw [upd_ne e1, upd_ne e2] at nno
    exact nno
  have nnoH : H no = none := g3.dom _ nno3
  have gno4 : upd G3 x (.ins (cGa K) dx (fGatherer (.ref qn) (.ref no))) no = none := by rw [upd_ne e1]; exact same_none g3.sub nno3
  obtain ⟨gi1, si1⟩ := Gr.init g3.sub n1 n2 n3 gi hx
  have g4 := g3.trans gi1
  have hG4 : upd G3 x (.ins (cGa K) dx (fGatherer (.ref qn) (.ref no))) x = some (.ins (cGa K) dx (fGatherer (.ref qn) (.ref no))) := upd_same
  have hq4 := si1 _ _ hG3
  generalize upd G3 x (.ins (cGa K) dx (fGatherer (.ref qn) (.ref no))) = G4 at *
  refine ⟨rfl, ?_⟩
  refine ⟨_, rfl, x, dx, _, rfl, g4.sub _ _ hG4, lGatherer_no_gather, _, rfl, by show 0 ≤ sizeLine; decide, fun pu npu => ?_⟩
  have g5 := (g4.al (o := .lst []) npu).frz (g4.dom _ npu) upd_same
  have s5 := same_frz (p := pu) (g4.al (o := .lst []) npu).sub upd_same
  have hno5 : upd H4 pu (.lst []) no = some (.lst []) := by rw [upd_ne (ne_of_none hno npu)]; exact hno
  have npn : pu ≠ no := fun z => by rw [z, hno] at npu; cases npu
  have gno5 : upd G4 pu (.lst []) no = none := by rw [upd_ne npn.symm]; exact gno4
  have hpu : upd G4 pu (.lst []) pu = some (.lst (vN [])) := upd_same
  generalize upd G4 pu (.lst []) = G5 at *
  generalize upd H4 pu (.lst []) = H5 at *
  refine ⟨G5, r, v, nm, [], true, x, dx, qn, no, pu, [], rfl, g5.sub, ht.mono g5.ext, s5 _ _ hG4, s5 _ _ hq4, hpu, hno5, gno5, fun k hk => (hnm k).mpr hk, by omega, by simp only [List.length_nil]; omega, by simp only [List.length_nil]; omega, hd, fun G6 ws H6 g6 hno6 al6 => ?_⟩
  have g06 : Gr W0 G H G6 H6 := (g5.mono.trans g6).drop fun b hb => .inr (by rw [hb]; exact nnoH)
  have hG6 := g6.ext _ _ (s5 _ _ hG4)
  have hq6 := g6.ext _ _ (s5 _ _ hq4)
  have tP6 : LamX.TabS H6 Pt qL := tP.ext g06.same
  have gP6 : G6 Pt = none := by
    obtain ⟨ps, h1, _⟩ := tP
    exact g06.free gP h1
  obtain ⟨ws', hws, als⟩ := sorted_nodes (nm := nm) al6
  refine ⟨_, rfl, x, _, dx, _, _, rfl, g06.sub _ _ hG6, T.cGatherer, T.nGatherer_nodes, lGatherer_nodes, no, (r.pre.zip ws).map (fun z => (z.2, upI r nm z.1)), rfl, ?_, tP6, ?_, ?_⟩
  · rw [List.map_map]
    have : ((fun b : V × List Int => b.1) ∘ fun z : Way × V => (z.2, upI r nm z.1)) = Prod.snd := rfl
    rw [this, List.map_snd_zip (by rw [al6.len]; exact Nat.le_refl _)]
    exact hno6
  · intro b hb
    obtain ⟨z, hz, rfl⟩ := List.mem_map.mp hb
    obtain ⟨p, q, e, h1, h2⟩ := al6.zip z hz
    refine ⟨p, q, _, e, g06.sub _ _ h1, ?_⟩
    rw [g06.sub _ _ h2]
    show some (HO.lst (vN _)) = some (HO.lst ((upI r nm z.1).map V.int))
    rw [upI, List.map_map]
    rfl
  intro H7 no2 st T7 nno2
  rw [hws]
  have g7 : Gr (· = Pt) G H G6 H7 := g06.mono.trans (st.gr T7 g06.sub gP6)
  have g8 := g7.al (o := .lst ws') nno2
  have hno8 : upd H7 no2 (.lst ws') no2 = some (.lst ws') := upd_same
  have T8 : LamX.TabS (upd H7 no2 (.lst ws')) Pt qL := T7.ext fun b o e => by rw [upd_ne (ne_of_none e nno2)]; exact e
  generalize upd H7 no2 (.lst ws') = H8 at *
  have hlen : ws'.length = (ordS r nm).length := als.len
  have hsz : (ordS r nm).length = r.size := by rw [ordS_perm.length_eq, pre_len]
  -- one of the comprehensions
  have rd : ∀ {i : Nat} {y : V} {G' H' : Hp}, ws'[i]? = some y → Same G6 G' → Same G' H' → ∃ (p q : Addr) (w : Way), (ordS r nm).getD i [] = w ∧ y = .ref p ∧ H' p = some (.tup [.ref q, nV (lab nm (r.go w)), nV (lst r w), nV (nfl (r.go w)), textV (r.go w)]) := by
    intro i y G' H' hy s1 s2
    obtain ⟨w, hw, p, q, e, h1, _⟩ := als.at_ hy
    refine ⟨p, q, w, by rw [List.getD_eq_getElem?_getD, hw]; rfl, e, ?_⟩
    rw [s2 _ _ (s1 _ _ h1), lstb_root]
  refine ⟨_, rfl, no2, rfl, ⟨_, SqL.of hno8⟩, fun D1 hD1 => lc_map (walk_list (xs := ws')) hD1 g8.sub (fun G' H' gr => SqL.of (gr.same _ _ hno8)) (fun i => nV (lab nm (r.go ((ordS r nm).getD i [])))) (by omega) ?_ ?_⟩
  · rintro i y G' H' H'' kk Z hi gr gD ⟨rfl, hy⟩ yes
    obtain ⟨p, q, w, hw, rfl, hp⟩ := rd hy gr.ext gr.sub
    refine ⟨rfl, ty_yes ⟨_, rfl, p, _, _, _, rfl, rfl, SqT.of hp, at_1, ?_⟩⟩
    have := yes _ _ (Gr.refl gr.sub)
    rw [hw] at this
    exact this
  intro G9 H9 g9 hl9 gD9
  rw [hlen, map_range_getD [] (ordS r nm) (fun w => nV (lab nm (r.go w)))] at hl9
  have hno9 := g9.same _ _ hno8
  refine ⟨_, rfl, no2, rfl, ⟨_, SqL.of hno9⟩, fun D2 hD2 => lc_map (walk_list (xs := ws')) hD2 g9.sub (fun G' H' gr => SqL.of (gr.same _ _ hno9)) (fun i => nV (lst r ((ordS r nm).getD i []))) (by omega) ?_ ?_⟩
  · rintro i y G' H' H'' kk Z hi gr gD ⟨rfl, hy⟩ yes
    obtain ⟨p, q, w, hw, rfl, hp⟩ := rd hy (g9.ext.trans gr.ext) gr.sub
    refine ⟨rfl, ty_yes ⟨_, rfl, p, _, _, _, rfl, rfl, SqT.of hp, rfl, ?_⟩⟩
    have := yes _ _ (Gr.refl gr.sub)
    rw [hw] at this
    exact this
  intro G10 H10 g10 hl10 gD10
  rw [hlen, map_range_getD [] (ordS r nm) (fun w => nV (lst r w))] at hl10
  have hno10 := g10.same _ _ hno9
  have hl9' := g10.same _ _ hl9
  refine ⟨_, rfl, no2, rfl, ⟨_, SqL.of hno10⟩, fun D3 hD3 => lc_map (walk_list (xs := ws')) hD3 g10.sub (fun G' H' gr => SqL.of (gr.same _ _ hno10)) (fun i => nV (nfl (r.go ((ordS r nm).getD i [])))) (by omega) ?_ ?_⟩
  · rintro i y G' H' H'' kk Z hi gr gD ⟨rfl, hy⟩ yes
    obtain ⟨p, q, w, hw, rfl, hp⟩ := rd hy (g9.ext.trans (g10.ext.trans gr.ext)) gr.sub
    refine ⟨rfl, ty_yes ⟨_, rfl, p, _, _, _, rfl, rfl, SqT.of hp, rfl, ?_⟩⟩
    have := yes _ _ (Gr.refl gr.sub)
    rw [hw] at this
    exact this
  intro G11 H11 g11 hl11 gD11
  rw [hlen, map_range_getD [] (ordS r nm) (fun w => nV (nfl (r.go w)))] at hl11
  have hno11 := g11.same _ _ hno10
  have hl10' := g11.same _ _ hl10
  have hl9'' := g11.same _ _ hl9'
  have s11 : Same H8 H11 := g9.same.trans (g10.same.trans g11.same)
  have g011 : Gr (· = Pt) G H G11 H11 := g8.trans ((g9.trans (g10.trans g11)).mono)
  have hG11 : G11 x = some (.ins (cGa K) dx (fGatherer (.ref qn) (.ref no))) := g11.ext _ _ (g10.ext _ _ (g9.ext _ _ hG6))
  have hq11 : G11 qn = some (.lst (nm.map V.str)) := g11.ext _ _ (g10.ext _ _ (g9.ext _ _ hq6))
  refine ⟨_, rfl, x, _, dx, _, _, rfl, g11.sub _ _ hG11, T.cGatherer, T.nGatherer_names, lGatherer_names, _, rfl, _, rfl, _, rfl, _, rfl, no2, rfl, ⟨_, SqL.of hno11⟩, fun D4 hD4 => lc_flt (walk_list (xs := ws')) hD4 g11.sub (fun G' H' gr => SqL.of (gr.same _ _ hno11)) (fun i => (r.go ((ordS r nm).getD i [])).isTx) (fun i => textV (r.go ((ordS r nm).getD i []))) (by omega) ?_ ?_⟩
  · rintro i y G' H' H'' kk Z hi gr gD ⟨rfl, hy⟩ yes no_
    obtain ⟨p, q, w, hw, rfl, hp⟩ := rd hy (g9.ext.trans (g10.ext.trans (g11.ext.trans gr.ext))) gr.sub
    refine ⟨rfl, _, rfl, p, _, _, _, rfl, rfl, SqT.of hp, at_1, rfl, _, rfl, ?_⟩
    have e0 : decide (nV (lab nm (r.go w)) = V.int 0) = (r.go w).isTx := by
      cases r.go w with
      | tx z => exact decide_eq_true rfl
      | el m cs => exact decide_eq_false (fun z => by injection z with z; simp [lab] at z; omega)
    have e1 : (r.go ((ordS r nm).getD i [])).isTx = (r.go w).isTx := by rw [hw]
    rw [e0]
    cases hb : (r.go w).isTx with
    | true =>
      refine iteT ⟨_, rfl, p, _, _, _, rfl, rfl, SqT.of hp, rfl, ?_⟩
      have := yes _ _ (e1.trans hb) (Gr.refl gr.sub)
      rw [hw] at this
      exact this
    | false => exact iteF (no_ _ _ (e1.trans hb) (Gr.refl gr.sub))
  intro G12 H12 g12 hl12 gD12
  rw [hlen, flt_list [] (ordS r nm) (fun w => (r.go w).isTx) (fun w => textV (r.go w))] at hl12
  have ht12 : ((ordS r nm).filter fun w => (r.go w).isTx).map (fun w => textV (r.go w)) = (txs r (ordS r nm)).map V.str := by
    unfold txs
    rw [List.map_map]
    refine List.map_congr_left fun w hw => ?_
    have := (List.mem_filter.mp hw).2
    simp only [Function.comp]
    cases e : r.go w with
    | tx z => rfl
    | el m cs => rw [e] at this; cases this
  rw [ht12] at hl12
  have g012 : Gr (· = Pt) G H G12 H12 := g011.trans g12.mono
  refine fun y dy m1 m2 m3 => ?_
  have nyu : upd H12 dy (.own y) y = none := by rw [upd_ne m3.symm]; exact m1
  have sy : Same H12 (upd (upd H12 dy (.own y)) y (.ins (cRw K) dy [])) := (Same.up m2).trans (Same.up nyu)
  refine ⟨G12, y, dy, qn, D1, D2, D3, D4, _, _, _, _, _, rfl, g12.sub.trans sy, same_none g12.sub m1, upd_same, sy _ _ (g12.sub0 _ _ hq11), sy _ _ (g12.same _ _ hl9''), sy _ _ (g12.same _ _ hl10'), sy _ _ (g12.same _ _ hl11), sy _ _ hl12, fun G13 q0 q1 q2 q3 q4 H13 g13 hy k0 k1 k2 k3 k4 => ?_⟩
  obtain ⟨gy, sG⟩ := Gr.init g12.sub m1 m2 m3 g13 hy
  refine ⟨rfl, ?_⟩
  refine q nm _ y H13 (g012.trans gy.mono) (T8.ext (s11.trans (g12.same.trans gy.same))) ⟨dy, q0, q1, q2, q3, q4, upd_same, sG _ _ k0, ?_, ?_, ?_, sG _ _ k4⟩ O hnl hnm
  · rw [sG _ _ k1, vN, List.map_map]; rfl
  · rw [sG _ _ k2, lsts, List.map_map]; rfl
  · rw [sG _ _ k3, vN, List.map_map]; rfl
end
end K5
set_option Elab.async false
set_option linter.all false
set_option maxRecDepth 100000
set_option maxHeartbeats 4000000
namespace K5
open PySem PySem.Spec PyProof.Rows L2
/-! ### the judge: families -/
def endsL (r : Tr) (S : List Way) : List Nat := (List.range S.length).filter fun i => (lsts r S).getD i 0 == 1
theorem cnt_sm : ∀ (xs : List Int) (i : Nat), Bt xs → i ≤ xs.length → ((((List.range i).filter fun j => xs.getD j 0 == 1).length : Nat) : Int) = sm xs i
  | xs, 0, _, _ => by simp [sm]
  | xs, i + 1, hb, h => by
    have ih := cnt_sm xs i hb (by omega)
    have hi : i < xs.length := by omega
    have hx := hb xs[i] (List.getElem_mem hi)
    have e1 : xs.getD i 0 = xs[i] := by simp [hi]
    have e2 : sm xs (i + 1) = sm xs i + xs[i] := by
      unfold sm
      rw [List.take_add_one, List.getElem?_eq_getElem hi, List.sum_append]
      simp
    rw [List.range_succ, List.filter_append, List.length_append, e2]
    have e3 : (([i].filter fun j => xs.getD j 0 == 1).length : Int) = xs[i] := by
      rw [List.filter_cons, e1]
      rcases hx with h | h <;> rw [h] <;> simp
    omega
theorem ends_at {r : Tr} {nm : List Str} {S : List Way} (O : Ord r nm S) {m : Nat} (hm : m ≤ (fam r nm S).length) : (endsL r S)[m]? = some (pos r nm S m - 1) := by
  obtain ⟨h1, h2⟩ := end_at O hm
  have hl : (lsts r S).length = S.length := by simp [lsts]
  have hi := (List.getElem?_eq_some_iff.mp h1).1
  have hr : (List.range S.length)[pos r nm S m - 1]? = some (pos r nm S m - 1) := List.getElem?_range (by omega)
  have := flt_get (p := fun i => (lsts r S).getD i 0 == 1) hr (by rw [List.getD_eq_getElem?_getD, h1]; rfl)
  rw [List.take_range, Nat.min_eq_left (by omega)] at this
  have hc := cnt_sm (lsts r S) (pos r nm S m - 1) (lsts_bt r S) (by omega)
  rw [h2] at hc
  rw [show ((List.range (pos r nm S m - 1)).filter fun j => (lsts r S).getD j 0 == 1).length = m by omega] at this
  exact this
theorem fam_at2 {r : Tr} {nm : List Str} {S : List Way} (O : Ord r nm S) {i l : Nat} {w : Way} (hi : S[i]? = some w) (hf : (r.go w).fl = true) (hl : lab nm (r.go w) = l + 1) :
    (fam r nm S)[stc r nm S l + ((S.take i).filter (isL r nm (l + 1))).length]? = some w := by
  have h := fam_at O hi hf
  have e1 : sym nm (r.go w) = 2 * (l + 1) + 1 := by unfold sym nfl; rw [hf, hl]; rfl
  rw [hl, e1, cnt_sym] at h
  exact h
/-- what the dict of families tells of a node -/
def FamV (r : Tr) (S : List Way) (G : Hp) (w : Way) (o : Option V) : Prop := if (r.go w).fl = true then ∃ (q : Addr) (b : Nat), o = some (.ref q) ∧ G q = some (.tup [nV b, nV (b + (r.go w).kids.length)]) ∧ ∀ j, j < (r.go w).kids.length → S[b + j]? = some (w ++ [j]) else o = none
theorem FamV.mono {r : Tr} {S : List Way} {G G' : Hp} {w : Way} {o : Option V} (s : Same G G') (h : FamV r S G w o) : FamV r S G' w o := by
  unfold FamV at *
  split at h
  · rename_i hf
    rw [if_pos hf]
    obtain ⟨q, b, e, h1, h2⟩ := h
    exact ⟨q, b, e, s _ _ h1, h2⟩
  · rename_i hf
    rw [if_neg hf]
    exact h
def spEnds (K : PySem.W.Frag) : Sp := fun vs H Q _ => ∃ (G : Hp) (r : Tr) (nm : List Str) (S : List Way) (a : Addr), vs = [.ref a] ∧ Same G H ∧ IsRows K G r nm S a ∧ S.length ≤ 5000 ∧ ∀ l H', Same H H' → H' l = some (.lst (vN (endsL r S))) → Q (.ref l) H'
def spFams (K : PySem.W.Frag) : Sp := fun vs H Q _ => ∃ (G : Hp) (r : Tr) (nm : List Str) (S : List Way) (a : Addr), vs = [.ref a] ∧ Same G H ∧ IsRows K G r nm S a ∧ S.length ≤ 5000 ∧ nm.length ≤ 100 ∧ Ord r nm S ∧
  ∀ p kvs G' H', Gr W0 G H G' H' → G' p = some (.dK kvs) → (∀ i w, S[i]? = some w → FamV r S G' w (valV kvs (.inl ((i : Nat) : Int)))) → Q (.ref p) H'
def spFirst : Sp := fun vs H Q _ => ∃ (l : Addr) (bs : List V), vs = [.ref l] ∧ H l = some (.lst bs) ∧ (∀ b ∈ bs, b = .bl false) ∧ ∀ H', Same H H' → Q .non H'
section
variable {P : Program} {w : World} {K : PySem.W.Frag} {mg : Str → Option Value} {base : Heap} {k : Nat}
theorem sc_family_ends : FnScope ["rows", "row", "last"] ["rows"] (defScope s_family_ends) := ⟨rfl, rfl, rfl, by decide +kernel, rfl, by decide +kernel, by decide +kernel⟩
theorem hd_family_ends (D : Df K mg "family_ends" s_family_ends) (T : Tx K mg) : Hd P w K mg base "family_ends" ["rows"] (k + 1) (spEnds K) := by
  refine hd_mk D sc_family_ends (fun _ _ _ _ _ _ us hl => match us, hl with | [_], _ => rfl) (fun vs H Q E h => ?_) (fun f cdv A outer s H vs Q E hr h => ?_)
  · obtain ⟨G, r, nm, S, a, rfl, _⟩ := h; rfl
  obtain ⟨G, r, nm, S, a, rfl, sg, ⟨dx, q0, q1, q2, q3, q4, ha, h0, h1, h2, h3, h4⟩, hz, q⟩ := h
  refine ⟨_, (pss_one (ps_ret (pe_lc (own := [("row", 1), ("last", 2)]) (g := gTup K 2 (gCons (gName 1) (gCons (gName 2) gNil))) rfl sc_family_ends.nd (pi_enum (by rfl) T.enumerate (pa_cons (pe_fld (pv 0) rfl) pa_nil)) (blkOk_by (own := [("row", 1), ("last", 2)]) (N := ["rows", "row", "last"]) (sc := defScope s_family_ends) (by decide +kernel)) (fun _ _ _ _ _ => (pg_tup rfl (pgs_cons (pg_name (i := 1) sc_family_ends.nd rfl (Or.inl rfl)) (pgs_cons (pg_name (i := 2) sc_family_ends.nd rfl (Or.inl rfl)) pgs_nil)))) (fun _ _ _ _ _ => (pts_one (pt_cmpR op_eq (pv 2) pe_int (nomark _)))) (fun _ _ _ _ _ => (pv 1))))), ?_⟩
  have hl : (lsts r S).length = S.length := by simp [lsts]
  have h2' := sg _ _ h2
  refine ⟨_, rfl, a, _, dx, _, _, rfl, sg _ _ ha, T.cRows, T.nRows_lasts, lRows_lasts, q2, _, rfl, SqL.of h2', fun D hD => lc_flt (walk_enum (xs := (lsts r S).map V.int)) hD sg (fun G' H' gr => SqL.of (gr.same _ _ h2')) (fun i => (lsts r S).getD i 0 == 1) (fun i => nV i) (by rw [List.length_map]; omega) ?_ ?_⟩
  · rintro i x G' H' H'' kk Z hi gr gD ⟨p, u, y, rfl, np, rfl, e1, e2⟩ yes no_
    cases (Option.some.inj e1)
    obtain ⟨z, hz', rfl⟩ := map_get e2
    refine ⟨p, _, rfl, SqT.of upd_same, rfl, _, _, rfl, _, _, rfl, rfl, rfl, _, rfl, rfl, _, rfl, ?_⟩
    have e3 : (lsts r S).getD i 0 = z := by rw [List.getD_eq_getElem?_getD, hz']; rfl
    have g2 := (Gr.refl (W := W0) gr.sub).al (o := .tup [.int (i : Nat), .int z]) np
    rw [e3] at yes no_
    have e4 : decide (V.int z = V.int 1) = (z == 1) := by
      by_cases h : z = 1
      · rw [h]; rfl
      · rw [beq_eq_false_iff_ne.mpr h]; exact decide_eq_false (fun q => h (by injection q))
    rw [e4]
    cases hb : (z == 1) with
    | true => exact iteT ⟨_, rfl, yes _ _ hb g2⟩
    | false => exact iteF (no_ _ _ hb g2)
  · intro G' H' gr hy gD
    rw [List.length_map, hl] at hy
    exact q D H' gr.same hy
theorem sc_first_row : FnScope ["truths", "row", "is_so"] ["truths"] (defScope s_first_row) := ⟨rfl, rfl, rfl, by decide +kernel, rfl, by decide +kernel, by decide +kernel⟩
theorem hd_first_row (D : Df K mg "first_row" s_first_row) (T : Tx K mg) : Hd P w K mg base "first_row" ["truths"] (k + 1) spFirst := by
  refine hd_mk D sc_first_row (fun _ _ _ _ _ _ us hl => match us, hl with | [_], _ => rfl) (fun vs H Q E h => ?_) (fun f cdv A outer s H vs Q E hr h => ?_)
  · obtain ⟨l, bs, rfl, _⟩ := h; rfl
  obtain ⟨l, bs, rfl, hl, hb, q⟩ := h
  refine ⟨_, (pss_cons (ps_for PassesOwn.never rfl (pi_enum (by rfl) T.enumerate (pa_cons (pv 0) pa_nil)) (pg_tup rfl (pgs_cons (pg_name (i := 1) sc_first_row.nd rfl (Or.inl rfl)) (pgs_cons (pg_name (i := 2) sc_first_row.nd rfl (Or.inl rfl)) pgs_nil)))
      (pss_one (ps_if (pt_val (pv 2))
        (pss_one (ps_ret (pv 1)))
        pss_nil)))
    (pss_one (ps_ret pe_non))), ?_⟩
  refine ⟨_, rfl, l, _, rfl, SqL.of hl, for_it (walk_enum (xs := bs)) (fun i σ H1 => ∃ x1 x2, σ = [some (.ref l), x1, x2] ∧ Same H H1) ⟨none, none, rfl, Same.refl H⟩ (fun i σ H1 _ ⟨_, _, _, s1⟩ => SqL.of (s1 _ _ hl)) ?_ ?_⟩
  · rintro i x σ H1 H2 hi ⟨x1, x2, rfl, s1⟩ ⟨p, u, y, rfl, np, rfl, e1, e2⟩
    cases (Option.some.inj e1)
    obtain rfl := hb y (List.mem_of_getElem? e2)
    exact ⟨p, _, rfl, SqT.of upd_same, rfl, _, _, rfl, _, _, rfl, rfl, _, rfl, _, rfl, iteF ⟨_, _, rfl, s1.trans (Same.up np)⟩⟩
  · rintro σ H1 ⟨x1, x2, rfl, s1⟩
    exact q H1 s1
theorem sc_families : FnScope ["rows", "ends", "found", "following", "label", "row", "own"] ["rows"] (defScope s_families) := ⟨rfl, rfl, rfl, by decide +kernel, rfl, by decide +kernel, by decide +kernel⟩
theorem hd_families (D : Df K mg "families" s_families) (T : Tx K mg) (h_family_ends : Hd P w K mg base "family_ends" ["rows"] k (spEnds K)) : Hd P w K mg base "families" ["rows"] (k + 1) (spFams K) := by
  refine hd_mk D sc_families (fun _ _ _ _ _ _ us hl => match us, hl with | [_], _ => rfl) (fun vs H Q E h => ?_) (fun f cdv A outer s H vs Q E hr h => ?_)
  · obtain ⟨G, r, nm, S, a, rfl, _⟩ := h; rfl
  obtain ⟨G, r, nm, S, a, rfl, sg, hrows, hz, hn, O, q⟩ := h
  refine ⟨_, (pss_cons (ps_set (i := 1) sc_families.nd rfl (Or.inl rfl) (pe_hd h_family_ends hr rfl (pa_cons (pv 0) pa_nil)))
    (pss_cons (ps_set (i := 2) sc_families.nd rfl (Or.inl rfl) pe_dnewK)
    (pss_cons (ps_set (i := 3) sc_families.nd rfl (Or.inl rfl) pe_int)
    (pss_cons (ps_for PassesOwn.never rfl (pi_range2 (by rfl) T.range (pa_cons pe_int (pa_cons (pe_op op_add (pe_callB call_len_seq (by rfl) T.len (by decide +kernel) (pa_cons (pe_fld (pv 0) rfl) pa_nil)) pe_int) pa_nil))) (pg_name (i := 4) sc_families.nd rfl (Or.inl rfl))
      (pss_one (ps_for PassesOwn.never rfl (pi_enum (by rfl) T.enumerate (pa_cons (pe_fld (pv 0) rfl) pa_nil)) (pg_tup rfl (pgs_cons (pg_name (i := 5) sc_families.nd rfl (Or.inl rfl)) (pgs_cons (pg_name (i := 6) sc_families.nd rfl (Or.inl rfl)) pgs_nil)))
        (pss_one (ps_if (PW.pt (pw_and (pt_cmpR op_eq (pv 6) (pv 4) (nomark _)) (pw_and1 (pt_cmpR op_eq (pe_ix ix_list (pe_fld (pv 0) rfl) (pv 5) (fun _ _ => rfl)) pe_int (nomark _)))))
          (pss_cons (ps_dput (hu_of hr) (pv 2) (pv 5) (pe_tup (pa_cons (pe_op op_add (pe_ix ix_list (pv 1) (pe_op op_sub (pv 3) pe_int) (fun _ _ => rfl)) pe_int) (pa_cons (pe_op op_add (pe_ix ix_list (pv 1) (pv 3) (fun _ _ => rfl)) pe_int) pa_nil))) rfl)
          (pss_one (ps_aug (i := 3) sc_families.nd rfl (Or.inl rfl) pe_int ip_add)))
          pss_nil)))))
    (pss_one (ps_ret (pv 2))))))), ?_⟩
  obtain ⟨dx, q0, q1, q2, q3, q4, ha, h0, h1, h2, h3, h4⟩ := id hrows
  refine ⟨_, rfl, G, r, nm, S, a, rfl, sg, hrows, hz, fun le H1 s1 he => fun p np => ?_⟩
  have g0 : Gr W0 G H G H1 := .of sg s1
  have npH : H p = none := g0.dom _ np
  have g1 := g0.al (o := .dK []) np
  have he1 : upd H1 p (.dK []) le = some (.lst (vN (endsL r S))) := by rw [upd_ne (ne_of_none he np)]; exact he
  have hp1 : upd H1 p (.dK []) p = some (.dK []) := upd_same
  have gp : G p = none := same_none sg npH
  generalize upd H1 p (.dK []) = H2 at *
  have lep : le ≠ p := fun z => by rw [z, hp1] at he1; cases he1
  have flen : (fam r nm S).length = stc r nm S nm.length := stc_len r nm S nm.length
  refine ⟨_, rfl, a, _, dx, _, _, rfl, g1.sub0 _ _ ha, T.cRows, T.nRows_names, lRows_names, q0, _, rfl, .inl (SqL.of (g1.sub0 _ _ h0)), _, _, rfl, rfl, _, _, rfl, ⟨by decide, by decide, by rw [List.length_map]; omega, by rw [List.length_map]; omega⟩, ?_⟩
  have hl1 : (vN (S.map fun w => lab nm (r.go w))).length = S.length := by simp [vN]
  have hfS : (fam r nm S).length ≤ S.length := by
    have h1 := (ends_at O (m := (fam r nm S).length) (Nat.le_refl _))
    have h2 := (List.getElem?_eq_some_iff.mp h1).1
    have h3 : (endsL r S).length ≤ S.length := by
      unfold endsL
      exact Nat.le_trans (List.length_filter_le _ _) (by rw [List.length_range]; exact Nat.le_refl _)
    omega
  refine for_it walk_range (fun i σ H3 => ∃ (G3 : Hp) (kvs : List (Key × V)) (x4 x5 x6 : Option V), σ = [some (.ref a), some (.ref le), some (.ref p), some (nV (1 + stc r nm S i)), x4, x5, x6] ∧ Gr W0 G H G3 H3 ∧ H3 p = some (.dK kvs) ∧ G3 p = none ∧ H3 le = some (.lst (vN (endsL r S))) ∧ kvs.length ≤ stc r nm S i ∧
      ∀ j w, S[j]? = some w → if lab nm (r.go w) ≤ i then FamV r S G3 w (valV kvs (.inl ((j : Nat) : Int))) else valV kvs (.inl ((j : Nat) : Int)) = none)
    ⟨G, [], none, none, none, rfl, g1, hp1, gp, he1, Nat.zero_le _, fun j w hw => ?_⟩ (fun _ _ _ _ _ => trivial) ?_ ?_
  · split
    · rename_i h
      have hf : (r.go w).fl = false := by
        cases hf : (r.go w).fl with
        | false => rfl
        | true => have := lab_pos (nm := nm) hf; omega
      unfold FamV
      rw [if_neg (by rw [hf]; simp)]
      rfl
    · rfl
  · rintro i x σ H3 H4 hi ⟨G3, kvs, x4, x5, x6, rfl, g3, hp3, gp3, he3, hlen3, hk3⟩ ⟨rfl, rfl⟩
    have hi' : i < nm.length := by rw [List.length_map] at hi; omega
    have h1' := g3.sub0 _ _ h1
    refine ⟨_, rfl, a, _, dx, _, _, rfl, g3.sub0 _ _ ha, T.cRows, T.nRows_labels, lRows_labels, q1, _, rfl, SqL.of h1', for_it (walk_enum (xs := vN (S.map fun w => lab nm (r.go w)))) (fun j σ H5 => ∃ (G5 : Hp) (kvs : List (Key × V)) (x5 x6 : Option V), σ = [some (.ref a), some (.ref le), some (.ref p), some (nV (1 + (stc r nm S i + ((S.take j).filter (isL r nm (i + 1))).length))), some (.int (1 + (i : Nat))), x5, x6] ∧ Gr W0 G H G5 H5 ∧ H5 p = some (.dK kvs) ∧ G5 p = none ∧ H5 le = some (.lst (vN (endsL r S))) ∧ kvs.length ≤ stc r nm S i + ((S.take j).filter (isL r nm (i + 1))).length ∧
        ∀ j' w, S[j']? = some w → if lab nm (r.go w) ≤ i ∨ (lab nm (r.go w) = i + 1 ∧ j' < j) then FamV r S G5 w (valV kvs (.inl ((j' : Nat) : Int))) else valV kvs (.inl ((j' : Nat) : Int)) = none)
      ⟨G3, kvs, x5, x6, rfl, g3, hp3, gp3, he3, by simpa using hlen3, fun j' w hw => ?_⟩ (fun j σ H5 _ ⟨_, _, _, _, _, g5, _⟩ => SqL.of (g5.sub0 _ _ h1)) ?_ ?_⟩
    · have := hk3 j' w hw
      by_cases hc : lab nm (r.go w) ≤ i
      · rw [if_pos (.inl hc)]; rw [if_pos hc] at this; exact this
      · rw [if_neg (by omega)]; rw [if_neg hc] at this; exact this
    · rintro j y σ H5 H6 hj ⟨G5, kvs5, x5', x6', rfl, g5, hp5, gp5, he5, hlen5, hk5⟩ ⟨pt, ut, yt, rfl, npt, rfl, e1, e2⟩
      cases (Option.some.inj e1)
      obtain ⟨lb, hlb, rfl⟩ := map_get e2
      obtain ⟨w0, hw0, rfl⟩ := map_get hlb
      have hjS : j < S.length := (List.getElem?_eq_some_iff.mp hw0).1
      refine ⟨pt, _, rfl, SqT.of upd_same, rfl, _, _, rfl, _, _, rfl, rfl, ?_⟩
      have g6 := g5.al (o := .tup [.int (j : Nat), nV (lab nm (r.go w0))]) npt
      have hp6 : upd H5 pt (.tup [.int (j : Nat), nV (lab nm (r.go w0))]) p = some (.dK kvs5) := by rw [upd_ne (ne_of_none hp5 npt)]; exact hp5
      have he6 : upd H5 pt (.tup [.int (j : Nat), nV (lab nm (r.go w0))]) le = some (.lst (vN (endsL r S))) := by rw [upd_ne (ne_of_none he5 npt)]; exact he5
      generalize upd H5 pt (.tup [.int (j : Nat), nV (lab nm (r.go w0))]) = H6 at *
      have htk : S.take (j + 1) = S.take j ++ [w0] := by rw [List.take_add_one, hw0]; rfl
      -- nothing to do
      have skip : isL r nm (i + 1) w0 = false → ∃ (G7 : Hp) (kvs : List (Key × V)) (x5 x6 : Option V), ([some (.ref a), some (.ref le), some (.ref p), some (nV (1 + (stc r nm S i + ((S.take j).filter (isL r nm (i + 1))).length))), some (.int (1 + (i : Nat))), some (.int (j : Nat)), some (nV (lab nm (r.go w0)))] : L2.St) = [some (.ref a), some (.ref le), some (.ref p), some (nV (1 + (stc r nm S i + ((S.take (j + 1)).filter (isL r nm (i + 1))).length))), some (.int (1 + (i : Nat))), x5, x6] ∧ Gr W0 G H G7 H6 ∧ H6 p = some (.dK kvs) ∧ G7 p = none ∧ H6 le = some (.lst (vN (endsL r S))) ∧ kvs.length ≤ stc r nm S i + ((S.take (j + 1)).filter (isL r nm (i + 1))).length ∧
          ∀ j' w, S[j']? = some w → if lab nm (r.go w) ≤ i ∨ (lab nm (r.go w) = i + 1 ∧ j' < j + 1) then FamV r S G7 w (valV kvs (.inl ((j' : Nat) : Int))) else valV kvs (.inl ((j' : Nat) : Int)) = none := fun hL => by
        have hft : ((S.take (j + 1)).filter (isL r nm (i + 1))).length = ((S.take j).filter (isL r nm (i + 1))).length := by
          rw [htk, List.filter_append, List.filter_cons, hL]; simp
        rw [hft]
        refine ⟨G5, kvs5, _, _, rfl, g6, hp6, gp5, he6, hlen5, fun j' w hw => ?_⟩
        have := hk5 j' w hw
        by_cases hc : lab nm (r.go w) ≤ i ∨ (lab nm (r.go w) = i + 1 ∧ j' < j)
        · rw [if_pos hc] at this
          rw [if_pos (by omega)]; exact this
        · rw [if_neg hc] at this
          by_cases hc2 : lab nm (r.go w) ≤ i ∨ (lab nm (r.go w) = i + 1 ∧ j' < j + 1)
          · rw [if_pos hc2]
            have hjj : j' = j := by omega
            subst hjj
            rw [hw0] at hw
            cases hw
            unfold FamV
            have hf : (r.go w0).fl = false := by
              unfold isL at hL
              rw [show lab nm (r.go w0) = i + 1 by omega] at hL
              simpa using hL
            rw [if_neg (by rw [hf]; simp)]
            exact this
          · rw [if_neg hc2]; exact this
      refine ⟨_, rfl, _, rfl, rfl, _, rfl, ?_⟩
      have ed : decide (nV (lab nm (r.go w0)) = V.int (1 + (i : Nat))) = decide (lab nm (r.go w0) = i + 1) := decide_eq_decide.mpr ⟨fun z => by injection z with z; omega, fun z => congrArg V.int (by omega)⟩
      rw [ed]
      by_cases hlab : lab nm (r.go w0) = i + 1
      · rw [decide_eq_true hlab]
        refine iteT ⟨_, rfl, a, _, dx, _, _, rfl, g6.sub0 _ _ ha, T.cRows, T.nRows_fulls, lRows_fulls, _, rfl, q3, _, _, nV (nfl (r.go w0)), rfl, rfl, SqL.of (g6.sub0 _ _ h3), atI_n rfl (by rw [List.getElem?_map, List.getElem?_map, hw0]; rfl), rfl, _, rfl, ?_⟩
        cases hf : (r.go w0).fl with
        | false =>
          rw [show decide (nV (nfl (r.go w0)) = V.int 1) = false from by unfold nfl; rw [hf]; decide]
          exact iteF (skip (by unfold isL; rw [hf, Bool.and_false]))
        | true =>
          rw [show decide (nV (nfl (r.go w0)) = V.int 1) = true from by unfold nfl; rw [hf]; decide]
          have hL : isL r nm (i + 1) w0 = true := by unfold isL; rw [hf, Bool.and_true, beq_iff_eq]; exact hlab
          have hfam := fam_at2 O hw0 hf hlab
          generalize hm : stc r nm S i + ((S.take j).filter (isL r nm (i + 1))).length = m at *
          have hmlt := (List.getElem?_eq_some_iff.mp hfam).1
          have em := ends_at O (m := m) (by omega)
          have em1 := ends_at O (m := m + 1) (by omega)
          have hpos : 1 ≤ pos r nm S m := by unfold pos; omega
          have hps := pos_succ hfam
          refine iteT ⟨_, rfl, _, rfl, ((1 + m : Nat) : Int), 1, rfl, rfl, le, _, _, nV (pos r nm S m - 1), rfl, rfl, SqL.of he6, atI_n (j := m) (by omega) (by rw [List.getElem?_map, em]; rfl), ((pos r nm S m - 1 : Nat) : Int), 1, rfl, rfl, _, rfl, _, rfl, le, _, _, nV (pos r nm S (m + 1) - 1), rfl, rfl, SqL.of he6, atI_n (j := m + 1) (by omega) (by rw [List.getElem?_map, em1]; rfl), ((pos r nm S (m + 1) - 1 : Nat) : Int), 1, rfl, rfl, by show 2 ≤ sizeLine; decide, fun pq npq => ?_⟩
          have t1 : ((pos r nm S m - 1 : Nat) : Int) + 1 = ((pos r nm S m : Nat) : Int) := by omega
          have t2 : ((pos r nm S (m + 1) - 1 : Nat) : Int) + 1 = ((pos r nm S m + (r.go w0).kids.length : Nat) : Int) := by omega
          simp only [t1, t2]
          have g7 := (g6.al (o := .tup [nV (pos r nm S m), nV (pos r nm S m + (r.go w0).kids.length)]) npq).frz (g6.dom _ npq) upd_same
          have s7 := same_frz (p := pq) (g6.al (o := .tup [nV (pos r nm S m), nV (pos r nm S m + (r.go w0).kids.length)]) npq).sub upd_same
          have hq7 : upd G5 pq (.tup [nV (pos r nm S m), nV (pos r nm S m + (r.go w0).kids.length)]) pq = some (.tup [nV (pos r nm S m), nV (pos r nm S m + (r.go w0).kids.length)]) := upd_same
          have hp7 : upd H6 pq (.tup [nV (pos r nm S m), nV (pos r nm S m + (r.go w0).kids.length)]) p = some (.dK kvs5) := by rw [upd_ne (ne_of_none hp6 npq)]; exact hp6
          have he7 : upd H6 pq (.tup [nV (pos r nm S m), nV (pos r nm S m + (r.go w0).kids.length)]) le = some (.lst (vN (endsL r S))) := by rw [upd_ne (ne_of_none he6 npq)]; exact he6
          have gp7 : upd G5 pq (.tup [nV (pos r nm S m), nV (pos r nm S m + (r.go w0).kids.length)]) p = none := by rw [upd_ne (ne_of_none hp6 npq)]; exact gp5
          generalize upd G5 pq (.tup [nV (pos r nm S m), nV (pos r nm S m + (r.go w0).kids.length)]) = G7 at *
          generalize upd H6 pq (.tup [nV (pos r nm S m), nV (pos r nm S m + (r.go w0).kids.length)]) = H7 at *
          have g8 := g7.wr (o := .dK (putK kvs5 (.inl ((j : Nat) : Int)) (.ref pq))) (.inl npH) gp7 hp7
          refine ⟨_, rfl, _, rfl, p, _, rfl, .inl ⟨kvs5, .inl ((j : Nat) : Int), hp7, rfl, smallT (by omega), rfl⟩, _, rfl, ((1 + m : Nat) : Int), 1, rfl, rfl, ?_⟩
          have hft : ((S.take (j + 1)).filter (isL r nm (i + 1))).length = ((S.take j).filter (isL r nm (i + 1))).length + 1 := by
            rw [htk, List.filter_append, List.length_append, List.filter_cons, hL]; simp
          have hlp := length_putK kvs5 (.inl ((j : Nat) : Int)) (V.ref pq)
          refine ⟨G7, putK kvs5 (.inl ((j : Nat) : Int)) (.ref pq), some (.int (j : Nat)), some (nV (lab nm (r.go w0))), ?_, g8, upd_same, gp7, by rw [upd_ne lep]; exact he7, by rw [hft]; omega, fun j' w hw => ?_⟩
          · have e9 : ((1 + m : Nat) : Int) + 1 = ((1 + (stc r nm S i + ((S.take (j + 1)).filter (isL r nm (i + 1))).length) : Nat) : Int) := by rw [hft]; omega
            simp only [e9]
            rfl
          · rw [valV_put]
            by_cases hjj : j' = j
            · subst hjj
              rw [hw0] at hw
              cases hw
              rw [if_pos (by omega), if_pos rfl]
              unfold FamV
              rw [if_pos hf]
              exact ⟨pq, _, rfl, hq7, fun jj hjj => kid_at O hfam hjj⟩
            · rw [if_neg (show ¬ (Sum.inl ((j' : Nat) : Int) : Key) = Sum.inl ((j : Nat) : Int) from fun z => by injection z with z; omega)]
              have := hk5 j' w hw
              by_cases hc : lab nm (r.go w) ≤ i ∨ (lab nm (r.go w) = i + 1 ∧ j' < j)
              · rw [if_pos hc] at this
                rw [if_pos (by omega)]; exact this.mono s7
              · rw [if_neg hc] at this
                rw [if_neg (by omega)]; exact this
      · rw [decide_eq_false hlab]
        exact iteF (iteF (skip (by unfold isL; rw [beq_eq_false_iff_ne.mpr hlab]; rfl)))
    · rintro σ H5 ⟨G5, kvs5, x5', x6', rfl, g5, hp5, gp5, he5, hlen5, hk5⟩
      have e : S.take (vN (S.map fun w => lab nm (r.go w))).length = S := by rw [hl1, List.take_length]
      rw [e] at hlen5 ⊢
      refine ⟨G5, kvs5, _, _, _, rfl, g5, hp5, gp5, he5, hlen5, fun j w hw => ?_⟩
      have := hk5 j w hw
      have hjl := (List.getElem?_eq_some_iff.mp hw).1
      by_cases hc : lab nm (r.go w) ≤ i + 1
      · rw [if_pos hc]; rw [if_pos (by omega)] at this; exact this
      · rw [if_neg hc]; rw [if_neg (by omega)] at this; exact this
  · rintro σ H3 ⟨G3, kvs, x4, x5, x6, rfl, g3, hp3, gp3, he3, hlen3, hk3⟩
    refine ⟨_, rfl, q p kvs _ H3 (g3.frz npH hp3) upd_same fun j w hw => ?_⟩
    have := hk3 j w hw
    have hle := lab_le O (List.mem_of_getElem? hw)
    rw [if_pos (by rw [List.length_map]; omega)] at this
    exact this.mono (same_frz g3.sub hp3)
end
end K5
set_option Elab.async false
set_option linter.all false
set_option maxRecDepth 100000
set_option maxHeartbeats 4000000
namespace K5
open PySem PySem.Spec PyProof.Rows L2
/-! ### the judge: depths -/
theorem nd_idx {α : Type} {S : List α} (n : S.Nodup) {i j : Nat} {w : α} (hi : S[i]? = some w) (hj : S[j]? = some w) : i = j := by
  obtain ⟨h1, e1⟩ := List.getElem?_eq_some_iff.mp hi
  obtain ⟨h2, e2⟩ := List.getElem?_eq_some_iff.mp hj
  rcases Nat.lt_trichotomy i j with h | h | h
  · exact absurd (e1.trans e2.symm) (List.pairwise_iff_getElem.mp n i j h1 h2 h)
  · exact h
  · exact absurd (e2.trans e1.symm) (List.pairwise_iff_getElem.mp n j i h2 h1 h)
theorem mem_putK {κ : Type} [DecidableEq κ] {kvs : List (κ × V)} {k : κ} {v : V} {kv : κ × V} (h : kv ∈ putK kvs k v) : kv = (k, v) ∨ kv ∈ kvs := by
  unfold putK at h
  split at h
  · obtain ⟨x, hx, rfl⟩ := List.mem_map.mp h
    split
    · rename_i e; exact .inl (by rw [← e])
    · exact .inr hx
  · rcases List.mem_append.mp h with h | h
    · exact .inr h
    · exact .inl (List.mem_singleton.mp h)
def FdU (S : List Way) (dvs : List (Key × V)) (w : Way) : Prop := ∀ i, S[i]? = some w → valV dvs (.inl ((i : Nat) : Int)) = some (nV (1 + w.length))
def Ent (S : List Way) (dvs : List (Key × V)) : Prop := ∀ kv ∈ dvs, ∃ i w, kv.1 = .inl ((i : Nat) : Int) ∧ S[i]? = some w ∧ kv.2 = nV (1 + w.length)
theorem FdU.put {S : List Way} {dvs : List (Key × V)} {w w' : Way} {i : Nat} (n : S.Nodup) (hi : S[i]? = some w') (h : w = w' ∨ FdU S dvs w) : FdU S (putK dvs (.inl ((i : Nat) : Int)) (nV (1 + w'.length))) w := by
  intro j hj
  rw [valV_put]
  by_cases e : j = i
  · subst e
    rw [hi] at hj
    cases hj
    rw [if_pos rfl]
  · rw [if_neg (show ¬ (Sum.inl ((j : Nat) : Int) : Key) = Sum.inl ((i : Nat) : Int) from fun z => by injection z with z; omega)]
    rcases h with h | h
    · rw [h] at hj
      exact absurd (nd_idx n hj hi) e
    · exact h j hj
theorem Ent.put {S : List Way} {dvs : List (Key × V)} {w' : Way} {i : Nat} (hi : S[i]? = some w') (h : Ent S dvs) : Ent S (putK dvs (.inl ((i : Nat) : Int)) (nV (1 + w'.length))) := by
  intro kv hkv
  rcases mem_putK hkv with e | e
  · exact ⟨i, w', by rw [e], hi, by rw [e]⟩
  · exact h kv e
def spDeps (K : PySem.W.Frag) : Sp := fun vs H Q _ => ∃ (G : Hp) (r : Tr) (nm : List Str) (S : List Way) (p : Addr) (kvs : List (Key × V)), vs = [.ref p] ∧ Same G H ∧ G p = some (.dK kvs) ∧ Ord r nm S ∧ S.length ≤ 5000 ∧ r.size ≤ 5000 ∧ (∀ i w, S[i]? = some w → FamV r S G w (valV kvs (.inl ((i : Nat) : Int)))) ∧
  ∀ p' dvs H', Same H H' → H p' = none → H' p' = some (.dK dvs) → (∀ w, r.ok w → FdU S dvs w) → Ent S dvs → dvs.length ≤ 100000 → Q (.ref p') H'
section
variable {P : Program} {w : World} {K : PySem.W.Frag} {mg : Str → Option Value} {base : Heap} {k : Nat}
theorem sc_depths_of : FnScope ["known", "found", "waiting", "row", "first", "behind", "child"] ["known"] (defScope s_depths_of) := ⟨rfl, rfl, rfl, by decide +kernel, rfl, by decide +kernel, by decide +kernel⟩
theorem hd_depths_of (D : Df K mg "depths_of" s_depths_of) (T : Tx K mg) : Hd P w K mg base "depths_of" ["known"] (k + 1) (spDeps K) := by
  refine hd_mk D sc_depths_of (fun _ _ _ _ _ _ us hl => match us, hl with | [_], _ => rfl) (fun vs H Q E h => ?_) (fun f cdv A outer s H vs Q E hr h => ?_)
  · obtain ⟨G, r, nm, S, p, kvs, rfl, _⟩ := h; rfl
  obtain ⟨G, r, nm, S, p, kvs, rfl, sg, hp, O, hz, hrz, hk, q⟩ := h
  refine ⟨_, (pss_cons (ps_set (i := 1) sc_depths_of.nd rfl (Or.inl rfl) (pe_disp (pps_cons pe_int pe_int pps_nil) (by rfl) (by rfl) (fun z => by cases z) (by decide)))
    (pss_cons (ps_set (i := 2) sc_depths_of.nd rfl (Or.inl rfl) (pe_lst (pa_cons pe_int pa_nil)))
    (pss_cons (ps_while PassesOwn.never (pt_cmpR op_gt (pe_callB call_len_seq (by rfl) T.len (by decide +kernel) (pa_cons (pv 2) pa_nil)) pe_int (nomark _))
      (pss_cons (ps_set (i := 3) sc_depths_of.nd rfl (Or.inl rfl) (pe_bm0 PySem.F.plainAttrs_list PySem.F.slot_list_pop PySem.F.type_list_pop mt_pop (pv 2)))
      (pss_cons (ps_asg (pe_dget2 (hu_of hr) (pv 0) (pv 3) (pe_tup (pa_cons pe_int (pa_cons pe_int pa_nil))) ⟨rfl, rfl, rfl, rfl⟩) (pg_tup rfl (pgs_cons (pg_name (i := 4) sc_depths_of.nd rfl (Or.inl rfl)) (pgs_cons (pg_name (i := 5) sc_depths_of.nd rfl (Or.inl rfl)) pgs_nil))))
      (pss_one (ps_for PassesOwn.never rfl (pi_range2 (by rfl) T.range (pa_cons (pv 4) (pa_cons (pv 5) pa_nil))) (pg_name (i := 6) sc_depths_of.nd rfl (Or.inl rfl))
        (pss_cons (ps_dput (hu_of hr) (pv 1) (pv 6) (pe_op op_add (pe_dget (hu_of hr) (pv 1) (pv 3) (fun _ _ => rfl)) pe_int) rfl)
        (pss_one (ps_expr (pe_bm PySem.F.plainAttrs_list PySem.F.slot_list_append PySem.F.type_list_append mt_append (pv 2) (pa_cons (pv 6) pa_nil))))))))))
    (pss_one (ps_ret (pv 1)))))), ?_⟩
  have hS0 := nil_in O
  have ndS := O.nodup
  refine fun pf npf => ⟨upd_same, [(.inl 0, .int 1)], rfl, by show 1 ≤ 15; decide, ?_⟩
  have e0 : upd (upd H pf (.dK [])) pf (.dK (mergeK [] [((.inl 0 : Key), V.int 1)])) = upd H pf (.dK [(.inl 0, .int 1)]) := by
    rw [upd_upd]
    rfl
  rw [e0]
  have g1 : Gr W0 G H G (upd H pf (.dK [(.inl 0, .int 1)])) := .alloc sg npf
  have hpf1 : upd H pf (.dK [(.inl 0, .int 1)]) pf = some (.dK [(.inl 0, .int 1)]) := upd_same
  generalize upd H pf (.dK [(.inl 0, .int 1)]) = H1 at *
  refine ⟨by show 1 ≤ sizeLine; decide, fun lw nlw => ?_⟩
  have nlwH := g1.dom _ nlw
  have hpl : pf ≠ lw := ne_of_none hpf1 nlw
  have g2 := g1.al (o := .lst [.int 0]) nlw
  have hpf2 : upd H1 lw (.lst [.int 0]) pf = some (.dK [(.inl 0, .int 1)]) := by rw [upd_ne hpl]; exact hpf1
  have gpf : G pf = none := same_none sg npf
  have glw : G lw = none := same_none sg nlwH
  have hrs : wsz r [[]] = r.size := by simp [wsz, Tr.go]
  refine ⟨fun m σ H2 => ∃ (is : List Nat) (us : List Way) (dvs : List (Key × V)) (x3 x4 x5 x6 : Option V), σ = [some (.ref p), some (.ref pf), some (.ref lw), x3, x4, x5, x6] ∧ Gr W0 G H G H2 ∧ H2 lw = some (.lst (vN is)) ∧ H2 pf = some (.dK dvs) ∧ (is.map fun j => S[j]?) = us.map some ∧ wsz r us ≤ r.size ∧ dvs.length + wsz r us ≤ r.size + us.length ∧ (∀ u ∈ us, FdU S dvs u) ∧ Ent S dvs ∧ (∀ w, r.ok w → FdU S dvs w ∨ ∃ u ∈ us, ∃ j v, w = u ++ j :: v) ∧ m = wsz r us,
    ⟨_, [0], [[]], _, none, none, none, none, rfl, g2, upd_same, hpf2, by simp [hS0], by rw [hrs]; exact Nat.le_refl _, by rw [hrs]; simp; omega, ?_, ?_, ?_, rfl⟩, ?_⟩
  · intro u hu
    rw [List.mem_singleton.mp hu]
    intro i hi
    have := nd_idx ndS hi hS0
    subst this
    rfl
  · intro kv hkv
    rw [List.mem_singleton.mp hkv]
    exact ⟨0, [], rfl, hS0, rfl⟩
  · intro w hw
    cases w with
    | nil =>
      left
      intro i hi
      have := nd_idx ndS hi hS0
      subst this
      rfl
    | cons j v => exact .inr ⟨[], by simp, j, v, rfl⟩
  rintro m σ H2 ⟨is, us, dvs, x3, x4, x5, x6, rfl, gr, h2, hf2, hus, hwz, hln, hwt, hent, hcov, rfl⟩
  refine ⟨_, rfl, lw, _, rfl, .inl (SqL.of h2), _, _, rfl, rfl, _, rfl, ?_⟩
  have hlen : is.length = us.length := by have := congrArg List.length hus; simpa using this
  rcases List.eq_nil_or_concat us with rfl | ⟨us', u, rfl⟩
  · have : is = [] := List.length_eq_zero_iff.mp (by rw [hlen]; rfl)
    subst this
    refine iteF ⟨_, rfl, q pf dvs H2 gr.same npf hf2 (fun w hw => ?_) hent (by simp at hln; omega)⟩
    rcases hcov w hw with h | ⟨u, hu, _⟩
    · exact h
    · cases hu
  · rw [List.concat_eq_append] at *
    obtain ⟨is', j, rfl⟩ : ∃ is' j, is = is' ++ [j] := by
      rcases List.eq_nil_or_concat is with h | ⟨is', j, h⟩
      · rw [h] at hlen; simp at hlen
      · exact ⟨is', j, by rw [h, List.concat_eq_append]⟩
    rw [List.map_append, List.map_append] at hus
    obtain ⟨hus', hju⟩ := List.append_inj hus (by rw [List.length_append, List.length_append] at hlen; simp at hlen ⊢; exact hlen)
    have hj : S[j]? = some u := by simpa using hju
    have hl5 : is'.length = us'.length := by have := congrArg List.length hus'; simpa using this
    have hsu := wsz_kids r u
    have hs1 : wsz r [u] = (r.go u).size := by simp [wsz]
    rw [wsz_app, hs1] at hwz hln
    have hwl := wsz_len r us'
    have hwk := wsz_len r (kidsW r u)
    have hkl : (kidsW r u).length = (r.go u).kids.length := kidsW_len r u
    rw [show decide ((0 : Int) < ((vN (is' ++ [j])).length : Int)) = true by simp <;> omega]
    refine iteT ⟨fun σ' H' => ∃ m', m' < wsz r (us' ++ [u]) ∧ _, fun _ _ h => h, ?_⟩
    have h2' : H2 lw = some (.lst (vN is' ++ [nV j])) := by rw [h2]; simp [vN]
    refine ⟨_, rfl, .inl ⟨rfl, _, SqL.of h2'⟩, lw, _, nV j, rfl, rfl, h2', last_of _ _, ?_⟩
    rw [List.dropLast_concat]
    have g3 : Gr W0 G H G (upd H2 lw (.lst (vN is'))) := gr.wr (.inl nlwH) glw h2
    have h3 : upd H2 lw (.lst (vN is')) lw = some (.lst (vN is')) := upd_same
    have hf3 : upd H2 lw (.lst (vN is')) pf = some (.dK dvs) := by rw [upd_ne hpl]; exact hf2
    generalize upd H2 lw (.lst (vN is')) = H3 at *
    refine ⟨_, rfl, p, rfl, .inl ⟨_, .inl (g3.sub _ _ hp)⟩, _, rfl, by show 2 ≤ sizeLine; decide, fun pd npd => ?_⟩
    have g4 := g3.al (o := .tup [.int 0, .int 0]) npd
    have h4 : upd H3 pd (.tup [.int 0, .int 0]) lw = some (.lst (vN is')) := by rw [upd_ne (ne_of_none h3 npd)]; exact h3
    have hf4 : upd H3 pd (.tup [.int 0, .int 0]) pf = some (.dK dvs) := by rw [upd_ne (ne_of_none hf3 npd)]; exact hf3
    have hpd : upd H3 pd (.tup [.int 0, .int 0]) pd = some (.tup [.int 0, .int 0]) := upd_same
    generalize upd H3 pd (.tup [.int 0, .int 0]) = H4 at *
    refine ⟨_, .inl ⟨kvs, .inl ((j : Nat) : Int), .inl (g4.sub _ _ hp), rfl, rfl⟩, ?_⟩
    obtain ⟨pq, b, epq, hpq, hkid, hb1, hb2⟩ : ∃ (pq : Addr) (b : Nat), (valV kvs (.inl ((j : Nat) : Int))).getD (.ref pd) = .ref pq ∧ H4 pq = some (.tup [nV b, nV (b + (r.go u).kids.length)]) ∧ (∀ jj, jj < (r.go u).kids.length → S[b + jj]? = some (u ++ [jj])) ∧ b ≤ 10000 ∧ (r.go u).kids.length ≤ 5000 := by
      have := hk j u hj
      unfold FamV at this
      split at this
      · rename_i hfl
        obtain ⟨pq, b, e, h1, h2⟩ := this
        have hkp := fl_iff.mp hfl
        have h5 := (List.getElem?_eq_some_iff.mp (h2 _ (show (r.go u).kids.length - 1 < _ by omega))).1
        exact ⟨pq, b, by rw [e]; rfl, g4.sub _ _ h1, h2, by omega, by omega⟩
      · rename_i hfl
        have h0 : (r.go u).kids.length = 0 := by
          rcases Nat.eq_zero_or_pos (r.go u).kids.length with h | h
          · exact h
          · exact absurd (fl_iff.mpr h) hfl
        refine ⟨pd, 0, by rw [this]; rfl, by rw [h0]; exact hpd, fun jj hjj => by omega, by omega, by omega⟩
    rw [epq]
    refine ⟨pq, _, rfl, SqT.of hpq, rfl, _, _, rfl, _, _, rfl, rfl, ?_⟩
    refine ⟨_, rfl, _, rfl, _, _, rfl, ⟨by omega, by omega, by omega, by omega⟩, ?_⟩
    have en : (((b + (r.go u).kids.length : Nat) : Int) - ((b : Nat) : Int)).toNat = (r.go u).kids.length := by omega
    rw [en]
    have fu : FdU S dvs u := hwt u (by simp)
    have hul : (us' ++ [u]).length = us'.length + 1 := by simp
    refine for_it walk_range (fun i σ H5 => ∃ (dv5 : List (Key × V)) (x6 : Option V), σ = [some (.ref p), some (.ref pf), some (.ref lw), some (nV j), some (nV b), some (nV (b + (r.go u).kids.length)), x6] ∧ Gr W0 G H G H5 ∧ H5 lw = some (.lst (vN (is' ++ (List.range i).map (b + ·)))) ∧ H5 pf = some (.dK dv5) ∧ dv5.length ≤ dvs.length + i ∧ FdU S dv5 u ∧ (∀ u1 ∈ us' ++ (kidsW r u).take i, FdU S dv5 u1) ∧ Ent S dv5 ∧
        (∀ w, r.ok w → FdU S dv5 w ∨ (∃ u1 ∈ us' ++ (kidsW r u).take i, ∃ j v, w = u1 ++ j :: v) ∨ ∃ jj v, i ≤ jj ∧ w = u ++ jj :: v))
      ⟨dvs, x6, rfl, g4, by simpa using h4, hf4, by omega, fu, fun u1 hu1 => hwt u1 (by simp at hu1; simp [hu1]), hent, fun w hw => ?_⟩ (fun _ _ _ _ _ => trivial) ?_ ?_
    · rcases hcov w hw with h | ⟨u1, hu1, jj, v, e⟩
      · exact .inl h
      · rcases List.mem_append.mp hu1 with h | h
        · exact .inr (.inl ⟨u1, by simp [h], jj, v, e⟩)
        · rw [List.mem_singleton.mp h] at e
          exact .inr (.inr ⟨jj, v, Nat.zero_le _, e⟩)
    · rintro i x σ H6 H5 hi ⟨dv5, x6', rfl, g5, hl5', hf5, hd5, hu5, hw5, he5, hc5⟩ ⟨rfl, rfl⟩
      have hSi := hkid i hi
      have hkv : ((b : Nat) : Int) + ((i : Nat) : Int) = ((b + i : Nat) : Int) := by omega
      refine ⟨_, rfl, _, rfl, pf, nV (1 + u.length), rfl, .inl ⟨dv5, .inl ((j : Nat) : Int), .inl hf5, rfl, (hu5 j hj).symm⟩, ((1 + u.length : Nat) : Int), 1, rfl, rfl, _, rfl, _, rfl, pf, _, rfl, .inl ⟨dv5, .inl ((b + i : Nat) : Int), hf5, congrArg V.int hkv, smallT (by omega), rfl⟩, ?_⟩
      have hval : ((1 + u.length : Nat) : Int) + 1 = ((1 + (u ++ [i]).length : Nat) : Int) := by rw [List.length_append]; simp only [List.length_cons, List.length_nil]; omega
      simp only [hval]
      have g6 : Gr W0 G H G (upd H5 pf (.dK (putK dv5 (.inl ((b + i : Nat) : Int)) (nV (1 + (u ++ [i]).length))))) := g5.wr (.inl npf) gpf hf5
      have hl6 : upd H5 pf (.dK (putK dv5 (.inl ((b + i : Nat) : Int)) (nV (1 + (u ++ [i]).length)))) lw = some (.lst (vN (is' ++ (List.range i).map (b + ·)))) := by rw [upd_ne hpl.symm]; exact hl5'
      have hf6 : upd H5 pf (.dK (putK dv5 (.inl ((b + i : Nat) : Int)) (nV (1 + (u ++ [i]).length)))) pf = some (.dK (putK dv5 (.inl ((b + i : Nat) : Int)) (nV (1 + (u ++ [i]).length)))) := upd_same
      have hlp := length_putK dv5 (.inl ((b + i : Nat) : Int)) (nV (1 + (u ++ [i]).length))
      generalize upd H5 pf (.dK (putK dv5 (.inl ((b + i : Nat) : Int)) (nV (1 + (u ++ [i]).length)))) = H6 at *
      refine ⟨_, rfl, .inl ⟨rfl, _, SqL.of hl6⟩, _, rfl, lw, _, _, rfl, rfl, hl6, smallT (by rw [List.length_map, List.length_append, List.length_map, List.length_range]; omega), ?_⟩
      have hkt : (kidsW r u).take (i + 1) = (kidsW r u).take i ++ [u ++ [i]] := by
        rw [List.take_add_one]
        congr 1
        unfold kidsW
        rw [List.getElem?_map, List.getElem?_range hi]
        rfl
      refine ⟨_, _, rfl, g6.wr (.inl nlwH) glw hl6, ?_, by rw [upd_ne hpl]; exact hf6, by omega, FdU.put ndS hSi (.inr hu5), ?_, Ent.put hSi he5, ?_⟩
      · rw [upd_same, hkv, List.range_succ]
        simp [vN]
      · intro u1 hu1
        rw [hkt, ← List.append_assoc] at hu1
        rcases List.mem_append.mp hu1 with h | h
        · exact FdU.put ndS hSi (.inr (hw5 u1 h))
        · exact FdU.put ndS hSi (.inl (List.mem_singleton.mp h))
      · intro w hw
        rcases hc5 w hw with h | ⟨u1, hu1, jj, v, e⟩ | ⟨jj, v, hjj, e⟩
        · exact .inl (FdU.put ndS hSi (.inr h))
        · exact .inr (.inl ⟨u1, by rw [hkt, ← List.append_assoc]; exact List.mem_append_left _ hu1, jj, v, e⟩)
        · rcases Nat.lt_or_ge i jj with h | h
          · exact .inr (.inr ⟨jj, v, h, e⟩)
          · have ej : jj = i := by omega
            subst ej
            cases v with
            | nil => exact .inl (FdU.put ndS hSi (.inl e))
            | cons j2 v2 =>
              refine .inr (.inl ⟨u ++ [jj], by rw [hkt, ← List.append_assoc]; exact List.mem_append_right _ (by simp), j2, v2, ?_⟩)
              rw [e]; simp
    · rintro σ H5 ⟨dv5, x6', rfl, g5, hl5', hf5, hd5, hu5, hw5, he5, hc5⟩
      have hkt : (kidsW r u).take (r.go u).kids.length = kidsW r u := List.take_of_length_le (by rw [hkl]; exact Nat.le_refl _)
      rw [hkt] at hw5 hc5
      refine ⟨wsz r (us' ++ kidsW r u), by rw [wsz_app, wsz_app, hs1]; omega, _, us' ++ kidsW r u, dv5, _, _, _, _, rfl, g5, hl5', hf5, ?_, by rw [wsz_app]; omega, by rw [wsz_app, List.length_append, hkl]; rw [List.length_append] at hln; simp only [List.length_cons, List.length_nil] at hln; omega, hw5, he5, fun w hw => ?_, rfl⟩
      · rw [List.map_append, List.map_append, hus']
        congr 1
        unfold kidsW
        rw [List.map_map, List.map_map]
        refine List.map_congr_left fun jj hjj => ?_
        exact hkid jj (List.mem_range.mp hjj)
      · rcases hc5 w hw with h | h | ⟨jj, v, hjj, e⟩
        · exact .inl h
        · exact .inr h
        · exfalso
          rw [e] at hw
          obtain ⟨_, h2⟩ := (ok_app r u (jj :: v)).mp hw
          exact absurd h2.1 (by omega)
end
end K5
set_option Elab.async false
set_option linter.all false
set_option maxRecDepth 100000
set_option maxHeartbeats 4000000
namespace K5
open PySem PySem.Spec PyProof.Rows L2
/-! ### the judge: the rows of a document -/
structure JP (K : PySem.W.Frag) (G H : Hp) (r : Tr) (nm : List Str) (S : List Way) (a : Addr) : Prop where
  s : Same G H
  rows : IsRows K G r nm S a
  O : Ord r nm S
  z : S.length ≤ 5000
  n : nm.length ≤ 60
  good : r.good = true
  el : r.isTx = false
  fit : r.fit
  d : r.depth ≤ 60
  rz : r.size ≤ 5000
theorem JP.up {K : PySem.W.Frag} {G H H' : Hp} {r : Tr} {nm : List Str} {S : List Way} {a : Addr} (h : JP K G H r nm S a) (s : Same H H') : JP K G H' r nm S a := { h with s := h.s.trans s }
def spJ (K : PySem.W.Frag) (v : V) : Sp := fun vs H Q _ => ∃ (G : Hp) (r : Tr) (nm : List Str) (S : List Way) (a : Addr), vs = [.ref a] ∧ JP K G H r nm S a ∧ ∀ H', Same H H' → Q v H'
theorem fit_go : ∀ (w : Way) (t : Tr), t.ok w → t.fit → (t.go w).fit
  | [], t, _, h => h
  | j :: w, .tx s, h, _ => by simp [Tr.ok, Tr.kids] at h
  | j :: w, .el m cs, h, hg => by
    simp only [Tr.fit] at hg
    exact fit_go w _ h.2 (fits_get hg.2 (ch_get (t := .el m cs) h.1))
theorem ok_len : ∀ (w : Way) (t : Tr), t.ok w → w.length < t.depth
  | [], t, _ => t.depth_pos
  | j :: w, .tx s, h => by simp [Tr.ok, Tr.kids] at h
  | j :: w, .el m cs, h => by
    have := ok_len w _ h.2
    have hd := depths_get (ch_get (t := .el m cs) h.1)
    simp only [List.length_cons, Tr.depth]
    simp only [Tr.kids] at hd
    omega
theorem inV_ints (x : Int) (xs : List Int) : inV (.int x) (xs.map V.int) = decide (x ∈ xs) := by
  unfold inV
  rw [List.any_map]
  by_cases h : x ∈ xs
  · rw [decide_eq_true h]
    exact List.any_eq_true.mpr ⟨x, h, by simp [Function.comp, eqV]⟩
  · rw [decide_eq_false h, Bool.eq_false_iff]
    intro q
    obtain ⟨y, hy, e⟩ := List.any_eq_true.mp q
    simp only [Function.comp, eqV, beq_iff_eq] at e
    exact h (e ▸ hy)
theorem flat_ints (xs : List Int) : (xs.map V.int).all flatV = true := by simp [flatV]
theorem vN_ints (xs : List Nat) : vN xs = (xs.map fun x => ((x : Nat) : Int)).map V.int := by simp [vN]
/-- a text that is not the last of its family is followed by an element -/
theorem text_next {r : Tr} {nm : List Str} {S : List Way} (O : Ord r nm S) (hg : r.good = true) {i : Nat} {u v : Way} (hu : S[i]? = some u) (hv : S[i + 1]? = some v) (h1 : (r.go u).isTx = true) (h2 : (r.go v).isTx = true) (hel : r.isTx = false) : lst r u = 1 := by
  rcases List.eq_nil_or_concat u with rfl | ⟨p, j, rfl⟩
  · rw [show r.go [] = r from rfl, hel] at h1; cases h1
  · rw [List.concat_eq_append] at *
    rw [lst_snoc]
    by_cases hj : j + 1 = (r.go p).kids.length
    · rw [if_pos hj]
    · exfalso
      have hok := O.ok _ (List.mem_of_getElem? hu)
      obtain ⟨hp, hjl⟩ := (ok_snoc r p j).mp hok
      have hfl : (r.go p).fl = true := fl_iff.mpr (by omega)
      obtain ⟨ip, hip⟩ := List.getElem?_of_mem (O.mem p hp)
      obtain ⟨m, hm⟩ := List.getElem?_of_mem (show p ∈ fam r nm S from List.mem_of_getElem? (fam_at O hip hfl))
      have k1 := kid_at O hm hjl
      have k2 := kid_at O hm (show j + 1 < _ by omega)
      have e1 := nd_idx O.nodup hu k1
      rw [show pos r nm S m + (j + 1) = i + 1 by omega, hv] at k2
      cases k2
      rw [go_snoc] at h1 h2
      have hgp := good_go p r hp hg
      cases e : r.go p with
      | tx s => rw [e] at hjl; simp [Tr.kids] at hjl
      | el n cs =>
        rw [e] at h1 h2 hgp hjl hj
        have hap := (good_el hgp).2
        unfold apart at hap
        rw [Bool.not_eq_true'] at hap
        have : (adj cs).any id = true := by
          refine List.any_eq_true.mpr ⟨true, ?_, rfl⟩
          unfold adj
          refine List.mem_map.mpr ⟨j, List.mem_range.mpr ?_, ?_⟩
          · simp only [Tr.kids] at hjl hj; omega
          · have a1 : (cs.getD (j + 1) (.tx Str.empty)).isTx = true := h2
            have a2 : (cs.getD j (.tx Str.empty)).isTx = true := h1
            rw [a1, a2]; rfl
        rw [this] at hap; cases hap
theorem lab_0 {nm : List Str} {t : Tr} (h : lab nm t = 0) : t.isTx = true ∧ nfl t = 0 := by
  cases t with
  | tx s => exact ⟨rfl, rfl⟩
  | el n cs => simp [lab] at h
theorem nfl_01 (t : Tr) : nfl t = 0 ∨ nfl t = 1 := by unfold nfl; split <;> simp
section
variable {P : Program} {w : World} {K : PySem.W.Frag} {mg : Str → Option Value} {base : Heap} {k : Nat}
theorem all_false {n : Nat} : ∀ b ∈ (List.range n).map (fun _ => V.bl false), b = V.bl false := fun b hb => by
  obtain ⟨_, _, rfl⟩ := List.mem_map.mp hb; rfl
theorem sc_item_fault : FnScope ["rows", "row", "label", "last", "full"] ["rows"] (defScope s_item_fault) := ⟨rfl, rfl, rfl, by decide +kernel, rfl, by decide +kernel, by decide +kernel⟩
theorem hd_item_fault (D : Df K mg "item_fault" s_item_fault) (T : Tx K mg) (h_first_row : Hd P w K mg base "first_row" ["truths"] k spFirst) : Hd P w K mg base "item_fault" ["rows"] (k + 1) (spJ K .non) := by
  refine hd_mk D sc_item_fault (fun _ _ _ _ _ _ us hl => match us, hl with | [_], _ => rfl) (fun vs H Q E h => ?_) (fun f cdv A outer s H vs Q E hr h => ?_)
  · obtain ⟨G, r, nm, S, a, rfl, _⟩ := h; rfl
  obtain ⟨G, r, nm, S, a, rfl, J, q⟩ := h
  refine ⟨_, (pss_cons (ps_set (i := 1) sc_item_fault.nd rfl (Or.inl rfl) (pe_hd h_first_row hr rfl (pa_cons (pe_lc (own := [("label", 2)]) (g := gName 2) (tt := tYes) rfl sc_item_fault.nd (pi_list (pe_fld (pv 0) rfl)) (blkOk_by (own := [("label", 2)]) (N := ["rows", "row", "label", "last", "full"]) (sc := defScope s_item_fault) (by decide +kernel)) (fun _ _ _ _ _ => (pg_name (i := 2) sc_item_fault.nd rfl (Or.inl rfl))) (fun _ _ _ _ _ => pts_nil) (fun _ _ _ _ _ => (pe_not (pe_chain op_le op_le pe_int (pv 2) (pe_callB (clen K) (by rfl) T.len (by decide +kernel) (pa_cons (pe_fldK K (pv 0) rfl) pa_nil)))))) pa_nil)))
    (pss_cons (ps_if (pt_cmpR op_notN (pv 1) pe_non (nomark _))
      (pss_one (ps_ret (pe_tup (pa_cons (pv 1) (pa_cons pe_str pa_nil)))))
      pss_nil)
    (pss_cons (ps_set (i := 1) sc_item_fault.nd rfl (Or.inl rfl) (pe_hd h_first_row hr rfl (pa_cons (pe_lc (own := [("last", 3)]) (g := gName 3) (tt := tYes) rfl sc_item_fault.nd (pi_list (pe_fld (pv 0) rfl)) (blkOk_by (own := [("last", 3)]) (N := ["rows", "row", "label", "last", "full"]) (sc := defScope s_item_fault) (by decide +kernel)) (fun _ _ _ _ _ => (pg_name (i := 3) sc_item_fault.nd rfl (Or.inl rfl))) (fun _ _ _ _ _ => pts_nil) (fun _ _ _ _ _ => (pe_cmpR (onin K) (pv 3) (pe_tup (pa_cons pe_int (pa_cons pe_int pa_nil))) (by rfl)))) pa_nil)))
    (pss_cons (ps_if (pt_cmpR op_notN (pv 1) pe_non (nomark _))
      (pss_one (ps_ret (pe_tup (pa_cons (pv 1) (pa_cons pe_str pa_nil)))))
      pss_nil)
    (pss_cons (ps_set (i := 1) sc_item_fault.nd rfl (Or.inl rfl) (pe_hd h_first_row hr rfl (pa_cons (pe_lc (own := [("full", 4), ("label", 2)]) (g := gTup K 2 (gCons (gName 4) (gCons (gName 2) gNil))) (tt := tYes) rfl sc_item_fault.nd (pi_zip (by rfl) T.zip (pa_cons (pe_fld (pv 0) rfl) (pa_cons (pe_fld (pv 0) rfl) pa_nil))) (blkOk_by (own := [("full", 4), ("label", 2)]) (N := ["rows", "row", "label", "last", "full"]) (sc := defScope s_item_fault) (by decide +kernel)) (fun _ _ _ _ _ => (pg_tup rfl (pgs_cons (pg_name (i := 4) sc_item_fault.nd rfl (Or.inl rfl)) (pgs_cons (pg_name (i := 2) sc_item_fault.nd rfl (Or.inl rfl)) pgs_nil)))) (fun _ _ _ _ _ => pts_nil) (fun _ _ _ _ _ => (pe_or (pe_cmpR (onin K) (pv 4) (pe_tup (pa_cons pe_int (pa_cons pe_int pa_nil))) (by rfl)) (pe_one (pe_and (pe_cmpR op_eq (pv 4) pe_int (nomark _)) (pe_one (pe_cmpR op_eq (pv 2) pe_int (nomark _)))))))) pa_nil)))
    (pss_cons (ps_if (pt_cmpR op_notN (pv 1) pe_non (nomark _))
      (pss_one (ps_ret (pe_tup (pa_cons (pv 1) (pa_cons pe_str pa_nil)))))
      pss_nil)
    (pss_one (ps_ret pe_non)))))))), ?_⟩
  obtain ⟨dx, q0, q1, q2, q3, q4, ha, h0, h1, h2, h3, h4⟩ := J.rows
  have sg := J.s
  have O := J.O
  have hz := J.z
  refine ⟨_, rfl, a, _, dx, _, _, rfl, sg _ _ ha, T.cRows, T.nRows_labels, lRows_labels, q1, rfl, ⟨_, SqL.of (sg _ _ h1)⟩, fun D1 hD1 => lc_map (walk_list (xs := vN (S.map fun w => lab nm (r.go w)))) hD1 sg (fun G' H' gr => SqL.of (gr.same _ _ (sg _ _ h1))) (fun _ => V.bl false) (by simp [vN]; omega) ?_ ?_⟩
  · rintro i y G' H' H'' kk Z hi gr gD ⟨rfl, hy⟩ yes
    obtain ⟨lb, hlb, rfl⟩ := map_get hy
    obtain ⟨w0, hw0, rfl⟩ := map_get hlb
    have hle := lab_le O (List.mem_of_getElem? hw0)
    have s' := sg.trans gr.same
    refine ⟨rfl, ty_yes ⟨_, rfl, _, _, rfl, rfl, _, rfl, ?_⟩⟩
    rw [show decide ((0 : Int) ≤ ((lab nm (r.go w0) : Nat) : Int)) = true by simp]
    refine iteT ⟨_, rfl, a, _, dx, _, _, rfl, s' _ _ ha, T.cRows, T.nRows_names, lRows_names, q0, _, rfl, .inl (SqL.of (s' _ _ h0)), _, _, rfl, rfl, _, rfl, ?_⟩
    have := yes _ _ (Gr.refl gr.sub)
    rw [show decide (((lab nm (r.go w0) : Nat) : Int) ≤ (((nm.map V.str).length : Nat) : Int)) = true from decide_eq_true (by rw [List.length_map]; omega)]
    exact this
  intro G1 H1 g1 hl1 gD1
  refine ⟨D1, _, rfl, hl1, all_false, fun H2 s2 => ?_⟩
  refine ⟨_, rfl, rfl, _, rfl, iteF ?_⟩
  have s12 := sg.trans (g1.same.trans s2)
  have hlz : (lsts r S).length = S.length := by simp [lsts]
  refine ⟨_, rfl, a, _, dx, _, _, rfl, s12 _ _ ha, T.cRows, T.nRows_lasts, lRows_lasts, q2, rfl, ⟨_, SqL.of (s12 _ _ h2)⟩, fun D2 hD2 => lc_map (walk_list (xs := (lsts r S).map V.int)) hD2 s12 (fun G' H' gr => SqL.of (gr.same _ _ (s12 _ _ h2))) (fun _ => V.bl false) (by simp; omega) ?_ ?_⟩
  · rintro i y G' H' H'' kk Z hi gr gD ⟨rfl, hy⟩ yes
    obtain ⟨z, hz', rfl⟩ := map_get hy
    have hb := lsts_bt r S z (List.mem_of_getElem? hz')
    refine ⟨rfl, ty_yes ⟨_, rfl, by show 2 ≤ sizeLine; decide, fun tp ntp => ⟨tp, _, rfl, .inr (SqT.of upd_same), rfl, by decide, ?_⟩⟩⟩
    have := yes _ _ ((Gr.refl (W := W0) gr.sub).al (o := .tup [.int 0, .int 1]) ntp)
    rcases hb with h | h <;> rw [h] <;> exact this
  intro G3 H3 g3 hl3 gD3
  refine ⟨D2, _, rfl, hl3, all_false, fun H4 s4 => ?_⟩
  refine ⟨_, rfl, rfl, _, rfl, iteF ?_⟩
  have s14 := s12.trans (g3.same.trans s4)
  refine ⟨_, rfl, a, _, dx, _, _, rfl, s14 _ _ ha, T.cRows, T.nRows_fulls, lRows_fulls, _, rfl, a, _, dx, _, _, rfl, s14 _ _ ha, T.cRows, T.nRows_labels, lRows_labels, q3, q1, _, _, rfl, SqL.of (s14 _ _ h3), SqL.of (s14 _ _ h1), fun D3 hD3 => lc_map (walk_zip (n := S.length) (by simp [vN])) hD3 s14 (fun G' H' gr => ⟨SqL.of (gr.same _ _ (s14 _ _ h3)), SqL.of (gr.same _ _ (s14 _ _ h1))⟩) (fun _ => V.bl false) (by omega) ?_ ?_⟩
  · rintro i x G' H' H'' kk Z hi gr gD ⟨p, u, y, rfl, np, rfl, e1, e2⟩ yes
    obtain ⟨f1, hf1, rfl⟩ := map_get e1
    obtain ⟨w0, hw0, rfl⟩ := map_get hf1
    obtain ⟨f2, hf2, rfl⟩ := map_get e2
    obtain ⟨w1, hw1, rfl⟩ := map_get hf2
    rw [hw0] at hw1
    cases hw1
    have g5 := (Gr.refl (W := W0) gr.sub).al (o := .tup [nV (nfl (r.go w0)), nV (lab nm (r.go w0))]) np
    refine ⟨p, _, rfl, SqT.of upd_same, rfl, _, _, rfl, _, _, rfl, rfl, rfl, ty_yes ⟨_, rfl, by show 2 ≤ sizeLine; decide, fun tp ntp => ⟨tp, _, rfl, .inr (SqT.of upd_same), rfl, by decide, ?_⟩⟩⟩
    have := yes _ _ (g5.al (o := .tup [.int 0, .int 1]) ntp)
    rcases nfl_01 (r.go w0) with h | h
    · rw [h] at this ⊢
      refine ⟨false, rfl, iteF ⟨_, rfl, rfl, false, by decide, iteF this⟩⟩
    · have hl00 := h
      rw [h] at this ⊢
      have hl0 : lab nm (r.go w0) ≠ 0 := fun z => by have := (lab_0 z).2; omega
      refine ⟨false, rfl, iteF ⟨_, rfl, rfl, true, by decide, iteT ⟨_, rfl, rfl, ?_⟩⟩⟩
      rw [show decide (nV (lab nm (r.go w0)) = V.int 0) = false from decide_eq_false fun z => by injection z with z; omega]
      exact this
  intro G5 H5 g5 hl5 gD5
  refine ⟨D3, _, rfl, hl5, all_false, fun H6 s6 => ?_⟩
  exact ⟨_, rfl, rfl, _, rfl, iteF (q _ (g1.same.trans (s2.trans (g3.same.trans (s4.trans (g5.same.trans s6))))))⟩
theorem sc_names_are_right : FnScope ["rows", "name", "label"] ["rows"] (defScope s_names_are_right) := ⟨rfl, rfl, rfl, by decide +kernel, rfl, by decide +kernel, by decide +kernel⟩
theorem dpAll_strs {K : PySem.W.Frag} {H : Hp} : ∀ xs : List Str, DpAll K H (xs.map V.str) (xs.map PyData.str)
  | [] => .nil
  | x :: xs => .cons (.str x) (dpAll_strs xs)
theorem strOk_of {x : Str} (h : ∀ c ∈ x.cps.toList, c < 0x110000) : PyData.strOk x = true := by
  unfold PyData.strOk
  rw [← Array.all_toList, List.all_eq_true]
  exact fun c hc => decide_eq_true (h c hc)
theorem nm_strOk {x : Str} (h : isNm x = true) : PyData.strOk x = true := by
  unfold isNm at h
  rw [Bool.and_eq_true] at h
  refine strOk_of fun c hc => ?_
  have := List.all_eq_true.mp h.2 _ (List.mem_map.mpr ⟨c, hc, rfl⟩)
  have hl : ∀ c ∈ letters.cps.toList, c < 0x110000 := by decide +kernel
  exact hl c (by simpa using this)
theorem txt_strOk {x : Str} (h : isTxt x = true) : PyData.strOk x = true := by
  unfold isTxt at h
  rw [Bool.and_eq_true] at h
  refine strOk_of fun c hc => ?_
  have := List.all_eq_true.mp h.2 _ (List.mem_map.mpr ⟨c, hc, rfl⟩)
  simp only [id, isCh, Bool.or_eq_true, Bool.and_eq_true, decide_eq_true_eq] at this
  omega
theorem strs_lay : ∀ xs : List Str, (∀ x ∈ xs, PyData.strOk x = true) → PyData.canLayAll0 (xs.map PyData.str) = true ∧ PyData.depthAll (xs.map PyData.str) ≤ 1
  | [], _ => ⟨rfl, by simp [PyData.depthAll]⟩
  | x :: xs, h => by
    obtain ⟨h1, h2⟩ := strs_lay xs fun y hy => h y (List.mem_cons_of_mem _ hy)
    refine ⟨by simp [PyData.canLayAll0, PyData.canLay0, h1, h x (List.mem_cons_self ..)], ?_⟩
    simp only [List.map_cons, PyData.depthAll, PyData.depth]
    omega
theorem strs_shaped (xs : List Str) (h : ∀ x ∈ xs, PyData.strOk x = true) : SeqAt.shaped (.list (xs.map PyData.str)) = true := by
  obtain ⟨h1, h2⟩ := strs_lay xs h
  unfold SeqAt.shaped
  rw [Bool.and_eq_true]
  refine ⟨h1, decide_eq_true ?_⟩
  show PyData.depthAll _ + 1 ≤ 64
  omega
theorem hd_names_are_right (D : Df K mg "names_are_right" s_names_are_right) (T : Tx K mg) (h_is_name : Hd P w K mg base "is_name" ["word"] k spNm) : Hd P w K mg base "names_are_right" ["rows"] (k + 1) (spJ K (.bl true)) := by
  refine hd_mk D sc_names_are_right (fun _ _ _ _ _ _ us hl => match us, hl with | [_], _ => rfl) (fun vs H Q E h => ?_) (fun f cdv A outer s H vs Q E hr h => ?_)
  · obtain ⟨G, r, nm, S, a, rfl, _⟩ := h; rfl
  obtain ⟨G, r, nm, S, a, rfl, J, q⟩ := h
  refine ⟨_, (pss_cons (ps_if (PW.pt (pw_or (pt_cmpR (op_neD hr.units) (pe_fld (pv 0) rfl) (pe_callB (cr_sortedSetS rfl) (by rfl) T.sorted (by decide +kernel) (pa_cons (pe_callTy (cr_setS rfl) (by rfl) T.set (by decide +kernel) (pa_cons (pe_fld (pv 0) rfl) pa_nil)) pa_nil)) (nomark _)) (pw_or1 (pt_not (pt_val (pe_callB (cr_all rfl) (by rfl) T.all (by decide +kernel) (pa_cons (pe_lc (own := [("name", 1)]) (g := gName 1) (tt := tYes) rfl sc_names_are_right.nd (pi_list (pe_fld (pv 0) rfl)) (blkOk_by (own := [("name", 1)]) (N := ["rows", "name", "label"]) (sc := defScope s_names_are_right) (by decide +kernel)) (fun _ _ _ _ _ => (pg_name (i := 1) sc_names_are_right.nd rfl (Or.inl rfl))) (fun _ _ _ _ _ => pts_nil) (fun _ _ _ _ _ => (pe_hd h_is_name hr rfl (pa_cons (pv 1) pa_nil)))) pa_nil)))))))
      (pss_one (ps_ret pe_bl))
      pss_nil)
    (pss_one (ps_ret (pe_callB (cr_all rfl) (by rfl) T.all (by decide +kernel) (pa_cons (pe_lc (own := [("label", 2)]) (g := gName 2) (tt := tYes) rfl sc_names_are_right.nd (pi_range2 (by rfl) T.range (pa_cons pe_int (pa_cons (pe_op op_add (pe_callB call_len_seq (by rfl) T.len (by decide +kernel) (pa_cons (pe_fld (pv 0) rfl) pa_nil)) pe_int) pa_nil))) (blkOk_by (own := [("label", 2)]) (N := ["rows", "name", "label"]) (sc := defScope s_names_are_right) (by decide +kernel)) (fun _ _ _ _ _ => (pg_name (i := 2) sc_names_are_right.nd rfl (Or.inl rfl))) (fun _ _ _ _ _ => pts_nil) (fun _ _ _ _ _ => (pe_cmpR (oin K) (pv 2) (pe_fldK K (pv 0) rfl) (by rfl)))) pa_nil))))), ?_⟩
  obtain ⟨dx, q0, q1, q2, q3, q4, ha, h0, h1, h2, h3, h4⟩ := J.rows
  have sg := J.s
  have O := J.O
  have hn := J.n
  have hz := J.z
  have hasc : nm.Pairwise sLt := O.asc
  have hnd := asc_nodup hasc
  have hnok : ∀ x ∈ nm, isNm x = true := fun x hx => by
    obtain ⟨w0, hw0, cs, e⟩ := O.names x hx
    have hgo := good_go w0 r (O.ok _ hw0) J.good
    rw [e] at hgo
    exact (good_el hgo).1
  have hsh := strs_shaped nm fun x hx => nm_strOk (hnok x hx)
  refine ⟨_, rfl, a, _, dx, _, _, rfl, sg _ _ ha, T.cRows, T.nRows_names, lRows_names, _, rfl, a, _, dx, _, _, rfl, sg _ _ ha, T.cRows, T.nRows_names, lRows_names, q0, nm, rfl, SqL.of (sg _ _ h0), hnd, by omega, fun p1 np1 => ⟨p1, nm.reverse, rfl, upd_same, by rw [List.length_reverse]; omega, fun ys p2 hperm hsort np2 => ?_⟩⟩
  have hys : ys = nm := asc_eq hasc (sorted_pw hsort) (hperm.trans (List.reverse_perm nm))
  subst hys
  have g1 : Gr W0 G H G (upd H p1 (SetSO P w p1 ys.reverse)) := .alloc sg np1
  have g2 := g1.al (o := .lst (ys.map V.str)) np2
  have hp2 : upd (upd H p1 (SetSO P w p1 ys.reverse)) p2 (.lst (ys.map V.str)) p2 = some (.lst (ys.map V.str)) := upd_same
  refine ⟨.list (ys.map .str), .list (ys.map .str), .lst (SqL.of (g2.sub0 _ _ h0)) (dpAll_strs ys), .lst (SqL.of hp2) (dpAll_strs ys), hsh, hsh, _, rfl, ?_⟩
  rw [SeqAt.eqv_refl _ (SeqAt.canLay_of_shaped hsh)]
  refine iteF ⟨_, rfl, a, _, dx, _, _, rfl, g2.sub0 _ _ ha, T.cRows, T.nRows_names, lRows_names, q0, rfl, ⟨_, SqL.of (g2.sub0 _ _ h0)⟩, fun D1 hD1 => lc_map (walk_list (xs := ys.map V.str)) hD1 g2.sub (fun G' H' gr => SqL.of (gr.same _ _ (g2.sub0 _ _ h0))) (fun _ => V.bl true) (by simp; omega) ?_ ?_⟩
  · rintro i y G' H' H'' kk Z hi gr gD ⟨rfl, hy⟩ yes
    obtain ⟨z, hz', rfl⟩ := map_get hy
    obtain ⟨w0, hw0, cs, e⟩ := O.names z (List.mem_of_getElem? hz')
    have hok := O.ok _ hw0
    have hgo := good_go w0 r hok J.good
    have hfo := fit_go w0 r hok J.fit
    rw [e] at hgo hfo
    refine ⟨rfl, ty_yes ⟨_, rfl, z, rfl, hfo.1, fun H5 s5 => ?_⟩⟩
    have := yes _ _ (.of gr.sub s5)
    rw [(good_el hgo).1]
    exact this
  intro G3 H3 g3 hl3 gD3
  refine ⟨D1, (List.range (ys.map V.str).length).map fun _ => true, rfl, SqL.of (by rw [hl3, List.map_map]; rfl), ?_⟩
  rw [show ((List.range (ys.map V.str).length).map fun _ => true).all id = true by simp]
  refine ⟨_, rfl, iteF ?_⟩
  have g4 := g2.trans g3
  refine ⟨_, rfl, a, _, dx, _, _, rfl, g4.sub0 _ _ ha, T.cRows, T.nRows_names, lRows_names, q0, _, rfl, .inl (SqL.of (g4.sub0 _ _ h0)), _, _, rfl, rfl, _, _, rfl, ⟨by decide, by decide, by rw [List.length_map]; omega, by rw [List.length_map]; omega⟩, fun D2 hD2 => lc_map walk_range hD2 g4.sub (fun _ _ _ => trivial) (fun _ => V.bl true) (by rw [List.length_map]; omega) ?_ ?_⟩
  · rintro i y G' H' H'' kk Z hi gr gD ⟨rfl, rfl⟩ yes
    rw [List.length_map] at hi
    have hi' : i < ys.length := by omega
    obtain ⟨w0, hw0, cs, e⟩ := O.names ys[i] (List.getElem_mem hi')
    have s' := g4.sub0.trans gr.same
    refine ⟨rfl, ty_yes ⟨_, rfl, _, rfl, a, _, dx, _, _, rfl, s' _ _ ha, T.cRows, T.nRows_labels, lRows_labels, q1, _, rfl, .inl (SqL.of (s' _ _ h1)), rfl, by rw [vN_ints]; exact flat_ints _, ?_⟩⟩
    have := yes _ _ (Gr.refl gr.sub)
    rw [vN_ints, inV_ints]
    rw [decide_eq_true]
    · exact this
    · refine List.mem_map.mpr ⟨lab ys (r.go w0), List.mem_map.mpr ⟨w0, hw0, rfl⟩, ?_⟩
      rw [e]
      show ((1 + ys.idxOf ys[i] : Nat) : Int) = _
      rw [List.Nodup.idxOf_getElem hnd]
      omega
  intro G5 H5 g5 hl5 gD5
  refine ⟨D2, (List.range ((((ys.map V.str).length : Nat) : Int) + 1 - 1).toNat).map fun _ => true, rfl, SqL.of (by rw [hl5, List.map_map]; rfl), ?_⟩
  rw [show ((List.range ((((ys.map V.str).length : Nat) : Int) + 1 - 1).toNat).map fun _ => true).all id = true by simp]
  exact q _ (g4.same.trans g5.same)
end
end K5
set_option Elab.async false
set_option linter.all false
set_option maxRecDepth 100000
set_option maxHeartbeats 4000000
namespace K5
open PySem PySem.Spec PyProof.Rows L2
def plcs (r : Tr) (S : List Way) : List Nat := (List.range S.length).filter fun i => (r.go (S.getD i [])).isTx
theorem plcs_mem {r : Tr} {S : List Way} {i : Nat} : i ∈ plcs r S ↔ ∃ w, S[i]? = some w ∧ (r.go w).isTx = true := by
  unfold plcs
  rw [List.mem_filter, List.mem_range]
  constructor
  · rintro ⟨h1, h2⟩
    refine ⟨S[i], List.getElem?_eq_getElem h1, ?_⟩
    rw [List.getD_eq_getElem?_getD, List.getElem?_eq_getElem h1] at h2
    exact h2
  · rintro ⟨w, h1, h2⟩
    refine ⟨(List.getElem?_eq_some_iff.mp h1).1, ?_⟩
    rw [List.getD_eq_getElem?_getD, h1]
    exact h2
theorem plcs_len (r : Tr) (S : List Way) : (plcs r S).length = (txs r S).length := by
  have := flt_list [] S (fun w => (r.go w).isTx) (fun w => w)
  have e := congrArg List.length this
  rw [List.length_map, List.length_map] at e
  unfold txs
  rw [List.length_map]
  exact e
theorem txs_ok {r : Tr} {nm : List Str} {S : List Way} (O : Ord r nm S) (hg : r.good = true) (hf : r.fit) {x : Str} (h : x ∈ txs r S) : isTxt x = true ∧ x.length ≤ 1000000 := by
  unfold txs at h
  obtain ⟨w, hw, e⟩ := List.mem_map.mp h
  obtain ⟨h1, h2⟩ := List.mem_filter.mp hw
  have hok := O.ok w h1
  have hgo := good_go w r hok hg
  have hfo := fit_go w r hok hf
  cases q : r.go w with
  | tx s =>
    rw [q] at e hgo hfo
    have e : s = x := e
    subst e
    exact ⟨hgo, hfo⟩
  | el n cs => rw [q] at h2; cases h2
theorem lab_tx (nm : List Str) (t : Tr) : decide (nV (lab nm t) = V.int 0) = t.isTx := by
  cases t with
  | tx z => exact decide_eq_true rfl
  | el m cs => exact decide_eq_false (fun z => by injection z with z; simp [lab] at z; omega)
theorem lsts_sum {r : Tr} {nm : List Str} {S : List Way} (O : Ord r nm S) : (lsts r S).sum = 1 + ((fam r nm S).length : Int) := by
  have h := fams_sum (r := r) (fam r nm S) (fun w hw => (fam_mem hw).2)
  have e : lsts r S = 1 :: ((fam r nm S).flatMap (kidsW r)).map fun w => ((lst r w : Nat) : Int) := by
    unfold lsts
    conv => lhs; rw [O.eq]
    rw [List.map_cons]
    rfl
  rw [e, List.sum_cons, h]
theorem stc_cons (r : Tr) (nm : List Str) (w : Way) (S : List Way) : ∀ n, stc r nm (w :: S) n = (if (r.go w).fl = true ∧ 1 ≤ lab nm (r.go w) ∧ lab nm (r.go w) ≤ n then 1 else 0) + stc r nm S n
  | 0 => by
    rw [if_neg (by omega)]
    simp [stc]
  | n + 1 => by
    simp only [stc, stc_cons r nm w S n]
    have hf : (famL r nm (w :: S) (n + 1)).length = (if isL r nm (n + 1) w = true then 1 else 0) + (famL r nm S (n + 1)).length := by
      unfold famL
      rw [List.filter_cons]
      by_cases h : isL r nm (n + 1) w = true
      · rw [if_pos h, if_pos h, List.length_cons]; omega
      · rw [if_neg h, if_neg h]; omega
    rw [hf]
    cases hfl : (r.go w).fl with
    | false =>
      rw [show isL r nm (n + 1) w = false by unfold isL; rw [hfl, Bool.and_false]]
      simp
    | true =>
      rw [show isL r nm (n + 1) w = (lab nm (r.go w) == n + 1) by unfold isL; rw [hfl, Bool.and_true]]
      by_cases h1 : lab nm (r.go w) = n + 1
      · rw [if_neg (by omega), if_pos (beq_iff_eq.mpr h1), if_pos ⟨rfl, by omega, by omega⟩]; omega
      · rw [if_neg (show ¬ (lab nm (r.go w) == n + 1) = true from fun z => h1 (beq_iff_eq.mp z))]
        by_cases h2 : 1 ≤ lab nm (r.go w) ∧ lab nm (r.go w) ≤ n
        · rw [if_pos ⟨rfl, h2⟩, if_pos ⟨rfl, by omega, by omega⟩]; omega
        · rw [if_neg (fun z => h2 z.2), if_neg (fun z => h2 (by omega))]; omega
theorem stc_nfl (r : Tr) (nm : List Str) (n : Nat) : ∀ S : List Way, (∀ w ∈ S, lab nm (r.go w) ≤ n) → (S.map fun w => ((nfl (r.go w) : Nat) : Int)).sum = ((stc r nm S n : Nat) : Int)
  | [], _ => by
    have : ∀ n, stc r nm [] n = 0 := fun n => by
      induction n with
      | zero => rfl
      | succ n ih => simp [stc, ih, famL]
    rw [this]; rfl
  | w :: S, h => by
    have ih := stc_nfl r nm n S fun u hu => h u (List.mem_cons_of_mem _ hu)
    rw [List.map_cons, List.sum_cons, ih, stc_cons]
    have hw := h w (List.mem_cons_self ..)
    unfold nfl
    cases hfl : (r.go w).fl with
    | false => simp
    | true =>
      have := lab_pos (nm := nm) hfl
      rw [if_pos rfl, if_pos ⟨rfl, by omega, hw⟩]
      omega
theorem fulls_sum {r : Tr} {nm : List Str} {S : List Way} (O : Ord r nm S) : (S.map fun w => ((nfl (r.go w) : Nat) : Int)).sum = ((fam r nm S).length : Int) := by
  rw [stc_nfl r nm nm.length S fun w hw => lab_le O hw]
  unfold fam
  rw [stc_len]
theorem lsts_last {r : Tr} {nm : List Str} {S : List Way} (O : Ord r nm S) : ∃ xs, (lsts r S).map V.int = xs ++ [.int 1] := by
  obtain ⟨h1, _⟩ := end_at O (m := (fam r nm S).length) (Nat.le_refl _)
  have hp : pos r nm S (fam r nm S).length = S.length := by
    have h2 := congrArg List.length O.eq
    unfold pos
    rw [List.take_length]
    rw [List.length_cons] at h2
    omega
  rw [hp] at h1
  have hl : (lsts r S).length = S.length := by simp [lsts]
  have hne : lsts r S ≠ [] := fun z => by rw [z] at h1; simp at h1
  refine ⟨((lsts r S).dropLast).map V.int, ?_⟩
  have e := List.dropLast_concat_getLast hne
  have hg : (lsts r S).getLast hne = 1 := by
    rw [List.getLast_eq_getElem]
    obtain ⟨h3, h4⟩ := List.getElem?_eq_some_iff.mp h1
    simp only [hl]
    exact h4
  rw [hg] at e
  conv => lhs; rw [← e]
  simp
section
variable {P : Program} {w : World} {K : PySem.W.Frag} {mg : Str → Option Value} {base : Heap} {k : Nat}
theorem sc_text_fault : FnScope ["rows", "places", "row", "label", "text"] ["rows"] (defScope s_text_fault) := ⟨rfl, rfl, rfl, by decide +kernel, rfl, by decide +kernel, by decide +kernel⟩
theorem hd_text_fault (D : Df K mg "text_fault" s_text_fault) (T : Tx K mg) (h_is_text : Hd P w K mg base "is_text" ["string"] k spTxt) : Hd P w K mg base "text_fault" ["rows"] (k + 1) (spJ K .non) := by
  refine hd_mk D sc_text_fault (fun _ _ _ _ _ _ us hl => match us, hl with | [_], _ => rfl) (fun vs H Q E h => ?_) (fun f cdv A outer s H vs Q E hr h => ?_)
  · obtain ⟨G, r, nm, S, a, rfl, _⟩ := h; rfl
  obtain ⟨G, r, nm, S, a, rfl, J, q⟩ := h
  refine ⟨_, (pss_cons (ps_setLc (i := 1) (own := [("row", 2), ("label", 3)]) (g := gTup K 2 (gCons (gName 2) (gCons (gName 3) gNil))) rfl sc_text_fault.nd rfl rfl (sw_true rfl rfl rfl (by decide +kernel)) (pi_enum (by rfl) T.enumerate (pa_cons (pe_fld (pv 0) rfl) pa_nil)) (blkOk_by (own := [("row", 2), ("label", 3)]) (N := ["rows", "places", "row", "label", "text"]) (sc := defScope s_text_fault) (by decide +kernel)) (fun _ _ _ _ _ => (pg_tup rfl (pgs_cons (pg_name (i := 2) sc_text_fault.nd rfl (Or.inl rfl)) (pgs_cons (pg_name (i := 3) sc_text_fault.nd rfl (Or.inl rfl)) pgs_nil)))) (fun _ _ _ _ _ => (pts_one (pt_cmpR op_eq (pv 3) pe_int (nomark _)))) (fun _ _ _ _ _ => (pv 2)))
    (pss_cons (ps_if (pt_cmpR op_ne (pe_callB call_len_seq (by rfl) T.len (by decide +kernel) (pa_cons (pv 1) pa_nil)) (pe_callB call_len_seq (by rfl) T.len (by decide +kernel) (pa_cons (pe_fld (pv 0) rfl) pa_nil)) (nomark _))
      (pss_one (ps_ret (pe_tup (pa_cons pe_int (pa_cons pe_str pa_nil)))))
      pss_nil)
    (pss_cons (ps_for PassesOwn.never rfl (pi_zip (by rfl) T.zip (pa_cons (pv 1) (pa_cons (pe_fld (pv 0) rfl) pa_nil))) (pg_tup rfl (pgs_cons (pg_name (i := 2) sc_text_fault.nd rfl (Or.inl rfl)) (pgs_cons (pg_name (i := 4) sc_text_fault.nd rfl (Or.inl rfl)) pgs_nil)))
      (pss_one (ps_if (pt_not (pt_val (pe_hd h_is_text hr rfl (pa_cons (pv 4) pa_nil))))
        (pss_one (ps_ret (pe_tup (pa_cons (pv 2) (pa_cons pe_str pa_nil)))))
        pss_nil)))
    (pss_cons (ps_for PassesOwn.never rfl (pi_list (pv 1)) (pg_name (i := 2) sc_text_fault.nd rfl (Or.inl rfl))
      (pss_one (ps_if (PW.pt (pw_and (pt_cmpR op_in_seq (pe_op op_add (pv 2) pe_int) (pv 1) (by rfl)) (pw_and1 (pt_cmpR op_eq (pe_ix ix_list (pe_fld (pv 0) rfl) (pv 2) (fun _ _ => rfl)) pe_int (nomark _)))))
        (pss_one (ps_ret (pe_tup (pa_cons (pe_op op_add (pv 2) pe_int) (pa_cons pe_str pa_nil)))))
        pss_nil)))
    (pss_one (ps_ret pe_non)))))), ?_⟩
  obtain ⟨dx, q0, q1, q2, q3, q4, ha, h0, h1, h2, h3, h4⟩ := J.rows
  have sg := J.s
  have O := J.O
  have hz := J.z
  have hl1 : (vN (S.map fun w => lab nm (r.go w))).length = S.length := by simp [vN]
  refine ⟨_, rfl, a, _, dx, _, _, rfl, sg _ _ ha, T.cRows, T.nRows_labels, lRows_labels, q1, _, rfl, SqL.of (sg _ _ h1), fun D1 hD1 => lc_flt (walk_enum (xs := vN (S.map fun w => lab nm (r.go w)))) hD1 sg (fun G' H' gr => SqL.of (gr.same _ _ (sg _ _ h1))) (fun i => (r.go (S.getD i [])).isTx) (fun i => nV i) (by omega) ?_ ?_⟩
  · rintro i x G' H' H'' kk Z hi gr gD ⟨p, u, y, rfl, np, rfl, e1, e2⟩ yes no_
    cases (Option.some.inj e1)
    obtain ⟨lb, hlb, rfl⟩ := map_get e2
    obtain ⟨w0, hw0, rfl⟩ := map_get hlb
    refine ⟨p, _, rfl, SqT.of upd_same, rfl, _, _, rfl, _, _, rfl, rfl, rfl, _, rfl, rfl, _, rfl, ?_⟩
    have e3 : S.getD i [] = w0 := by rw [List.getD_eq_getElem?_getD, hw0]; rfl
    have g2 := (Gr.refl (W := W0) gr.sub).al (o := .tup [.int (i : Nat), nV (lab nm (r.go w0))]) np
    rw [e3] at yes no_
    rw [lab_tx]
    cases hb : (r.go w0).isTx with
    | true => exact iteT ⟨_, rfl, yes _ _ hb g2⟩
    | false => exact iteF (no_ _ _ hb g2)
  intro G1 H1 g1 hp1 gD1
  rw [hl1] at hp1
  have hp1 : H1 D1 = some (.lst (vN (plcs r S))) := hp1
  have s1 := sg.trans g1.same
  refine ⟨_, rfl, D1, _, rfl, .inl (SqL.of hp1), _, rfl, a, _, dx, _, _, rfl, s1 _ _ ha, T.cRows, T.nRows_texts, lRows_texts, q4, _, rfl, .inl (SqL.of (s1 _ _ h4)), rfl, _, rfl, ?_⟩
  rw [show (!decide (V.int (((vN (plcs r S)).length : Nat) : Int) = V.int ((((txs r S).map V.str).length : Nat) : Int))) = false from by
    rw [List.length_map, List.length_map, plcs_len]; simp]
  refine iteF ⟨_, rfl, _, rfl, a, _, dx, _, _, rfl, s1 _ _ ha, T.cRows, T.nRows_texts, lRows_texts, D1, q4, _, _, rfl, SqL.of hp1, SqL.of (s1 _ _ h4), for_it (walk_zip (n := (plcs r S).length) (by rw [List.length_map, List.length_map, plcs_len, Nat.min_self])) (fun i σ H2 => ∃ x2 x4, σ = [some (.ref a), some (.ref D1), x2, none, x4] ∧ Same H1 H2)
    ⟨none, none, rfl, Same.refl H1⟩ (fun i σ H2 _ ⟨_, _, _, s2⟩ => ⟨SqL.of (s2 _ _ hp1), SqL.of (s2 _ _ (s1 _ _ h4))⟩) ?_ ?_⟩
  · rintro i x σ H2 H3 hi ⟨x2, x4, rfl, s2⟩ ⟨p, u, y, rfl, np, rfl, e1, e2⟩
    obtain ⟨z, hz', rfl⟩ := map_get e2
    obtain ⟨t1, t2⟩ := txs_ok O J.good J.fit (List.mem_of_getElem? hz')
    refine ⟨p, _, rfl, SqT.of upd_same, rfl, _, _, rfl, _, _, rfl, rfl, _, rfl, z, rfl, t2, fun H4 s4 => ⟨_, rfl, ?_⟩⟩
    rw [t1]
    exact iteF ⟨_, _, rfl, s2.trans ((Same.up np).trans s4)⟩
  rintro σ H2 ⟨x2, x4, rfl, s2⟩
  have hp2 := s2 _ _ hp1
  refine ⟨_, rfl, D1, rfl, ⟨_, SqL.of hp2⟩, for_it (walk_list (xs := vN (plcs r S))) (fun i σ H3 => ∃ x2 x4, σ = [some (.ref a), some (.ref D1), x2, none, x4] ∧ Same H2 H3)
    ⟨_, _, rfl, Same.refl H2⟩ (fun i σ H3 _ ⟨_, _, _, s3⟩ => SqL.of (s3 _ _ hp2)) ?_ ?_⟩
  · rintro i x σ H3 H4 hi ⟨x2, x4, rfl, s3⟩ ⟨rfl, hy⟩
    obtain ⟨row, hrow, rfl⟩ := map_get hy
    have hs3 := s1.trans (s2.trans s3)
    obtain ⟨w0, hw0, ht0⟩ := plcs_mem.mp (List.mem_of_getElem? hrow)
    refine ⟨_, rfl, ((row : Nat) : Int), 1, rfl, rfl, _, rfl, D1, _, rfl, .inl (SqL.of (s3 _ _ hp2)), rfl, by rw [vN_ints]; exact flat_ints _, _, rfl, ?_⟩
    rw [vN_ints]
    simp only [inV_ints]
    by_cases hm : ((row : Nat) : Int) + 1 ∈ (plcs r S).map fun x => ((x : Nat) : Int)
    · obtain ⟨row2, hr2, e2⟩ := List.mem_map.mp hm
      have e2 : row2 = row + 1 := by omega
      subst e2
      obtain ⟨w1, hw1, ht1⟩ := plcs_mem.mp hr2
      have hlast := text_next O J.good hw0 hw1 ht0 ht1 J.el
      rw [decide_eq_true hm]
      refine iteT ⟨_, rfl, a, _, dx, _, _, rfl, hs3 _ _ ha, T.cRows, T.nRows_lasts, lRows_lasts, _, rfl, q2, _, _, .int ((lst r w0 : Nat) : Int), rfl, rfl, SqL.of (hs3 _ _ h2), atI_n rfl (by unfold lsts; rw [List.getElem?_map, List.getElem?_map, hw0]; rfl), rfl, _, rfl, ?_⟩
      rw [hlast]
      exact iteF ⟨_, _, rfl, s3⟩
    · rw [decide_eq_false hm]
      exact iteF (iteF ⟨_, _, rfl, s3⟩)
  · rintro σ H3 ⟨x2, x4, rfl, s3⟩
    exact q _ (g1.same.trans (s2.trans s3))
theorem sc_fault : FnScope ["rows", "size", "found", "depths", "row", "number"] ["rows"] (defScope s_fault) := ⟨rfl, rfl, rfl, by decide +kernel, rfl, by decide +kernel, by decide +kernel⟩
theorem hd_fault (D : Df K mg "fault" s_fault) (T : Tx K mg) (h_item_fault : Hd P w K mg base "item_fault" ["rows"] k (spJ K .non)) (h_depths_of : Hd P w K mg base "depths_of" ["known"] k (spDeps K)) (h_families : Hd P w K mg base "families" ["rows"] k (spFams K))
    (h_first_row : Hd P w K mg base "first_row" ["truths"] k spFirst) (h_names_are_right : Hd P w K mg base "names_are_right" ["rows"] k (spJ K (.bl true))) (h_text_fault : Hd P w K mg base "text_fault" ["rows"] k (spJ K .non)) : Hd P w K mg base "fault" ["rows"] (k + 1) (spJ K .non) := by
  refine hd_mk D sc_fault (fun _ _ _ _ _ _ us hl => match us, hl with | [_], _ => rfl) (fun vs H Q E h => ?_) (fun f cdv A outer s H vs Q E hr h => ?_)
  · obtain ⟨G, r, nm, S, a, rfl, _⟩ := h; rfl
  obtain ⟨G, r, nm, S, a, rfl, J, q⟩ := h
  refine ⟨_, (pss_cons (ps_set (i := 1) sc_fault.nd rfl (Or.inl rfl) (pe_callB call_len_seq (by rfl) T.len (by decide +kernel) (pa_cons (pe_fld (pv 0) rfl) pa_nil)))
    (pss_cons (ps_if (PW.pt (pw_or (pt_cmpR op_eq (pv 1) pe_int (nomark _)) (pw_or (pt_cmpR op_ne (pe_callB call_len_seq (by rfl) T.len (by decide +kernel) (pa_cons (pe_fld (pv 0) rfl) pa_nil)) (pv 1) (nomark _)) (pw_or1 (pt_cmpR op_ne (pe_callB call_len_seq (by rfl) T.len (by decide +kernel) (pa_cons (pe_fld (pv 0) rfl) pa_nil)) (pv 1) (nomark _))))))
      (pss_one (ps_ret (pe_tup (pa_cons pe_int (pa_cons pe_str pa_nil)))))
      pss_nil)
    (pss_cons (ps_set (i := 2) sc_fault.nd rfl (Or.inl rfl) (pe_hd h_item_fault hr rfl (pa_cons (pv 0) pa_nil)))
    (pss_cons (ps_if (pt_cmpR op_notN (pv 2) pe_non (nomark _))
      (pss_one (ps_ret (pv 2)))
      pss_nil)
    (pss_cons (ps_if (PW.pt (pw_or (pt_cmpR op_eq (pe_ix ix_list (pe_fld (pv 0) rfl) pe_int (fun _ _ => rfl)) pe_int (nomark _)) (pw_or1 (pt_cmpR op_eq (pe_ix ix_list (pe_fld (pv 0) rfl) pe_int (fun _ _ => rfl)) pe_int (nomark _)))))
      (pss_one (ps_ret (pe_tup (pa_cons pe_int (pa_cons pe_str pa_nil)))))
      pss_nil)
    (pss_cons (ps_if (PW.pt (pw_or (pt_cmpR op_ne (pe_callB (cr_sum rfl) (by rfl) T.sum (by decide +kernel) (pa_cons (pe_fld (pv 0) rfl) pa_nil)) (pe_op op_add pe_int (pe_callB (cr_sum rfl) (by rfl) T.sum (by decide +kernel) (pa_cons (pe_fld (pv 0) rfl) pa_nil))) (nomark _)) (pw_or1 (pt_cmpR op_eq (pe_ix ix_list (pe_fld (pv 0) rfl) (pe_un un_neg pe_int) (fun _ _ => rfl)) pe_int (nomark _)))))
      (pss_one (ps_ret (pe_tup (pa_cons pe_int (pa_cons pe_str pa_nil)))))
      pss_nil)
    (pss_cons (ps_set (i := 3) sc_fault.nd rfl (Or.inr rfl) (pe_hd h_depths_of hr rfl (pa_cons (pe_hd h_families hr rfl (pa_cons (pv 0) pa_nil)) pa_nil)))
    (pss_cons (ps_set (i := 4) sc_fault.nd rfl (Or.inl rfl) (pe_hd h_first_row hr rfl (pa_cons (pe_lc (own := [("number", 5)]) (g := gName 5) (tt := tYes) rfl sc_fault.nd (pi_range1 (by rfl) T.range (pa_cons (pv 1) pa_nil)) (blkOk_by (own := [("number", 5)]) (N := ["rows", "size", "found", "depths", "row", "number"]) (sc := defScope s_fault) (by decide +kernel)) (fun _ _ _ _ _ => (pg_name (i := 5) sc_fault.nd rfl (Or.inl rfl))) (fun _ _ _ _ _ => pts_nil) (fun _ _ _ _ _ => (pe_cmp (pc_dnotin (hu_of hr) (pv 5) (pv 3)) rfl))) pa_nil)))
    (pss_cons (ps_if (pt_cmpR op_notN (pv 4) pe_non (nomark _))
      (pss_one (ps_ret (pe_tup (pa_cons (pv 4) (pa_cons pe_str pa_nil)))))
      pss_nil)
    (pss_cons (ps_if (pt_not (pt_val (pe_hd h_names_are_right hr rfl (pa_cons (pv 0) pa_nil))))
      (pss_one (ps_ret (pe_tup (pa_cons pe_int (pa_cons pe_str pa_nil)))))
      pss_nil)
    (pss_cons (ps_set (i := 2) sc_fault.nd rfl (Or.inl rfl) (pe_hd h_text_fault hr rfl (pa_cons (pv 0) pa_nil)))
    (pss_cons (ps_if (PW.pt (pw_and (pt_cmpR op_isN (pv 2) pe_non (nomark _)) (pw_and1 (PW.pt (pw_or (pt_cmpR op_gt (pv 1) (pe_gi rfl T.MOST_ROWS) (nomark _)) (pw_or1 (pt_cmpR op_gt (pe_callB (cr_max rfl) (by rfl) T.max (by decide +kernel) (pa_cons (pe_lock (pe_lc (own := [("number", 5)]) (g := gName 5) (tt := tYes) rfl sc_fault.nd (pi_keys (pv 3)) (blkOk_by (own := [("number", 5)]) (N := ["rows", "size", "found", "depths", "row", "number"]) (sc := defScope s_fault) (by decide +kernel)) (fun _ _ _ _ _ => (pg_name (i := 5) sc_fault.nd rfl (Or.inl rfl))) (fun _ _ _ _ _ => pts_nil) (fun _ _ _ _ _ => (pe_dget (hu_of hr) (pv 3) (pv 5) (fun _ _ => rfl))))) pa_nil)) (pe_gi rfl T.MOST_DEPTH_judge) (nomark _))))))))
      (pss_one (ps_ret (pe_tup (pa_cons pe_int (pa_cons pe_str pa_nil)))))
      pss_nil)
    (pss_one (ps_ret (pv 2))))))))))))))), ?_⟩
  obtain ⟨dx, q0, q1, q2, q3, q4, ha, h0, h1, h2, h3, h4⟩ := id J.rows
  have sg := J.s
  have O := J.O
  have hz := J.z
  have hl1 : (vN (S.map fun w => lab nm (r.go w))).length = S.length := by simp [vN]
  have hl2 : ((lsts r S).map V.int).length = S.length := by simp [lsts]
  have hl3 : (vN (S.map fun w => nfl (r.go w))).length = S.length := by simp [vN]
  have hS0 := nil_in O
  have hSp : 0 < S.length := (List.getElem?_eq_some_iff.mp hS0).1
  refine ⟨_, rfl, a, _, dx, _, _, rfl, sg _ _ ha, T.cRows, T.nRows_labels, lRows_labels, q1, _, rfl, .inl (SqL.of (sg _ _ h1)), ?_⟩
  rw [hl1]
  refine ⟨_, rfl, rfl, _, rfl, ?_⟩
  rw [show decide (V.int ((S.length : Nat) : Int) = V.int 0) = false from decide_eq_false fun z => by injection z with z; omega]
  refine iteF ⟨_, rfl, a, _, dx, _, _, rfl, sg _ _ ha, T.cRows, T.nRows_lasts, lRows_lasts, q2, _, rfl, .inl (SqL.of (sg _ _ h2)), _, rfl, rfl, _, rfl, ?_⟩
  rw [hl2, show (!decide (V.int ((S.length : Nat) : Int) = V.int ((S.length : Nat) : Int))) = false by simp]
  refine iteF ⟨_, rfl, a, _, dx, _, _, rfl, sg _ _ ha, T.cRows, T.nRows_fulls, lRows_fulls, q3, _, rfl, .inl (SqL.of (sg _ _ h3)), _, rfl, rfl, _, rfl, ?_⟩
  rw [hl3, show (!decide (V.int ((S.length : Nat) : Int) = V.int ((S.length : Nat) : Int))) = false by simp]
  refine iteF ⟨_, rfl, G, r, nm, S, a, rfl, J, fun H1 s1 => ?_⟩
  have J1 := J.up s1
  refine ⟨_, rfl, rfl, _, rfl, iteF ?_⟩
  -- the root
  have hl0 : decide (nV (lab nm (r.go [])) = V.int 0) = false := by rw [lab_tx]; exact J.el
  refine ⟨_, rfl, a, _, dx, _, _, rfl, J1.s _ _ ha, T.cRows, T.nRows_labels, lRows_labels, q1, _, _, nV (lab nm (r.go [])), rfl, rfl, SqL.of (J1.s _ _ h1), atI_n (j := 0) rfl (by rw [List.getElem?_map, List.getElem?_map, hS0]; rfl), rfl, _, rfl, ?_⟩
  rw [hl0]
  refine iteF ⟨_, rfl, a, _, dx, _, _, rfl, J1.s _ _ ha, T.cRows, T.nRows_lasts, lRows_lasts, q2, _, _, .int 1, rfl, rfl, SqL.of (J1.s _ _ h2), atI_n (j := 0) rfl (by unfold lsts; rw [List.getElem?_map, List.getElem?_map, hS0]; rfl), rfl, _, rfl, iteF ?_⟩
  have hsl : (lsts r S).sum = 1 + ((fam r nm S).length : Int) := lsts_sum O
  have hsf : (S.map fun w => ((nfl (r.go w) : Nat) : Int)).sum = ((fam r nm S).length : Int) := fulls_sum O
  have e3 : vN (S.map fun w => nfl (r.go w)) = (S.map fun w => ((nfl (r.go w) : Nat) : Int)).map V.int := by simp [vN]
  refine ⟨_, rfl, a, _, dx, _, _, rfl, J1.s _ _ ha, T.cRows, T.nRows_lasts, lRows_lasts, q2, lsts r S, rfl, SqL.of (J1.s _ _ h2), _, rfl, a, _, dx, _, _, rfl, J1.s _ _ ha, T.cRows, T.nRows_fulls, lRows_fulls, q3, S.map (fun w => ((nfl (r.go w) : Nat) : Int)), rfl, SqL.of (by rw [← e3]; exact J1.s _ _ h3), 1, (S.map fun w => ((nfl (r.go w) : Nat) : Int)).sum, rfl, rfl, rfl, _, rfl, ?_⟩
  simp only [hsl, hsf]
  rw [show (!decide True) = false from rfl]
  obtain ⟨xs, hxs⟩ := lsts_last O
  refine iteF ⟨_, rfl, a, _, dx, _, _, rfl, J1.s _ _ ha, T.cRows, T.nRows_lasts, lRows_lasts, 1, rfl, q2, _, _, .int 1, rfl, rfl, SqL.of (by rw [← hxs]; exact J1.s _ _ h2), atI_last _ _, rfl, _, rfl, iteF ?_⟩
  refine ⟨_, rfl, G, r, nm, S, a, rfl, J1.s, J1.rows, hz, by have := J.n; omega, O, fun p kvs G2 H2 g2 hp hk => ⟨G2, r, nm, S, p, kvs, rfl, g2.sub, hp, O, hz, J.rz, hk, fun p' dvs H3 s3 np' hp' hfd hent hlen => ?_⟩⟩
  have s13 := s1.trans (g2.same.trans s3)
  have J3 := J.up s13
  refine ⟨_, rfl, ((S.length : Nat) : Int), rfl, by omega, by omega, fun D1 hD1 => lc_map walk_r0 hD1 J3.s (fun _ _ _ => trivial) (fun _ => V.bl false) (by omega) ?_ ?_⟩
  · rintro i y G' H' H'' kk Z hi gr gD ⟨rfl, rfl⟩ yes
    have hw0 : S[i]? = some S[i] := List.getElem?_eq_getElem hi
    have hv := hfd S[i] (O.ok _ (List.getElem_mem hi)) i hw0
    exact ⟨rfl, ty_yes ⟨_, rfl, _, rfl, p', some (nV (1 + S[i].length)), rfl, .inl ⟨dvs, .inl ((i : Nat) : Int), .inl (gr.same _ _ hp'), rfl, hv.symm⟩, yes _ _ (Gr.refl gr.sub)⟩⟩
  intro G4 H4 g4 hl4 gD4
  refine ⟨D1, _, rfl, hl4, all_false, fun H5 s5 => ⟨_, rfl, rfl, _, rfl, iteF ?_⟩⟩
  have s15 := s13.trans (g4.same.trans s5)
  have J5 := J.up s15
  refine ⟨_, rfl, G, r, nm, S, a, rfl, J5, fun H6 s6 => ⟨_, rfl, iteF ?_⟩⟩
  have J6 := J5.up s6
  refine ⟨_, rfl, G, r, nm, S, a, rfl, J6, fun H7 s7 => ?_⟩
  have s37 := g4.same.trans (s5.trans (s6.trans s7))
  have hp7 := s37 _ _ hp'
  have J7 := J6.up s7
  refine ⟨_, rfl, rfl, _, rfl, iteT ⟨_, rfl, _, _, rfl, rfl, _, rfl, ?_⟩⟩
  rw [show decide ((5000 : Int) < ((S.length : Nat) : Int)) = false from decide_eq_false (by omega)]
  have gp7 : G p' = none := same_none (J1.s.trans g2.same) np'
  refine iteF ⟨p', .dK dvs, hp7, trivial, fun od => ⟨_, rfl, p', od, rfl, .inl ⟨dvs, upd_same, fun D2 hD2 => lc_map (G0 := G) walk_keys hD2 ?_ (fun G' H' gr => gr.same _ _ upd_same) (fun i => (dvs.getD i (.inl 0, .non)).2) (by omega) ?_ ?_⟩⟩⟩
  · exact fun b o e => by rw [upd_ne (fun z => by rw [z, gp7] at e; cases e)]; exact J7.s _ _ e
  · rintro i y G' H' H'' kk Z hi gr gD ⟨rfl, kx, v, hkv, rfl⟩ yes
    obtain ⟨ri, wi, e1, e2, e3⟩ := hent _ (List.mem_of_getElem? hkv)
    have hv := hfd wi (O.ok _ (List.mem_of_getElem? e2)) ri e2
    refine ⟨rfl, ty_yes ⟨_, rfl, _, rfl, p', v, rfl, .inl ⟨dvs, kx, .inr ⟨_, gr.same _ _ upd_same⟩, rfl, ?_⟩, ?_⟩⟩
    · have e1 : kx = .inl ((ri : Nat) : Int) := e1
      rw [e1, hv]; exact congrArg some e3
    · have := yes _ _ (Gr.refl gr.sub)
      rw [List.getD_eq_getElem?_getD, hkv] at this
      exact this
  intro G8 H8 g8 hl8 gD8
  have hp8 : H8 p' = some (.frz od (.dK dvs)) := g8.same _ _ upd_same
  refine ⟨hp8, ?_⟩
  have hDp : D2 ≠ p' := fun z => by rw [z, hp8] at hl8; cases hl8
  rw [map_range_getD (.inl 0, .non) dvs (fun kv => kv.2)] at hl8
  have hval : dvs.map (fun kv => kv.2) = (dvs.map fun kv => match kv.2 with | .int z => z | _ => 0).map V.int := by
    rw [List.map_map]
    refine List.map_congr_left fun kv hkv => ?_
    obtain ⟨ri, wi, e1, e2, e3⟩ := hent kv hkv
    simp only [Function.comp, e3]
  have hne : 0 < dvs.length := by
    rcases Nat.eq_zero_or_pos dvs.length with h | h
    · have hv := hfd [] trivial 0 hS0
      rw [List.length_eq_zero_iff.mp h] at hv
      cases hv
    · exact h
  refine ⟨D2, _, rfl, SqL.of (by rw [upd_ne hDp, hl8, hval]), by rw [List.length_map]; exact hne, fun m hm _ => ⟨_, _, rfl, rfl, _, rfl, ?_⟩⟩
  obtain ⟨kv, hkv, e⟩ := List.mem_map.mp hm
  obtain ⟨ri, wi, e1, e2, e3⟩ := hent kv hkv
  have hwl := ok_len wi r (O.ok _ (List.mem_of_getElem? e2))
  have hd := J.d
  rw [e3] at e
  have e : ((1 + wi.length : Nat) : Int) = m := e
  rw [show decide ((60 : Int) < m) = false from decide_eq_false (by omega)]
  refine iteF ⟨_, rfl, q _ fun b o eb => ?_⟩
  have h7 := s15 _ _ eb
  have h7 := s7 _ _ (s6 _ _ h7)
  by_cases hb : b = p'
  · rw [hb, hp7] at h7
    rw [hb, upd_same]
    exact h7
  · rw [upd_ne hb]
    exact g8.same _ _ (by rw [upd_ne hb]; exact h7)
end
end K5
set_option Elab.async false
set_option linter.all false
set_option maxRecDepth 100000
set_option maxHeartbeats 4000000
namespace K5
open PySem PySem.Spec PyProof.Rows L2
/-! ### a kept document, a view, layers: made -/
def spKepI (K : PySem.W.Frag) : Sp := fun vs H Q _ => ∃ (G : Hp) (r : Tr) (nm : List Str) (S : List Way) (a dx ro : Addr), vs = [.ref a, .ref ro] ∧ JP K G H r nm S ro ∧ G a = none ∧ H a = some (.ins (cKp K) dx []) ∧
  ∀ G' na ta wv lb st H', Gr (· = a) G H G' H' → H' a = some (.ins (cKp K) dx (fKept (.ref na) (.ref ta) (.ref wv) (.ref lb) (nV S.length) (.ref st))) → KepP K G' r nm S na ta wv lb st → Q .non H'
def spVwI (K : PySem.W.Frag) : Sp := fun vs H Q _ => ∃ (G : Hp) (a dx : Addr) (v : V), vs = [.ref a, v] ∧ Same G H ∧ G a = none ∧ H a = some (.ins (cVw K) dx []) ∧ ∀ H', Gr (· = a) G H G H' → H' a = some (.ins (cVw K) dx (fView v)) → Q .non H'
section
variable {P : Program} {w : World} {K : PySem.W.Frag} {mg : Str → Option Value} {base : Heap} {k : Nat}
theorem sc_View_init : FnScope ["self", "kept"] ["self", "kept"] (defScope s_View_init) := ⟨rfl, rfl, rfl, by decide +kernel, rfl, by decide +kernel, by decide +kernel⟩
theorem mkd_View (D : Di K mg "View" (cVw K) "View.__init__" s_View_init) (T : Tx K mg) : Mkd P w K mg base "View" (cVw K) ["self", "kept"] (k + 2) (spVwI K) := by
  refine mkd_mk D sc_View_init (fun _ _ _ _ _ _ us hl => match us, hl with | [_, _], _ => rfl) (fun vs H Q E h => ?_) (fun f cdv A outer s H vs Q E hr h => ?_)
  · obtain ⟨G, a, dx, v, rfl, _⟩ := h; rfl
  obtain ⟨G, a, dx, v, rfl, sg, ga, ha, q⟩ := h
  refine ⟨_, (pss_one (ps_fld (pv 0) (pv 1) rfl)), ?_⟩
  refine ⟨_, rfl, _, rfl, a, cVw K, dx, _, rfl, ha, T.cView, T.nView_kept, by show 0 < 1000; decide, ?_⟩
  rw [pView0]
  exact q _ (.put sg rfl ga ha) upd_same
theorem sc_Kept_init : FnScope ["self", "rows", "found", "symbols", "label", "full"] ["self", "rows"] (defScope s_Kept_init) := ⟨rfl, rfl, rfl, by decide +kernel, rfl, by decide +kernel, by decide +kernel⟩
theorem mkd_Kept (D : Di K mg "Kept" (cKp K) "Kept.__init__" s_Kept_init) (T : Tx K mg) (h_fault : Hd P w K mg base "fault" ["rows"] k (spJ K .non)) (h_Wave_init : Mkd P w K mg base "Wave" (cWv K) ["self", "row", "size"] k (spWaveI K)) (h_Bits_init : Mkd P w K mg base "Bits" (cB K) ["self", "row"] k (spBitsI K))
    (h_Wave_rank : Md P w K mg base (cWv K) "rank" ["self", "symbol", "i"] [] k (spWaveRk K)) : Mkd P w K mg base "Kept" (cKp K) ["self", "rows"] (k + 2) (spKepI K) := by
  refine mkd_mk D sc_Kept_init (fun _ _ _ _ _ _ us hl => match us, hl with | [_, _], _ => rfl) (fun vs H Q E h => ?_) (fun f cdv A outer s H vs Q E hr h => ?_)
  · obtain ⟨G, r, nm, S, a, dx, ro, rfl, _⟩ := h; rfl
  obtain ⟨G, r, nm, S, a, dx, ro, rfl, J, ga, ha, q⟩ := h
  refine ⟨_, (pss_cons (ps_set (i := 2) sc_Kept_init.nd rfl (Or.inl rfl) (pe_hd h_fault hr rfl (pa_cons (pv 1) pa_nil)))
    (pss_cons (ps_if (pt_cmpR op_notN (pv 2) pe_non (nomark _))
      (pss_one ps_never)
      pss_nil)
    (pss_cons (ps_fld (pv 0) (pe_callTy call_list_of (by rfl) T.list (by decide +kernel) (pa_cons (pe_fld (pv 1) rfl) pa_nil)) rfl)
    (pss_cons (ps_fld (pv 0) (pe_callTy call_list_of (by rfl) T.list (by decide +kernel) (pa_cons (pe_fld (pv 1) rfl) pa_nil)) rfl)
    (pss_cons (ps_setLc (i := 3) (own := [("label", 4), ("full", 5)]) (g := gTup K 2 (gCons (gName 4) (gCons (gName 5) gNil))) (tt := tYes) rfl sc_Kept_init.nd rfl rfl (sw_true rfl rfl rfl (by decide +kernel)) (pi_zip (by rfl) T.zip (pa_cons (pe_fld (pv 1) rfl) (pa_cons (pe_fld (pv 1) rfl) pa_nil))) (blkOk_by (own := [("label", 4), ("full", 5)]) (N := ["self", "rows", "found", "symbols", "label", "full"]) (sc := defScope s_Kept_init) (by decide +kernel)) (fun _ _ _ _ _ => (pg_tup rfl (pgs_cons (pg_name (i := 4) sc_Kept_init.nd rfl (Or.inl rfl)) (pgs_cons (pg_name (i := 5) sc_Kept_init.nd rfl (Or.inl rfl)) pgs_nil)))) (fun _ _ _ _ _ => pts_nil) (fun _ _ _ _ _ => (pe_op op_add (pe_op op_mul pe_int (pv 4)) (pv 5))))
    (pss_cons (ps_fld (pv 0) (pe_mkd h_Wave_init hr rfl (pa_cons (pv 3) (pa_cons (pe_op op_add (pe_op op_mul pe_int (pe_callB call_len_seq (by rfl) T.len (by decide +kernel) (pa_cons (pe_fld (pv 0) rfl) pa_nil))) pe_int) pa_nil))) rfl)
    (pss_cons (ps_fld (pv 0) (pe_mkd h_Bits_init hr rfl (pa_cons (pe_fld (pv 1) rfl) pa_nil)) rfl)
    (pss_cons (ps_fld (pv 0) (pe_callB call_len_seq (by rfl) T.len (by decide +kernel) (pa_cons (pe_fld (pv 1) rfl) pa_nil)) rfl)
    (pss_cons (ps_fld (pv 0) (pe_lst (pa_cons pe_int pa_nil)) rfl)
    (pss_one (ps_for PassesOwn.never rfl (pi_range2 (by rfl) T.range (pa_cons pe_int (pa_cons (pe_op op_add (pe_callB call_len_seq (by rfl) T.len (by decide +kernel) (pa_cons (pe_fld (pv 0) rfl) pa_nil)) pe_int) pa_nil))) (pg_name (i := 4) sc_Kept_init.nd rfl (Or.inl rfl))
      (pss_one (ps_expr (pe_bm PySem.F.plainAttrs_list PySem.F.slot_list_append PySem.F.type_list_append mt_append (pe_fld (pv 0) rfl) (pa_cons (pe_op op_add (pe_ix ix_list (pe_fld (pv 0) rfl) (pe_un un_neg pe_int) (fun _ _ => rfl)) (pe_md h_Wave_rank T.cWave hr (pe_fld (pv 0) rfl) (pa_cons (pe_op op_add (pe_op op_mul pe_int (pv 4)) pe_int) (pa_cons (pe_fld (pe_fld (pv 0) rfl) rfl) pa_nil)))) pa_nil))))))))))))))), ?_⟩
  obtain ⟨dr, q0, q1, q2, q3, q4, hr', h0, h1, h2, h3, h4⟩ := id J.rows
  have sg := J.s
  have O := J.O
  have hz := J.z
  have hn := J.n
  have aro : ro ≠ a := fun z => by rw [z, ga] at hr'; cases hr'
  refine ⟨_, rfl, G, r, nm, S, ro, rfl, J, fun H1 s1 => ⟨_, rfl, rfl, _, rfl, iteF ?_⟩⟩
  have g1 : Gr (· = a) G H G H1 := (Gr.of sg s1).mono
  have ha1 := s1 _ _ ha
  -- names
  refine ⟨_, rfl, ro, _, dr, _, _, rfl, g1.sub _ _ hr', T.cRows, T.nRows_names, lRows_names, q0, _, rfl, .inl (SqL.of (g1.sub _ _ h0)), fun na nna => ?_⟩
  have ana : a ≠ na := ne_of_none ha1 nna
  have ha2 : upd H1 na (.lst (nm.map V.str)) a = some (.ins (cKp K) dx []) := by rw [upd_ne ana]; exact ha1
  have g2 := (g1.al (o := .lst (nm.map V.str)) nna).frz (g1.dom _ nna) upd_same
  have s2 := same_frz (p := na) (g1.al (o := .lst (nm.map V.str)) nna).sub upd_same
  have hna : upd G na (.lst (nm.map V.str)) na = some (.lst (nm.map V.str)) := upd_same
  have ga2 : upd G na (.lst (nm.map V.str)) a = none := by rw [upd_ne ana]; exact ga
  generalize upd G na (.lst (nm.map V.str)) = G2 at *
  generalize upd H1 na (.lst (nm.map V.str)) = H2 at *
  refine ⟨_, rfl, a, cKp K, dx, _, rfl, ha2, T.cKept, T.nKept_names, by show 0 < 1000; decide, ?_⟩
  rw [pKept0]
  have g3 := g2.wr (o := .ins (cKp K) dx (fKept1 (.ref na))) (.inr rfl) ga2 ha2
  have ha3 : upd H2 a (.ins (cKp K) dx (fKept1 (.ref na))) a = some (.ins (cKp K) dx (fKept1 (.ref na))) := upd_same
  generalize upd H2 a (.ins (cKp K) dx (fKept1 (.ref na))) = H3 at *
  -- texts
  refine ⟨_, rfl, ro, _, dr, _, _, rfl, g3.sub0 _ _ hr', T.cRows, T.nRows_texts, lRows_texts, q4, _, rfl, .inl (SqL.of (g3.sub0 _ _ h4)), fun ta nta => ?_⟩
  have ata : a ≠ ta := ne_of_none ha3 nta
  have ha4 : upd H3 ta (.lst ((txs r S).map V.str)) a = some (.ins (cKp K) dx (fKept1 (.ref na))) := by rw [upd_ne ata]; exact ha3
  have g4 := (g3.al (o := .lst ((txs r S).map V.str)) nta).frz (g3.dom _ nta) upd_same
  have s4 := same_frz (p := ta) (g3.al (o := .lst ((txs r S).map V.str)) nta).sub upd_same
  have hta : upd G2 ta (.lst ((txs r S).map V.str)) ta = some (.lst ((txs r S).map V.str)) := upd_same
  have ga4 : upd G2 ta (.lst ((txs r S).map V.str)) a = none := by rw [upd_ne ata]; exact ga2
  have hna4 := s4 _ _ hna
  generalize upd G2 ta (.lst ((txs r S).map V.str)) = G4 at *
  generalize upd H3 ta (.lst ((txs r S).map V.str)) = H4 at *
  refine ⟨_, rfl, a, cKp K, dx, _, rfl, ha4, T.cKept, T.nKept_texts, by show 1 < 1000; decide, ?_⟩
  rw [pKept1]
  have g5 := g4.wr (o := .ins (cKp K) dx (fKept2 (.ref na) (.ref ta))) (.inr rfl) ga4 ha4
  have ha5 : upd H4 a (.ins (cKp K) dx (fKept2 (.ref na) (.ref ta))) a = some (.ins (cKp K) dx (fKept2 (.ref na) (.ref ta))) := upd_same
  generalize upd H4 a (.ins (cKp K) dx (fKept2 (.ref na) (.ref ta))) = H5 at *
  -- symbols
  refine ⟨_, rfl, ro, _, dr, _, _, rfl, g5.sub0 _ _ hr', T.cRows, T.nRows_labels, lRows_labels, _, rfl, ro, _, dr, _, _, rfl, g5.sub0 _ _ hr', T.cRows, T.nRows_fulls, lRows_fulls, q1, q3, _, _, rfl, SqL.of (g5.sub0 _ _ h1), SqL.of (g5.sub0 _ _ h3), fun D1 hD1 => lc_map (walk_zip (n := S.length) (by simp [vN])) hD1 g5.sub (fun G' H' gr => ⟨SqL.of (gr.same _ _ (g5.sub0 _ _ h1)), SqL.of (gr.same _ _ (g5.sub0 _ _ h3))⟩) (fun i => nV (sym nm (r.go (S.getD i [])))) (by omega) ?_ ?_⟩
  · rintro i x G' H' H'' kk Z hi gr gD ⟨p, u, y, rfl, np, rfl, e1, e2⟩ yes
    obtain ⟨f1, hf1, rfl⟩ := map_get e1
    obtain ⟨w0, hw0, rfl⟩ := map_get hf1
    obtain ⟨f2, hf2, rfl⟩ := map_get e2
    obtain ⟨w1, hw1, rfl⟩ := map_get hf2
    rw [hw0] at hw1
    cases hw1
    have g7 := (Gr.refl (W := W0) gr.sub).al (o := .tup [nV (lab nm (r.go w0)), nV (nfl (r.go w0))]) np
    refine ⟨p, _, rfl, SqT.of upd_same, rfl, _, _, rfl, _, _, rfl, rfl, rfl, ty_yes ⟨_, rfl, 2, ((lab nm (r.go w0) : Nat) : Int), rfl, rfl, .inl ⟨by decide, by decide⟩, _, rfl, 2 * ((lab nm (r.go w0) : Nat) : Int), ((nfl (r.go w0) : Nat) : Int), rfl, rfl, ?_⟩⟩
    have := yes _ _ g7
    rw [List.getD_eq_getElem?_getD, hw0] at this
    have e9 : nV (sym nm (r.go w0)) = V.int (2 * ((lab nm (r.go w0) : Nat) : Int) + ((nfl (r.go w0) : Nat) : Int)) := congrArg V.int (by unfold sym; omega)
    rw [show nV (sym nm (r.go ((some w0).getD []))) = nV (sym nm (r.go w0)) from rfl, e9] at this
    exact this
  intro G6 H6 g6 hl6 gD6
  rw [map_range_getD [] S (fun w => nV (sym nm (r.go w)))] at hl6
  have hl6 : H6 D1 = some (.lst (vN (syms r nm S))) := by rw [hl6, vN, List.map_map]; rfl
  have ha6 := g6.same _ _ ha5
  have ga6 : G6 a = none := g6.free ga4 ha5
  have g06 : Gr (· = a) G H G6 H6 := g5.trans g6.mono
  have hna6 := g6.ext _ _ hna4
  have hta6 := g6.ext _ _ hta
  have hsl : (syms r nm S).length = S.length := by simp
  -- the wave
  refine ⟨_, rfl, _, rfl, a, _, dx, _, _, rfl, ha6, T.cKept, T.nKept_names, lKept2_names, na, _, rfl, .inl (SqL.of (g06.sub _ _ hna6)), 2, _, rfl, rfl, .inl ⟨by decide, by decide⟩, 2 * (((nm.map V.str).length : Nat) : Int), 2, rfl, rfl, ?_⟩
  have ez : (2 : Int) * (((nm.map V.str).length : Nat) : Int) + 2 = ((2 * nm.length + 2 : Nat) : Int) := by rw [List.length_map]; omega
  simp only [ez]
  refine fun x dw n1 n2 n3 => ?_
  have nxu : upd H6 dw (.own x) x = none := by rw [upd_ne n3.symm]; exact n1
  have sx : Same H6 (upd (upd H6 dw (.own x)) x (.ins (cWv K) dw [])) := (Same.up n2).trans (Same.up nxu)
  refine ⟨G6, syms r nm S, 2 * nm.length + 2, x, dw, D1, rfl, g06.sub.trans sx, same_none g06.sub n1, upd_same, sx _ _ hl6, fun z hz' => ?_, by omega, by omega, by omega, fun G7 fs H7 g7 hx hp => ⟨rfl, ?_⟩⟩
  · obtain ⟨w0, hw0, rfl⟩ := List.mem_map.mp hz'
    exact sym_lt O hw0
  obtain ⟨g71, s71⟩ := Gr.init g06.sub n1 n2 n3 g7 hx
  have hwv : IsWave K (upd G7 x (.ins (cWv K) dw fs)) (syms r nm S) (2 * nm.length + 2) x := ⟨fun z hz' => by
    obtain ⟨w0, hw0, rfl⟩ := List.mem_map.mp hz'
    exact sym_lt O hw0, by omega, by omega, by omega, dw, fs, upd_same, hp.mono s71⟩
  have ha7 := g71.same _ _ ha6
  have ga7 : upd G7 x (.ins (cWv K) dw fs) a = none := g71.free ga6 ha6
  have g07 := g06.trans g71.mono
  have hna7 := g71.ext _ _ hna6
  have hta7 := g71.ext _ _ hta6
  generalize upd G7 x (.ins (cWv K) dw fs) = G7' at *
  refine ⟨_, rfl, a, cKp K, dx, _, rfl, ha7, T.cKept, T.nKept_wave, by show 2 < 1000; decide, ?_⟩
  rw [pKept2]
  have g8 := g07.wr (o := .ins (cKp K) dx (fKept3 (.ref na) (.ref ta) (.ref x))) (.inr rfl) ga7 ha7
  have ha8 : upd H7 a (.ins (cKp K) dx (fKept3 (.ref na) (.ref ta) (.ref x))) a = some (.ins (cKp K) dx (fKept3 (.ref na) (.ref ta) (.ref x))) := upd_same
  generalize upd H7 a (.ins (cKp K) dx (fKept3 (.ref na) (.ref ta) (.ref x))) = H8 at *
  -- the bits
  have hlz : (lsts r S).length = S.length := by simp [lsts]
  refine ⟨_, rfl, ro, _, dr, _, _, rfl, g8.sub0 _ _ hr', T.cRows, T.nRows_lasts, lRows_lasts, fun y dy m1 m2 m3 => mkBits m1 m2 m3 g8.sub (g8.sub0 _ _ h2) (lsts_bt r S) (by omega) fun G9 H9 g9 hB => ⟨rfl, ?_⟩⟩
  have ha9 := g9.same _ _ ha8
  have ga9 : G9 a = none := g9.free ga7 ha8
  have g09 := g8.trans g9.mono
  have hna9 := g9.ext _ _ hna7
  have hta9 := g9.ext _ _ hta7
  have hwv9 := hwv.mono g9.ext
  refine ⟨_, rfl, a, cKp K, dx, _, rfl, ha9, T.cKept, T.nKept_lasts, by show 3 < 1000; decide, ?_⟩
  rw [pKept3]
  have g10 := g09.wr (o := .ins (cKp K) dx (fKept4 (.ref na) (.ref ta) (.ref x) (.ref y))) (.inr rfl) ga9 ha9
  have ha10 : upd H9 a (.ins (cKp K) dx (fKept4 (.ref na) (.ref ta) (.ref x) (.ref y))) a = some (.ins (cKp K) dx (fKept4 (.ref na) (.ref ta) (.ref x) (.ref y))) := upd_same
  generalize upd H9 a (.ins (cKp K) dx (fKept4 (.ref na) (.ref ta) (.ref x) (.ref y))) = H10 at *
  -- the size
  have el1 : (vN (S.map fun w => lab nm (r.go w))).length = S.length := by simp [vN]
  refine ⟨_, rfl, ro, _, dr, _, _, rfl, g10.sub0 _ _ hr', T.cRows, T.nRows_labels, lRows_labels, q1, _, rfl, .inl (SqL.of (g10.sub0 _ _ h1)), ?_⟩
  rw [el1]
  refine ⟨_, rfl, a, cKp K, dx, _, rfl, ha10, T.cKept, T.nKept_size, by show 4 < 1000; decide, ?_⟩
  rw [pKept4]
  have g11 := g10.wr (o := .ins (cKp K) dx (fKept5 (.ref na) (.ref ta) (.ref x) (.ref y) (nV S.length))) (.inr rfl) ga9 ha10
  have ha11 : upd H10 a (.ins (cKp K) dx (fKept5 (.ref na) (.ref ta) (.ref x) (.ref y) (nV S.length))) a = some (.ins (cKp K) dx (fKept5 (.ref na) (.ref ta) (.ref x) (.ref y) (nV S.length))) := upd_same
  generalize upd H10 a (.ins (cKp K) dx (fKept5 (.ref na) (.ref ta) (.ref x) (.ref y) (nV S.length))) = H11 at *
  -- the starts
  refine ⟨by show 1 ≤ sizeLine; decide, fun st nst => ?_⟩
  have ast : a ≠ st := ne_of_none ha11 nst
  have nstH : H st = none := g11.dom _ nst
  have gst : G9 st = none := same_none g11.sub nst
  have g12 := g11.al (o := .lst [.int 0]) nst
  have ha12 : upd H11 st (.lst [.int 0]) a = some (.ins (cKp K) dx (fKept5 (.ref na) (.ref ta) (.ref x) (.ref y) (nV S.length))) := by rw [upd_ne ast]; exact ha11
  have hst12 : upd H11 st (.lst [.int 0]) st = some (.lst [.int 0]) := upd_same
  generalize upd H11 st (.lst [.int 0]) = H12 at *
  refine ⟨_, rfl, a, cKp K, dx, _, rfl, ha12, T.cKept, T.nKept_starts, by show 5 < 1000; decide, ?_⟩
  rw [pKept5]
  have g13 := g12.wr (o := .ins (cKp K) dx (fKept (.ref na) (.ref ta) (.ref x) (.ref y) (nV S.length) (.ref st))) (.inr rfl) ga9 ha12
  have ha13 : upd H12 a (.ins (cKp K) dx (fKept (.ref na) (.ref ta) (.ref x) (.ref y) (nV S.length) (.ref st))) a = some (.ins (cKp K) dx (fKept (.ref na) (.ref ta) (.ref x) (.ref y) (nV S.length) (.ref st))) := upd_same
  have hst13 : upd H12 a (.ins (cKp K) dx (fKept (.ref na) (.ref ta) (.ref x) (.ref y) (nV S.length) (.ref st))) st = some (.lst [.int 0]) := by rw [upd_ne ast.symm]; exact hst12
  generalize upd H12 a (.ins (cKp K) dx (fKept (.ref na) (.ref ta) (.ref x) (.ref y) (nV S.length) (.ref st))) = H13 at *
  refine ⟨_, rfl, a, _, dx, _, _, rfl, ha13, T.cKept, T.nKept_names, lKept_names, na, _, rfl, .inl (SqL.of (g13.sub _ _ hna9)), _, _, rfl, rfl, _, _, rfl, ⟨by decide, by decide, by rw [List.length_map]; omega, by rw [List.length_map]; omega⟩, ?_⟩
  refine for_it walk_range (fun i σ Hi => ∃ (x4 x5 : Option V), σ = [some (.ref a), some (.ref ro), some .non, some (.ref D1), x4, x5] ∧ Gr (· = a) G H G9 Hi ∧ Hi a = some (.ins (cKp K) dx (fKept (.ref na) (.ref ta) (.ref x) (.ref y) (nV S.length) (.ref st))) ∧ Hi st = some (.lst ((List.range (i + 1)).map fun l => nV (stc r nm S l))))
    ⟨_, _, rfl, g13, ha13, hst13⟩ (fun _ _ _ _ _ => trivial) ?_ ?_
  · rintro i xx σ H14 Hi hi ⟨x4, x5, rfl, gi, hai, hsti⟩ ⟨rfl, rfl⟩
    have hi' : i < nm.length := by rw [List.length_map] at hi; omega
    obtain ⟨dwv, xw, hxw⟩ := hwv9.ins
    have hxw' := gi.sub _ _ hxw
    have hsplit : ((List.range (i + 1)).map fun l => nV (stc r nm S l)) = ((List.range i).map fun l => nV (stc r nm S l)) ++ [nV (stc r nm S i)] := by rw [List.range_succ]; simp
    have e3 : (2 : Int) * (1 + ((i : Nat) : Int)) + 1 = ((2 * (i + 1) + 1 : Nat) : Int) := by omega
    refine ⟨_, rfl, a, _, dx, _, _, rfl, hai, T.cKept, T.nKept_starts, lKept_starts, .inl ⟨rfl, _, SqL.of hsti⟩, _, rfl, a, _, dx, _, _, rfl, hai, T.cKept, T.nKept_starts, lKept_starts, 1, rfl, st, _, _, nV (stc r nm S i), rfl, rfl, SqL.of (by rw [← hsplit]; exact hsti), atI_last _ _, _, rfl, a, _, dx, _, _, rfl, hai, T.cKept, T.nKept_wave, lKept_wave, x, dwv, _, rfl, hxw', lWave_no_rank, _, rfl, 2, (1 + ((i : Nat) : Int)), rfl, rfl, .inl ⟨by decide, by decide⟩, 2 * (1 + ((i : Nat) : Int)), 1, rfl, rfl, ?_⟩
    simp only [e3]
    refine ⟨_, rfl, a, _, dx, _, _, rfl, hai, T.cKept, T.nKept_wave, lKept_wave, x, _, dwv, _, _, rfl, hxw', T.cWave, T.nWave_length, lWave_length, G9, _, _, x, 2 * (i + 1) + 1, (syms r nm S).length, rfl, gi.sub, hwv9, by omega, Nat.le_refl _, fun H15 s15 => ⟨((stc r nm S i : Nat) : Int), _, rfl, rfl, ?_⟩⟩
    rw [List.take_length, cnt_sym]
    have e4 : ((stc r nm S i : Nat) : Int) + (((famL r nm S (i + 1)).length : Nat) : Int) = ((stc r nm S (i + 1) : Nat) : Int) := by simp only [stc]; omega
    simp only [e4]
    have gi5 := gi.trans (Gr.of gi.sub s15).mono
    have hst5 := s15 _ _ hsti
    refine ⟨st, _, _, rfl, rfl, hst5, smallT (by simp; omega), _, _, rfl, gi5.wr (.inl nstH) gst hst5, by rw [upd_ne ast]; exact s15 _ _ hai, ?_⟩
    rw [upd_same, List.range_succ (n := i + 1), List.map_append]
    rfl
  · rintro σ Hi ⟨x4, x5, rfl, gi, hai, hsti⟩
    have en : ((((nm.map V.str).length : Nat) : Int) + 1 - 1).toNat = nm.length := by rw [List.length_map]; omega
    rw [en] at hsti
    have gf := gi.frz nstH hsti
    have sf := same_frz (p := st) gi.sub hsti
    exact q _ na ta x y st Hi gf hai ⟨sf _ _ hna9, sf _ _ hta9, hwv9.mono sf, hB.mono sf, upd_same⟩
end
end K5
set_option Elab.async false
set_option linter.all false
set_option maxRecDepth 100000
set_option maxHeartbeats 4000000
namespace K5
open PySem PySem.Spec PyProof.Rows L2
/-- what a document must be for its layers -/
structure DocOk (r : Tr) (L : List Str) (n : Nat) : Prop where
  el : r.isTx = false
  good : r.good = true
  rs : r.rs = true
  z : r.size ≤ 1000
  d : r.depth ≤ 60
  dn : r.depth ≤ n
  fit : r.fit
  L60 : L.length < 60
  nms : ∀ k ∈ r.nms, k ∈ L
def spLayI (K : PySem.W.Frag) (Pt : Addr) (n : Nat) : Sp := fun vs H Q _ => ∃ (G : Hp) (r : Tr) (v : V) (L : List Str) (a dx : Addr), vs = [.ref a, v] ∧ Same G H ∧ G Pt = none ∧ LamX.TabS H Pt qL ∧ IsT G r v ∧ DocOk r L n ∧ G a = none ∧ H a = some (.ins (cLy K) dx []) ∧ a ≠ Pt ∧
  ∀ G' nm vw la to p1 H', Gr (fun b => b = a ∨ b = Pt) G H G' H' → LamX.TabS H' Pt qL → H' a = some (.ins (cLy K) dx (fLayers (.ref vw) (.ref la) (.ref to))) → IsVw K G' r nm (ordS r nm) vw → H' la = some (.lst []) → H' to = some (.lst [p1]) → IsP r (ordS r nm) G' r p1 → G' la = none → G' to = none → la ≠ to → Q .non H'
section
variable {P : Program} {w : World} {K : PySem.W.Frag} {mg : Str → Option Value} {base : Heap} {k : Nat}
theorem sc_Layers_init : FnScope ["self", "tree"] ["self", "tree"] (defScope s_Layers_init) := ⟨rfl, rfl, rfl, by decide +kernel, rfl, by decide +kernel, by decide +kernel⟩
theorem mkd_Layers {Pt : Addr} (D : Di K mg "Layers" (cLy K) "Layers.__init__" s_Layers_init) (T : Tx K mg) (n : Nat) (h_View_init : Mkd P w K mg base "View" (cVw K) ["self", "kept"] k (spVwI K)) (h_Kept_init : Mkd P w K mg base "Kept" (cKp K) ["self", "rows"] k (spKepI K)) (h_rows_of : Hd P w K mg base "rows_of" ["tree"] k (spRowsOf K Pt n)) :
    Mkd P w K mg base "Layers" (cLy K) ["self", "tree"] (k + 2) (spLayI K Pt n) := by
  refine mkd_mk D sc_Layers_init (fun _ _ _ _ _ _ us hl => match us, hl with | [_, _], _ => rfl) (fun vs H Q E h => ?_) (fun f cdv A outer s H vs Q E hr h => ?_)
  · obtain ⟨G, r, v, L, a, dx, rfl, _⟩ := h; rfl
  obtain ⟨G, r, v, L, a, dx, rfl, sg, gP, tP, ht, dk, ga, ha, aP, q⟩ := h
  refine ⟨_, (pss_cons (ps_fld (pv 0) (pe_mkd h_View_init hr rfl (pa_cons (pe_mkd h_Kept_init hr rfl (pa_cons (pe_hd h_rows_of hr rfl (pa_cons (pv 1) pa_nil)) pa_nil)) pa_nil)) rfl)
    (pss_cons (ps_fld (pv 0) (pe_lst pa_nil) rfl)
    (pss_one (ps_fld (pv 0) (pe_lst (pa_cons (pe_tup (pa_cons pe_str (pa_cons pe_int pa_nil))) pa_nil)) rfl)))), ?_⟩
  have hd' := dk.d
  have hz' := dk.z
  refine ⟨_, rfl, G, r, v, L, rfl, sg, gP, tP, ht, dk.el, dk.good, dk.rs, dk.z, by omega, dk.dn, dk.fit, dk.L60, dk.nms, fun nm G1 ro H1 g1 T1 hrows O hnl hnm => ?_⟩
  have hsz : (ordS r nm).length = r.size := by rw [ordS_perm.length_eq, pre_len]
  have ha1 : H1 a = some (.ins (cLy K) dx []) := g1.at_ ha aP
  have ga1 : G1 a = none := g1.free ga ha
  have gP1 : G1 Pt = none := by
    obtain ⟨ps, h1, _⟩ := tP
    exact g1.free gP h1
  refine fun x dk' n1 n2 n3 => ?_
  have nxu : upd H1 dk' (.own x) x = none := by rw [upd_ne n3.symm]; exact n1
  have sx : Same H1 (upd (upd H1 dk' (.own x)) x (.ins (cKp K) dk' [])) := (Same.up n2).trans (Same.up nxu)
  refine ⟨G1, r, nm, ordS r nm, x, dk', ro, rfl, ⟨g1.sub.trans sx, hrows, O, by omega, by omega, dk.good, dk.el, dk.fit, dk.d, by omega⟩, same_none g1.sub n1, upd_same, fun G2 na ta wv lb st H2 g2 hx hk => ⟨rfl, ?_⟩⟩
  obtain ⟨g21, s21⟩ := Gr.init g1.sub n1 n2 n3 g2 hx
  have hkep : IsKep K (upd G2 x (.ins (cKp K) dk' (fKept (.ref na) (.ref ta) (.ref wv) (.ref lb) (nV (ordS r nm).length) (.ref st)))) r nm (ordS r nm) x := ⟨⟨O, by omega, by omega⟩, dk', na, ta, wv, lb, st, upd_same, s21 _ _ hk.na, s21 _ _ hk.ta, hk.wv.mono s21, hk.lb.mono s21, s21 _ _ hk.st⟩
  have ha2 := g21.same _ _ ha1
  have ga2 := g21.free ga1 ha1
  have T2 := T1.ext g21.same
  have g02 := g1.trans g21.mono
  generalize upd G2 x (.ins (cKp K) dk' (fKept (.ref na) (.ref ta) (.ref wv) (.ref lb) (nV (ordS r nm).length) (.ref st))) = G2' at *
  refine fun y dy m1 m2 m3 => ?_
  have nyu : upd H2 dy (.own y) y = none := by rw [upd_ne m3.symm]; exact m1
  have sy : Same H2 (upd (upd H2 dy (.own y)) y (.ins (cVw K) dy [])) := (Same.up m2).trans (Same.up nyu)
  refine ⟨G2', y, dy, .ref x, rfl, g02.sub.trans sy, same_none g02.sub m1, upd_same, fun H3 g3 hy => ⟨rfl, ?_⟩⟩
  obtain ⟨g31, s31⟩ := Gr.init g02.sub m1 m2 m3 g3 hy
  have hvw : IsVw K (upd G2' y (.ins (cVw K) dy (fView (.ref x)))) r nm (ordS r nm) y := ⟨dy, x, upd_same, hkep.mono s31⟩
  have ha3 := g31.same _ _ ha2
  have ga3 := g31.free ga2 ha2
  have T3 := T2.ext g31.same
  have g03 : Gr (fun b => b = a ∨ b = Pt) G H _ H3 := (g02.trans g31.mono).drop fun b hb => .inl (.inr hb)
  generalize upd G2' y (.ins (cVw K) dy (fView (.ref x))) = G3 at *
  have tabN : ∀ {HH : Hp} {o : HO}, LamX.TabS HH Pt qL → LamX.TabS (upd HH a o) Pt qL → True := fun _ _ => trivial
  have tab_a : ∀ {HH : Hp} {f0 f1 : List (Str × V)}, LamX.TabS HH Pt qL → HH a = some (.ins (cLy K) dx f0) → LamX.TabS (upd HH a (.ins (cLy K) dx f1)) Pt qL := by
    rintro HH f0 f1 ⟨ps, t1, t2, t3⟩ hh
    refine ⟨ps, by rw [upd_ne aP.symm]; exact t1, t2, fun pos cv hc => ?_⟩
    obtain ⟨c, e1, e2⟩ := t3 pos cv hc
    refine ⟨c, e1, ?_⟩
    rw [upd_ne (fun z => by rw [z, hh] at e2; unfold LamX.CodeO at e2; cases e2)]
    exact e2
  refine ⟨_, rfl, a, cLy K, dx, _, rfl, ha3, T.cLayers, T.nLayers_view, by show 0 < 1000; decide, ?_⟩
  rw [pLayers0]
  have g4 := g03.wr (o := .ins (cLy K) dx (fLayers1 (.ref y))) (.inr (.inl rfl)) ga3 ha3
  have T4 := tab_a (f1 := fLayers1 (.ref y)) T3 ha3
  have ha4 : upd H3 a (.ins (cLy K) dx (fLayers1 (.ref y))) a = some (.ins (cLy K) dx (fLayers1 (.ref y))) := upd_same
  generalize upd H3 a (.ins (cLy K) dx (fLayers1 (.ref y))) = H4 at *
  refine ⟨by show 0 ≤ sizeLine; decide, fun la nla => ?_⟩
  have ala : a ≠ la := ne_of_none ha4 nla
  have g5 := g4.al (o := .lst []) nla
  have T5 : LamX.TabS (upd H4 la (.lst [])) Pt qL := T4.ext (Same.up nla)
  have ha5 : upd H4 la (.lst []) a = some (.ins (cLy K) dx (fLayers1 (.ref y))) := by rw [upd_ne ala]; exact ha4
  have hla5 : upd H4 la (.lst []) la = some (.lst []) := upd_same
  have gla : G3 la = none := same_none g4.sub nla
  generalize upd H4 la (.lst []) = H5 at *
  refine ⟨_, rfl, a, cLy K, dx, _, rfl, ha5, T.cLayers, T.nLayers_laid, by show 1 < 1000; decide, ?_⟩
  rw [pLayers1]
  have g6 := g5.wr (o := .ins (cLy K) dx (fLayers2 (.ref y) (.ref la))) (.inr (.inl rfl)) ga3 ha5
  have T6 := tab_a (f1 := fLayers2 (.ref y) (.ref la)) T5 ha5
  have ha6 : upd H5 a (.ins (cLy K) dx (fLayers2 (.ref y) (.ref la))) a = some (.ins (cLy K) dx (fLayers2 (.ref y) (.ref la))) := upd_same
  have hla6 : upd H5 a (.ins (cLy K) dx (fLayers2 (.ref y) (.ref la))) la = some (.lst []) := by rw [upd_ne ala.symm]; exact hla5
  generalize upd H5 a (.ins (cLy K) dx (fLayers2 (.ref y) (.ref la))) = H6 at *
  refine ⟨by show 2 ≤ sizeLine; decide, fun p np => ⟨by show 1 ≤ sizeLine; decide, fun to nto => ?_⟩⟩
  have npH := g6.dom _ np
  have g7 := (g6.al (o := .tup [.str "row", .int 0]) np).frz npH upd_same
  have s7 := same_frz (p := p) (g6.al (o := .tup [.str "row", .int 0]) np).sub upd_same
  have T7 : LamX.TabS (upd H6 p (.tup [.str "row", .int 0])) Pt qL := T6.ext (Same.up np)
  have ha7 : upd H6 p (.tup [.str "row", .int 0]) a = some (.ins (cLy K) dx (fLayers2 (.ref y) (.ref la))) := by rw [upd_ne (ne_of_none ha6 np)]; exact ha6
  have hla7 : upd H6 p (.tup [.str "row", .int 0]) la = some (.lst []) := by rw [upd_ne (ne_of_none hla6 np)]; exact hla6
  have hp7 : upd G3 p (.tup [.str "row", .int 0]) p = some (.tup [.str "row", .int 0]) := upd_same
  have ga7 : upd G3 p (.tup [.str "row", .int 0]) a = none := by rw [upd_ne (ne_of_none ha6 np)]; exact ga3
  have gla7 : upd G3 p (.tup [.str "row", .int 0]) la = none := by rw [upd_ne (ne_of_none hla6 np)]; exact gla
  have hvw7 := hvw.mono s7
  generalize upd G3 p (.tup [.str "row", .int 0]) = G7 at *
  generalize upd H6 p (.tup [.str "row", .int 0]) = H7 at *
  have ato : a ≠ to := ne_of_none ha7 nto
  have lato : la ≠ to := ne_of_none hla7 nto
  have g8 := g7.al (o := .lst [.ref p]) nto
  have T8 : LamX.TabS (upd H7 to (.lst [.ref p])) Pt qL := T7.ext (Same.up nto)
  have ha8 : upd H7 to (.lst [.ref p]) a = some (.ins (cLy K) dx (fLayers2 (.ref y) (.ref la))) := by rw [upd_ne ato]; exact ha7
  have hla8 : upd H7 to (.lst [.ref p]) la = some (.lst []) := by rw [upd_ne lato]; exact hla7
  have hto8 : upd H7 to (.lst [.ref p]) to = some (.lst [.ref p]) := upd_same
  have gto : G7 to = none := same_none g7.sub nto
  generalize upd H7 to (.lst [.ref p]) = H8 at *
  refine ⟨_, rfl, a, cLy K, dx, _, rfl, ha8, T.cLayers, T.nLayers_tops, by show 2 < 1000; decide, ?_⟩
  rw [pLayers2]
  have g9 := g8.wr (o := .ins (cLy K) dx (fLayers (.ref y) (.ref la) (.ref to))) (.inr (.inl rfl)) ga7 ha8
  have T9 := tab_a (f1 := fLayers (.ref y) (.ref la) (.ref to)) T8 ha8
  exact q G7 nm y la to (.ref p) _ g9 T9 upd_same hvw7 (by rw [upd_ne ala.symm]; exact hla8) (by rw [upd_ne ato.symm]; exact hto8) (IsP.row ⟨0, p, rfl, hp7, [], nil_in O, rfl⟩) gla7 gto lato
end
end K5
set_option Elab.async false
set_option linter.all false
set_option maxRecDepth 100000
set_option maxHeartbeats 4000000
namespace K5
open PySem PySem.Spec PyProof.Rows L2
/-! ### the law's own defs: draws, names, texts, ways -/
theorem ite_both {b : Bool} {A B : Prop} (hA : A) (hB : B) : if b = true then A else B := by
  cases b
  · exact iteF hB
  · exact iteT hA
/-- a list of draws -/
structure DrP (G H : Hp) (d : Addr) (ns : List Int) : Prop where
  s : Same G H
  g : G d = none
  h : H d = some (.lst (ns.map V.int))
def spTake : Sp := fun vs H Q _ => ∃ (G : Hp) (d : Addr) (ns : List Int) (b : Nat), vs = [.ref d, nV b] ∧ 0 < b ∧ DrP G H d ns ∧ ∀ x ns' H', x < b → Gr (· = d) G H G H' → DrP G H' d ns' → Q (nV x) H'
def spDraws (K : PySem.W.Frag) : Sp := fun vs H Q _ => ∃ (l : Addr) (ns : List Int), vs = [.ref l] ∧ SqL K H l (ns.map V.int) ∧ ns.length ≤ 63 ∧ (∀ H', Same H H' → SqL K H' l (ns.map V.int)) ∧ ∀ (p : Addr) (ns' : List Int) (H' : Hp), Same H H' → H p = none → H' p = some (.lst (ns'.map V.int)) → Q (.ref p) H'
def nms4 : List Str := ["a", "b", "abcdefghijkl", "c"]
def spLNames : Sp := fun vs H Q _ => ∃ (G : Hp) (d : Addr) (ns : List Int), vs = [.ref d] ∧ DrP G H d ns ∧ ∀ (p : Addr) (nms : List Str) (ns' : List Int) (H' : Hp), Gr (· = d) G H G H' → DrP G H' d ns' → H p = none → H' p = some (.lst (nms.map V.str)) → nms ≠ [] → nms.length ≤ 4 → (∀ x ∈ nms, x ∈ nms4) → Q (.ref p) H'
def spLStr : Sp := fun vs H Q _ => ∃ (G : Hp) (d : Addr) (ns : List Int) (m : Nat), vs = [.ref d, nV m] ∧ 0 < m ∧ m ≤ 10 ∧ DrP G H d ns ∧ ∀ z ns' H', Gr (· = d) G H G H' → DrP G H' d ns' → isTxt z = true → z.length ≤ 10 → Q (.str z) H'
def spLAt : Sp := fun vs H Q _ => ∃ (G : Hp) (t : Tr) (v : V) (wy : Way) (lw : Addr), vs = [v, .ref lw] ∧ Same G H ∧ IsT G t v ∧ H lw = some (.lst (vN wy)) ∧ t.ok wy ∧ ∀ v', IsT G (t.go wy) v' → Q v' H
def spLPut (n : Nat) : Sp := fun vs H Q _ => ∃ (G : Hp) (t x : Tr) (v xv : V) (wy : Way) (lw : Addr), vs = [v, .ref lw, xv] ∧ Same G H ∧ IsT G t v ∧ t.size ≤ 50000 ∧ H lw = some (.lst (vN wy)) ∧ t.ok wy ∧ wy.length < n ∧ IsT G x xv ∧ ∀ G' v' H', Gr W0 G H G' H' → IsT G' (t.put wy x) v' → Q v' H'
abbrev signs : Str := "ab <>&;lt\n~/"
theorem signs_ok : ∀ c ∈ signs.cps.toList, isCh c = true := by decide +kernel
section
variable {P : Program} {w : World} {K : PySem.W.Frag} {mg : Str → Option Value} {base : Heap} {k : Nat}
theorem sc_law_take : FnScope ["_law_draws_here", "_law_bound"] ["_law_draws_here", "_law_bound"] (defScope s_law_take) := ⟨rfl, rfl, rfl, by decide +kernel, rfl, by decide +kernel, by decide +kernel⟩
theorem hd_law_take (D : Df K mg "_law_take" s_law_take) (T : Tx K mg) : Hd P w K mg base "_law_take" ["_law_draws_here", "_law_bound"] (k + 1) spTake := by
  refine hd_mk D sc_law_take (fun _ _ _ _ _ _ us hl => match us, hl with | [_, _], _ => rfl) (fun vs H Q E h => ?_) (fun f cdv A outer s H vs Q E hr h => ?_)
  · obtain ⟨G, d, ns, b, rfl, _⟩ := h; rfl
  obtain ⟨G, d, ns, b, rfl, hb, D, q⟩ := h
  refine ⟨_, (pss_cons (ps_if (pt_cmpR op_eq (pe_callB call_len_seq (by rfl) T.len (by decide +kernel) (pa_cons (pv 0) pa_nil)) pe_int (nomark _))
    (pss_one (ps_ret pe_int))
    pss_nil)
  (pss_one (ps_ret (pe_op op_mod (pe_callTy call_int1 (by rfl) T.int (by decide +kernel) (pa_cons (pe_bm0 PySem.F.plainAttrs_list PySem.F.slot_list_pop PySem.F.type_list_pop mt_pop (pv 0)) pa_nil)) (pv 1))))), ?_⟩
  refine ⟨_, rfl, d, _, rfl, .inl (SqL.of D.h), rfl, _, rfl, ?_⟩
  rcases List.eq_nil_or_concat ns with rfl | ⟨ns', x, rfl⟩
  · exact iteT (q 0 [] H hb (.refl D.s) D)
  · have e1 : (ns'.concat x).map V.int = ns'.map V.int ++ [.int x] := by rw [List.concat_eq_append, List.map_append]; rfl
    rw [e1]
    have hd : H d = some (.lst (ns'.map V.int ++ [.int x])) := by rw [D.h, e1]
    rw [show decide (V.int (((ns'.map V.int ++ [V.int x]).length : Nat) : Int) = V.int 0) = false from decide_eq_false fun z => by injection z with z; simp at z; omega]
    refine iteF ⟨_, rfl, .inl ⟨rfl, _, SqL.of hd⟩, d, _, .int x, rfl, rfl, hd, last_of _ _, ?_⟩
    rw [List.dropLast_concat]
    have g : Gr (· = d) G H G (upd H d (.lst (ns'.map V.int))) := .put D.s rfl D.g hd
    refine .inl ⟨x, rfl, _, rfl, x, ((b : Nat) : Int), rfl, rfl, by show (0 : Int) < ((b : Nat) : Int); omega, ?_⟩
    have h1 := Int.emod_nonneg x (show ((b : Nat) : Int) ≠ 0 by omega)
    have h2 := Int.emod_lt_of_pos x (show (0 : Int) < ((b : Nat) : Int) by omega)
    have e2 : x % ((b : Nat) : Int) = (((x % ((b : Nat) : Int)).toNat : Nat) : Int) := by omega
    have := q (x % ((b : Nat) : Int)).toNat ns' _ (by omega) g ⟨g.sub, D.g, upd_same⟩
    rw [show nV (x % ((b : Nat) : Int)).toNat = V.int (x % ((b : Nat) : Int)) from congrArg V.int e2.symm] at this
    exact this
theorem sc_law_names : FnScope ["_law_draws_here"] ["_law_draws_here"] (defScope s_law_names) := ⟨rfl, rfl, rfl, by decide +kernel, rfl, by decide +kernel, by decide +kernel⟩
theorem hd_law_names (D : Df K mg "_law_names" s_law_names) (T : Tx K mg) (h_law_take : Hd P w K mg base "_law_take" ["_law_draws_here", "_law_bound"] k spTake) : Hd P w K mg base "_law_names" ["_law_draws_here"] (k + 1) spLNames := by
  refine hd_mk D sc_law_names (fun _ _ _ _ _ _ us hl => match us, hl with | [_], _ => rfl) (fun vs H Q E h => ?_) (fun f cdv A outer s H vs Q E hr h => ?_)
  · obtain ⟨G, d, ns, rfl, _⟩ := h; rfl
  obtain ⟨G, d, ns, rfl, D, q⟩ := h
  refine ⟨_, (pss_one (ps_ret (pe_slice sl_list (pe_lst (pa_cons pe_str (pa_cons pe_str (pa_cons pe_str (pa_cons pe_str pa_nil))))) po_none (po_some (pe_op op_add pe_int (pe_hd h_law_take hr rfl (pa_cons (pv 0) (pa_cons pe_int pa_nil)))))))), ?_⟩
  refine ⟨by show 4 ≤ sizeLine; decide, fun p np => ?_⟩
  have g1 : Gr (· = d) G H G (upd H p (.lst [.str "a", .str "b", .str "abcdefghijkl", .str "c"])) := .alloc D.s np
  have hpd : d ≠ p := ne_of_none D.h np
  have hp1 : upd H p (.lst [.str "a", .str "b", .str "abcdefghijkl", .str "c"]) p = some (.lst (nms4.map V.str)) := upd_same
  have D1 : DrP G (upd H p (.lst [.str "a", .str "b", .str "abcdefghijkl", .str "c"])) d ns := ⟨g1.sub, D.g, by rw [upd_ne hpd]; exact D.h⟩
  generalize upd H p (.lst [.str "a", .str "b", .str "abcdefghijkl", .str "c"]) = H1 at *
  refine ⟨_, rfl, G, d, ns, 4, rfl, by decide, D1, fun x ns' H2 hx g2 D2 => ⟨1, ((x : Nat) : Int), rfl, rfl, _, rfl, p, nms4.map V.str, rfl, SqL.of (g2.at_ hp1 hpd.symm), fun p2 np2 => ?_⟩⟩
  have e : (1 : Int) + ((x : Nat) : Int) = ((1 + x : Nat) : Int) := by omega
  simp only [e]
  rw [cut_to (show 1 + x ≤ (nms4.map V.str).length by rw [List.length_map]; show 1 + x ≤ 4; omega)]
  have g3 := (g1.trans g2).al (o := .lst ((nms4.map V.str).take (1 + x))) np2
  refine q p2 (nms4.take (1 + x)) ns' _ g3 ⟨g3.sub, D.g, by rw [upd_ne (ne_of_none D2.h np2)]; exact D2.h⟩ ((g1.trans g2).dom _ np2) (by rw [upd_same, List.map_take]) ?_ ?_ (fun y hy => List.mem_of_mem_take hy)
  · intro z
    have := congrArg List.length z
    rw [List.length_take] at this
    simp [nms4] at this
  · rw [List.length_take]
    show min (1 + x) 4 ≤ 4
    exact Nat.min_le_right _ _
theorem sc_law_draws : FnScope ["_law_script", "_law_draws_here", "_law_cell", "_law_number", "_law_first", "_law_k", "_law_seed"] ["_law_script"] (defScope s_law_draws) := ⟨rfl, rfl, rfl, by decide +kernel, rfl, by decide +kernel, by decide +kernel⟩
theorem hd_law_draws (D : Df K mg "_law_draws" s_law_draws) (T : Tx K mg) : Hd P w K mg base "_law_draws" ["_law_script"] (k + 1) (spDraws K) := by
  refine hd_mk D sc_law_draws (fun _ _ _ _ _ _ us hl => match us, hl with | [_], _ => rfl) (fun vs H Q E h => ?_) (fun f cdv A outer s H vs Q E hr h => ?_)
  · obtain ⟨l, ns, rfl, _⟩ := h; rfl
  obtain ⟨l, ns, rfl, hl, hz, hk, q⟩ := h
  refine ⟨_, (pss_cons (ps_set (i := 1) sc_law_draws.nd rfl (Or.inl rfl) (pe_lst pa_nil))
  (pss_cons (ps_for PassesOwn.never rfl (pi_list (pv 0)) (pg_name (i := 2) sc_law_draws.nd rfl (Or.inl rfl))
    (pss_cons (ps_set (i := 3) sc_law_draws.nd rfl (Or.inl rfl) (pe_callB call_abs (by rfl) T.abs (by decide +kernel) (pa_cons (pv 2) pa_nil)))
    (pss_cons (ps_if (pt_cmpR op_lt (pv 3) (pe_op op_pow pe_int pe_int) (nomark _))
      (pss_cons (ps_set (i := 4) sc_law_draws.nd rfl (Or.inl rfl) (pe_op op_mod (pe_callTy call_int1 (by rfl) T.int (by decide +kernel) (pa_cons (pe_op op_add (pe_op op_mul (pv 3) pe_int) pe_int) pa_nil)) pe_int))
      (pss_cons (ps_expr (pe_bm PySem.F.plainAttrs_list PySem.F.slot_list_append PySem.F.type_list_append mt_append (pv 1) (pa_cons (pe_op op_mod (pe_callTy call_int1 (by rfl) T.int (by decide +kernel) (pa_cons (pe_op op_add (pe_op op_mul (pv 4) pe_int) (pv 3)) pa_nil)) pe_int) pa_nil)))
      (pss_cons (ps_expr (pe_bm PySem.F.plainAttrs_list PySem.F.slot_list_append PySem.F.type_list_append mt_append (pv 1) (pa_cons (pe_op op_mod (pe_callTy call_int1 (by rfl) T.int (by decide +kernel) (pa_cons (pe_op op_add (pv 4) (pe_op op_fdiv (pv 3) pe_int)) pa_nil)) pe_int) pa_nil)))
      (pss_one (ps_set (i := 3) sc_law_draws.nd rfl (Or.inl rfl) pe_int)))))
      pss_nil)
    (pss_one (ps_for PassesOwn.never rfl (pi_range1 (by rfl) T.range (pa_cons pe_int pa_nil)) (pg_name (i := 5) sc_law_draws.nd rfl (Or.inl rfl))
      (pss_one (ps_if (pt_cmpR op_gt (pv 3) pe_int (nomark _))
        (pss_cons (ps_expr (pe_bm PySem.F.plainAttrs_list PySem.F.slot_list_append PySem.F.type_list_append mt_append (pv 1) (pa_cons (pe_op op_mod (pe_callTy call_int1 (by rfl) T.int (by decide +kernel) (pa_cons (pv 3) pa_nil)) pe_int) pa_nil)))
        (pss_one (ps_set (i := 3) sc_law_draws.nd rfl (Or.inl rfl) (pe_op op_fdiv (pv 3) pe_int))))
        pss_nil)))))))
  (pss_cons (ps_set (i := 6) sc_law_draws.nd rfl (Or.inl rfl) pe_int)
  (pss_cons (ps_if (pt_cmpR op_gt (pe_callB call_len_seq (by rfl) T.len (by decide +kernel) (pa_cons (pv 0) pa_nil)) pe_int (nomark _))
    (pss_one (ps_set (i := 6) sc_law_draws.nd rfl (Or.inl rfl) (pe_op op_add pe_int (pe_callB call_abs (by rfl) T.abs (by decide +kernel) (pa_cons (pe_ix ix_list (pv 0) pe_int (fun _ _ => rfl)) pa_nil)))))
    pss_nil)
  (pss_cons (ps_for PassesOwn.never rfl (pi_range1 (by rfl) T.range (pa_cons pe_int pa_nil)) (pg_name (i := 5) sc_law_draws.nd rfl (Or.inl rfl))
    (pss_cons (ps_set (i := 6) sc_law_draws.nd rfl (Or.inl rfl) (pe_op op_mod (pe_callTy call_int1 (by rfl) T.int (by decide +kernel) (pa_cons (pe_op op_add (pe_op op_mul (pv 6) pe_int) pe_int) pa_nil)) pe_int))
    (pss_one (ps_expr (pe_bm PySem.F.plainAttrs_list PySem.F.slot_list_append PySem.F.type_list_append mt_append (pv 1) (pa_cons (pe_op op_fdiv (pv 6) pe_int) pa_nil))))))
  (pss_one (ps_ret (pe_listRev (by rfl) (by rfl) T.list T.reversed (pv 1))))))))), ?_⟩
  refine ⟨by show 0 ≤ sizeLine; decide, fun p np => ?_⟩
  refine ⟨_, rfl, l, rfl, ⟨_, hk _ (Same.up np)⟩, for_it (walk_list (xs := ns.map V.int)) (fun i σ H1 => ∃ (x2 x3 x4 x5 : Option V) (ds : List Int), σ = [some (.ref l), some (.ref p), x2, x3, x4, x5, none] ∧ Same H H1 ∧ H1 p = some (.lst (ds.map V.int)) ∧ ds.length ≤ 62 * i)
    ⟨none, none, none, none, [], rfl, Same.up np, upd_same, by simp⟩ (fun i σ H1 _ ⟨_, _, _, _, _, _, s1, _⟩ => hk _ s1) ?_ ?_⟩
  · rintro i x σ H2 H1 hi ⟨x2, x3, x4, x5, ds, rfl, s1, hp1, hds⟩ ⟨rfl, hx⟩
    obtain ⟨z, hz', rfl⟩ := map_get hx
    rw [List.length_map] at hi
    have wr : ∀ {HH : Hp} {o : HO}, Same H HH → Same H (upd HH p o) := fun {HH o} sH b u e => by rw [upd_ne (ne_of_none e np)]; exact sH b u e
    refine ⟨_, rfl, z, rfl, ?_⟩
    generalize (if z < 0 then -z else z) = zz
    refine ⟨_, rfl, 10, 18, rfl, rfl, ⟨by decide, by decide, by decide⟩, _, _, rfl, rfl, _, rfl, ite_both ?_ ?_⟩
    · refine ⟨_, rfl, zz, 48271, rfl, rfl, .inr ⟨by decide, by decide⟩, zz * 48271, 11, rfl, rfl, .inl ⟨zz * 48271 + 11, rfl, zz * 48271 + 11, 2147483647, rfl, rfl, by show (0 : Int) < 2147483647; decide, _, rfl, .inl ⟨rfl, _, SqL.of hp1⟩, _, rfl, (zz * 48271 + 11) % 2147483647, 69621, rfl, rfl, .inr ⟨by decide, by decide⟩, _, rfl, (zz * 48271 + 11) % 2147483647 * 69621, zz, rfl, rfl, .inl ⟨(zz * 48271 + 11) % 2147483647 * 69621 + zz, rfl, (zz * 48271 + 11) % 2147483647 * 69621 + zz, 2147483629, rfl, rfl, by show (0 : Int) < 2147483629; decide, p, _, _, rfl, rfl, hp1, smallT (by rw [List.length_map]; omega), _, rfl, .inl ⟨rfl, _, SqL.of upd_same⟩, _, rfl, _, rfl, zz, 7, rfl, rfl, ⟨by decide, by decide⟩, (zz * 48271 + 11) % 2147483647, zz / 7, rfl, rfl, .inl ⟨(zz * 48271 + 11) % 2147483647 + zz / 7, rfl, (zz * 48271 + 11) % 2147483647 + zz / 7, 1000003, rfl, rfl, by show (0 : Int) < 1000003; decide, p, _, _, rfl, rfl, upd_same, smallT (by rw [List.length_append, List.length_map]; simp only [List.length_cons, List.length_nil]; omega), ?_⟩⟩⟩⟩
      have s3 := wr (o := .lst (ds.map V.int ++ [V.int (((zz * 48271 + 11) % 2147483647 * 69621 + zz) % 2147483629)] ++ [V.int (((zz * 48271 + 11) % 2147483647 + zz / 7) % 1000003)])) (wr (o := .lst (ds.map V.int ++ [V.int (((zz * 48271 + 11) % 2147483647 * 69621 + zz) % 2147483629)])) s1)
      have hp3 : upd (upd H1 p (.lst (ds.map V.int ++ [V.int (((zz * 48271 + 11) % 2147483647 * 69621 + zz) % 2147483629)]))) p (.lst (ds.map V.int ++ [V.int (((zz * 48271 + 11) % 2147483647 * 69621 + zz) % 2147483629)] ++ [V.int (((zz * 48271 + 11) % 2147483647 + zz / 7) % 1000003)])) p = some (.lst ((ds ++ [((zz * 48271 + 11) % 2147483647 * 69621 + zz) % 2147483629] ++ [((zz * 48271 + 11) % 2147483647 + zz / 7) % 1000003]).map V.int)) := by rw [upd_same]; simp
      have hl3 : (ds ++ [((zz * 48271 + 11) % 2147483647 * 69621 + zz) % 2147483629] ++ [((zz * 48271 + 11) % 2147483647 + zz / 7) % 1000003]).length ≤ 62 * i + 2 := by simp; omega
      generalize (ds ++ [((zz * 48271 + 11) % 2147483647 * 69621 + zz) % 2147483629] ++ [((zz * 48271 + 11) % 2147483647 + zz / 7) % 1000003]) = ds1 at hp3 hl3
      refine ⟨60, rfl, by decide, by decide, for_it walk_r0 (fun j σ H4 => ∃ (x4 x5 : Option V) (y : Int) (ds2 : List Int), σ = [some (.ref l), some (.ref p), some (.int z), some (.int y), x4, x5, none] ∧ Same H H4 ∧ H4 p = some (.lst (ds2.map V.int)) ∧ ds2.length ≤ 62 * i + 2 + j)
        ⟨_, _, _, ds1, rfl, s3, hp3, by omega⟩ (fun _ _ _ _ _ => trivial) ?_ ?_⟩
      · rintro j xx σ H5 H4 hj ⟨x4', x5', y', ds2, rfl, s4, hp4, hds2⟩ ⟨rfl, rfl⟩
        have hj : j < 60 := hj
        exact ⟨_, rfl, _, _, rfl, rfl, _, rfl, ite_both ⟨_, rfl, .inl ⟨rfl, _, SqL.of hp4⟩, _, rfl, .inl ⟨y', rfl, y', 997, rfl, rfl, by show (0 : Int) < 997; decide, p, _, _, rfl, rfl, hp4, smallT (by rw [List.length_map]; omega), _, rfl, y', 997, rfl, rfl, ⟨by decide, by decide⟩, _, _, y' / 997, ds2 ++ [y' % 997], rfl, wr s4, by rw [upd_same]; simp, by simp; omega⟩⟩ ⟨_, _, y', ds2, rfl, s4, hp4, by omega⟩⟩
      · rintro σ H4 ⟨x4', x5', y', ds2, rfl, s4, hp4, hds2⟩
        have hds2 : ds2.length ≤ 62 * i + 2 + 60 := hds2
        exact ⟨_, _, _, _, ds2, rfl, s4, hp4, by omega⟩
    · have s3 := s1
      have hp3 := hp1
      have hl3 : ds.length ≤ 62 * i + 2 := by omega
      generalize ds = ds1 at hp3 hl3
      refine ⟨60, rfl, by decide, by decide, for_it walk_r0 (fun j σ H4 => ∃ (x4 x5 : Option V) (y : Int) (ds2 : List Int), σ = [some (.ref l), some (.ref p), some (.int z), some (.int y), x4, x5, none] ∧ Same H H4 ∧ H4 p = some (.lst (ds2.map V.int)) ∧ ds2.length ≤ 62 * i + 2 + j)
        ⟨_, _, _, ds1, rfl, s3, hp3, by omega⟩ (fun _ _ _ _ _ => trivial) ?_ ?_⟩
      · rintro j xx σ H5 H4 hj ⟨x4', x5', y', ds2, rfl, s4, hp4, hds2⟩ ⟨rfl, rfl⟩
        have hj : j < 60 := hj
        exact ⟨_, rfl, _, _, rfl, rfl, _, rfl, ite_both ⟨_, rfl, .inl ⟨rfl, _, SqL.of hp4⟩, _, rfl, .inl ⟨y', rfl, y', 997, rfl, rfl, by show (0 : Int) < 997; decide, p, _, _, rfl, rfl, hp4, smallT (by rw [List.length_map]; omega), _, rfl, y', 997, rfl, rfl, ⟨by decide, by decide⟩, _, _, y' / 997, ds2 ++ [y' % 997], rfl, wr s4, by rw [upd_same]; simp, by simp; omega⟩⟩ ⟨_, _, y', ds2, rfl, s4, hp4, by omega⟩⟩
      · rintro σ H4 ⟨x4', x5', y', ds2, rfl, s4, hp4, hds2⟩
        have hds2 : ds2.length ≤ 62 * i + 2 + 60 := hds2
        exact ⟨_, _, _, _, ds2, rfl, s4, hp4, by omega⟩
  rintro σ H1 ⟨x2, x3, x4, x5, ds, rfl, s1, hp1, hds⟩
  rw [List.length_map] at hds
  have wr : ∀ {HH : Hp} {o : HO}, Same H HH → Same H (upd HH p o) := fun {HH o} sH b u e => by rw [upd_ne (ne_of_none e np)]; exact sH b u e
  refine ⟨_, rfl, l, _, rfl, .inl (hk _ s1), _, _, rfl, rfl, _, rfl, ?_⟩
  cases ns
  · rw [show decide ((0 : Int) < (((([] : List Int).map V.int).length : Nat) : Int)) = false from rfl]
    refine iteF ?_
    refine ⟨240, rfl, by decide, by decide, for_it walk_r0 (fun j σ H4 => ∃ (x2 x3 x4 x5 : Option V) (y : Int) (ds2 : List Int), σ = [some (.ref l), some (.ref p), x2, x3, x4, x5, some (.int y)] ∧ Same H H4 ∧ H4 p = some (.lst (ds2.map V.int)) ∧ ds2.length ≤ 62 * 63 + j)
      ⟨_, _, _, _, _, ds, rfl, s1, hp1, by omega⟩ (fun _ _ _ _ _ => trivial) ?_ ?_⟩
    · rintro j xx σ H5 H4 hj ⟨x2', x3', x4', x5', y', ds2, rfl, s4, hp4, hds2⟩ ⟨rfl, rfl⟩
      have hj : j < 240 := hj
      exact ⟨_, rfl, y', 48271, rfl, rfl, .inr ⟨by decide, by decide⟩, y' * 48271, 69621, rfl, rfl, .inl ⟨y' * 48271 + 69621, rfl, y' * 48271 + 69621, 2147483647, rfl, rfl, by show (0 : Int) < 2147483647; decide, _, rfl, .inl ⟨rfl, _, SqL.of hp4⟩, _, rfl, (y' * 48271 + 69621) % 2147483647, 5, rfl, rfl, ⟨by decide, by decide⟩, p, _, _, rfl, rfl, hp4, smallT (by rw [List.length_map]; omega), _, _, _, _, _, ds2 ++ [(y' * 48271 + 69621) % 2147483647 / 5], rfl, wr s4, by rw [upd_same]; simp, by simp; omega⟩⟩
    · rintro σ H4 ⟨x2', x3', x4', x5', y', ds2, rfl, s4, hp4, hds2⟩
      exact ⟨_, rfl, p, _, rfl, SqL.of hp4, fun q2 nq2 => q q2 ds2.reverse _ (s4.trans (Same.up nq2)) (s4.free nq2) (by rw [upd_same, List.map_reverse])⟩
  · rename_i z0 zs
    rw [show decide ((0 : Int) < ((((z0 :: zs).map V.int).length : Nat) : Int)) = true from decide_eq_true (by simp)]
    refine iteT ⟨_, rfl, l, _, _, .int z0, rfl, rfl, hk _ s1, at_0, z0, rfl, 1, _, rfl, rfl, ?_⟩
    refine ⟨240, rfl, by decide, by decide, for_it walk_r0 (fun j σ H4 => ∃ (x2 x3 x4 x5 : Option V) (y : Int) (ds2 : List Int), σ = [some (.ref l), some (.ref p), x2, x3, x4, x5, some (.int y)] ∧ Same H H4 ∧ H4 p = some (.lst (ds2.map V.int)) ∧ ds2.length ≤ 62 * 63 + j)
      ⟨_, _, _, _, _, ds, rfl, s1, hp1, by omega⟩ (fun _ _ _ _ _ => trivial) ?_ ?_⟩
    · rintro j xx σ H5 H4 hj ⟨x2', x3', x4', x5', y', ds2, rfl, s4, hp4, hds2⟩ ⟨rfl, rfl⟩
      have hj : j < 240 := hj
      exact ⟨_, rfl, y', 48271, rfl, rfl, .inr ⟨by decide, by decide⟩, y' * 48271, 69621, rfl, rfl, .inl ⟨y' * 48271 + 69621, rfl, y' * 48271 + 69621, 2147483647, rfl, rfl, by show (0 : Int) < 2147483647; decide, _, rfl, .inl ⟨rfl, _, SqL.of hp4⟩, _, rfl, (y' * 48271 + 69621) % 2147483647, 5, rfl, rfl, ⟨by decide, by decide⟩, p, _, _, rfl, rfl, hp4, smallT (by rw [List.length_map]; omega), _, _, _, _, _, ds2 ++ [(y' * 48271 + 69621) % 2147483647 / 5], rfl, wr s4, by rw [upd_same]; simp, by simp; omega⟩⟩
    · rintro σ H4 ⟨x2', x3', x4', x5', y', ds2, rfl, s4, hp4, hds2⟩
      exact ⟨_, rfl, p, _, rfl, SqL.of hp4, fun q2 nq2 => q q2 ds2.reverse _ (s4.trans (Same.up nq2)) (s4.free nq2) (by rw [upd_same, List.map_reverse])⟩
theorem sc_law_string : FnScope ["_law_draws_here", "_law_most", "_law_signs", "_law_string_here", "_law_k"] ["_law_draws_here", "_law_most"] (defScope s_law_string) := ⟨rfl, rfl, rfl, by decide +kernel, rfl, by decide +kernel, by decide +kernel⟩
theorem hd_law_string (D : Df K mg "_law_string" s_law_string) (T : Tx K mg) (h_law_take : Hd P w K mg base "_law_take" ["_law_draws_here", "_law_bound"] k spTake) : Hd P w K mg base "_law_string" ["_law_draws_here", "_law_most"] (k + 1) spLStr := by
  refine hd_mk D sc_law_string (fun _ _ _ _ _ _ us hl => match us, hl with | [_, _], _ => rfl) (fun vs H Q E h => ?_) (fun f cdv A outer s H vs Q E hr h => ?_)
  · obtain ⟨G, d, ns, m, rfl, _⟩ := h; rfl
  obtain ⟨G, d, ns, m, rfl, hm0, hm, D, q⟩ := h
  refine ⟨_, (pss_cons (ps_set (i := 2) sc_law_string.nd rfl (Or.inl rfl) pe_str)
  (pss_cons (ps_set (i := 3) sc_law_string.nd rfl (Or.inl rfl) pe_str)
  (pss_cons (ps_for PassesOwn.never rfl (pi_range1 (by rfl) T.range (pa_cons (pe_op op_add pe_int (pe_hd h_law_take hr rfl (pa_cons (pv 0) (pa_cons (pv 1) pa_nil)))) pa_nil)) (pg_name (i := 4) sc_law_string.nd rfl (Or.inl rfl))
    (pss_one (ps_set (i := 3) sc_law_string.nd rfl (Or.inl rfl) (pe_op op_add_str (pv 3) (pe_ix ix_str (pv 2) (pe_hd h_law_take hr rfl (pa_cons (pv 0) (pa_cons (pe_callB call_len_str (by rfl) T.len (by decide +kernel) (pa_cons (pv 2) pa_nil)) pa_nil))) (fun _ _ => rfl))))))
  (pss_one (ps_ret (pv 3)))))), ?_⟩
  refine ⟨_, rfl, _, rfl, G, d, ns, m, rfl, hm0, D, fun x ns1 H1 hx g1 D1 => ⟨1, ((x : Nat) : Int), rfl, rfl, ((1 + x : Nat) : Int), congrArg (fun z => [V.int z]) (show (1 : Int) + ((x : Nat) : Int) = ((1 + x : Nat) : Int) by omega), by omega, by omega, for_it walk_r0 (fun j σ H2 => ∃ (x4 : Option V) (z : Str) (ns2 : List Int), σ = [some (.ref d), some (nV m), some (.str signs), some (.str z), x4] ∧ Gr (· = d) G H G H2 ∧ DrP G H2 d ns2 ∧ z.length = j ∧ ∀ c ∈ z.cps.toList, c ∈ signs.cps.toList)
    ⟨none, Str.empty, ns1, rfl, g1, D1, rfl, fun c hc => by cases hc⟩ (fun _ _ _ _ _ => trivial) ?_ ?_⟩⟩
  · rintro j xx σ H3 H2 hj ⟨x4, z, ns2, rfl, g2, D2, hzl, hzc⟩ ⟨rfl, rfl⟩
    have hj : j < 1 + x := hj
    have hs12 : signs.length = 12 := by decide +kernel
    refine ⟨_, rfl, _, rfl, _, rfl, _, rfl, signs, rfl, by rw [hs12]; decide, G, d, ns2, 12, by rw [hs12]; rfl, by decide, D2, fun x' ns3 H4 hx' g4 D4 => ?_⟩
    have hc : signs.cps.toList[x']? = some (signs.cps.toList[x']'(by rw [show signs.cps.toList.length = 12 by decide +kernel]; exact hx')) := List.getElem?_eq_getElem _
    have hm := List.mem_of_getElem? hc
    generalize signs.cps.toList[x']'(by rw [show signs.cps.toList.length = 12 by decide +kernel]; exact hx') = c at hc hm
    have hzl1 : (⟨#[c]⟩ : Str).length = 1 := rfl
    refine ⟨signs, _, c, rfl, rfl, by rw [hs12]; decide, atI_n rfl hc, z, ⟨#[c]⟩, rfl, rfl, small (by rw [hzl1]; omega), some (.int (j : Nat)), z ++ ⟨#[c]⟩, ns3, ?_, g2.trans g4, D4, ?_, ?_⟩
    · rfl
    · show (z.cps ++ #[c]).size = j + 1
      rw [Array.size_append]
      show z.length + 1 = j + 1
      omega
    · intro c' hc'
      have e : (z ++ (⟨#[c]⟩ : Str)).cps.toList = z.cps.toList ++ [c] := by
        show (z.cps ++ #[c]).toList = _
        simp
      rw [e] at hc'
      rcases List.mem_append.mp hc' with h | h
      · exact hzc c' h
      · rw [List.mem_singleton.mp h]; exact hm
  · rintro σ H2 ⟨x4, z, ns2, rfl, g2, D2, hzl, hzc⟩
    have hzl : z.length = 1 + x := hzl
    refine ⟨_, rfl, q z ns2 H2 g2 D2 ?_ (by omega)⟩
    unfold isTxt
    rw [Bool.and_eq_true, Bool.and_eq_true]
    refine ⟨⟨decide_eq_true (by omega), decide_eq_true (by omega)⟩, List.all_eq_true.mpr fun b hb => ?_⟩
    obtain ⟨c, hc, rfl⟩ := List.mem_map.mp hb
    exact signs_ok c (hzc c hc)
theorem sc_law_at : FnScope ["_law_tree_here", "_law_path", "_law_k"] ["_law_tree_here", "_law_path"] (defScope s_law_at) := ⟨rfl, rfl, rfl, by decide +kernel, rfl, by decide +kernel, by decide +kernel⟩
theorem hd_law_at (D : Df K mg "_law_at" s_law_at) (T : Tx K mg) : Hd P w K mg base "_law_at" ["_law_tree_here", "_law_path"] (k + 1) spLAt := by
  refine hd_mk D sc_law_at (fun _ _ _ _ _ _ us hl => match us, hl with | [_, _], _ => rfl) (fun vs H Q E h => ?_) (fun f cdv A outer s H vs Q E hr h => ?_)
  · obtain ⟨G, t, v, wy, lw, rfl, _⟩ := h; rfl
  obtain ⟨G, t, v, wy, lw, rfl, sg, ht, hl, hok, q⟩ := h
  refine ⟨_, (pss_cons (ps_for PassesOwn.never rfl (pi_list (pv 1)) (pg_name (i := 2) sc_law_at.nd rfl (Or.inl rfl))
    (pss_one (ps_set (i := 0) sc_law_at.nd rfl (Or.inl rfl) (pe_ix ix_list (pe_ix ix_tup (pv 0) pe_int (fun _ _ => rfl)) (pv 2) (fun _ _ => rfl)))))
  (pss_one (ps_ret (pv 0)))), ?_⟩
  refine ⟨_, rfl, lw, rfl, ⟨_, SqL.of hl⟩, for_it (walk_list (xs := vN wy)) (fun i σ H2 => ∃ (u : V) (x2 : Option V), σ = [some u, some (.ref lw), x2] ∧ H2 = H ∧ IsT G (t.go (wy.take i)) u)
    ⟨v, none, rfl, rfl, ht⟩ (fun i σ H2 _ ⟨_, _, _, e, _⟩ => by rw [e]; exact SqL.of hl) ?_ ?_⟩
  · rintro i y σ H2 H3 hi ⟨u, x2, rfl, e2, hu⟩ ⟨rfl, hy⟩
    subst e2
    obtain ⟨j, hj, rfl⟩ := map_get hy
    have hi' : i < wy.length := by simpa using hi
    obtain ⟨j', hj', hjk, hgo⟩ := ok_take i hok hi'
    rw [hj] at hj'
    cases (Option.some.inj hj')
    cases e : t.go (wy.take i) with
    | tx z => rw [e] at hjk; simp [Tr.kids] at hjk
    | el n cs =>
      rw [e] at hu hjk hgo
      obtain ⟨a, lc, ws, rfl, h1, h2, h3⟩ := hu
      obtain ⟨y, hy, hyp⟩ := h3.get (ch_get (t := .el n cs) hjk)
      refine ⟨_, rfl, a, _, _, _, rfl, rfl, SqT.of (sg _ _ h1), at_1, _, rfl, lc, ws, _, y, rfl, rfl, SqL.of (sg _ _ h2), atI_n rfl hy, y, some (nV j), rfl, rfl, ?_⟩
      rw [hgo]
      exact hyp
  · rintro σ H2 ⟨u, x2, rfl, e2, hu⟩
    subst e2
    rw [List.length_map, List.take_length] at hu
    exact ⟨_, rfl, q u hu⟩
theorem sc_law_put : FnScope ["_law_tree_here", "_law_path", "_law_new", "_law_children"] ["_law_tree_here", "_law_path", "_law_new"] (defScope s_law_put) := ⟨rfl, rfl, rfl, by decide +kernel, rfl, by decide +kernel, by decide +kernel⟩
theorem hd_law_put (D : Df K mg "_law_put" s_law_put) (T : Tx K mg) : ∀ n : Nat, Hd P w K mg base "_law_put" ["_law_tree_here", "_law_path", "_law_new"] (k + n) (spLPut n)
  | 0 => by
    refine hd_vac D (fun _ _ _ _ _ _ us hl => match us, hl with | [_, _, _], _ => rfl) fun vs H Q E h => ?_
    obtain ⟨G, t, x, v, xv, wy, lw, _, _, _, _, _, _, hd, _⟩ := h
    omega
  | n + 1 => by
    have h_law_put := hd_law_put D T n
    refine hd_mk (k := k + n) D sc_law_put (fun _ _ _ _ _ _ us hl => match us, hl with | [_, _, _], _ => rfl) (fun vs H Q E h => ?_) (fun f cdv A outer s H vs Q E hr h => ?_)
    · obtain ⟨G, t, x, v, xv, wy, lw, rfl, _⟩ := h; rfl
    obtain ⟨G, t, x, v, xv, wy, lw, rfl, sg, ht, hz, hl, hok, hn, hx, q⟩ := h
    refine ⟨_, (pss_cons (ps_if (pt_cmpR op_eq (pe_callB call_len_seq (by rfl) T.len (by decide +kernel) (pa_cons (pv 1) pa_nil)) pe_int (nomark _))
      (pss_one (ps_ret (pv 2)))
      pss_nil)
    (pss_cons (ps_set (i := 3) sc_law_put.nd rfl (Or.inl rfl) (pe_callTy call_list_of (by rfl) T.list (by decide +kernel) (pa_cons (pe_ix ix_tup (pv 0) pe_int (fun _ _ => rfl)) pa_nil)))
    (pss_cons (ps_asg (pe_hd h_law_put hr rfl (pa_cons (pe_ix ix_list (pv 3) (pe_ix ix_list (pv 1) pe_int (fun _ _ => rfl)) (fun _ _ => rfl)) (pa_cons (pe_slice sl_list (pv 1) (po_some pe_int) po_none) (pa_cons (pv 2) pa_nil)))) (pg_sub (pv 3) (pe_ix ix_list (pv 1) pe_int (fun _ _ => rfl)) set_list))
    (pss_one (ps_ret (pe_tup (pa_cons (pe_ix ix_tup (pv 0) pe_int (fun _ _ => rfl)) (pa_cons (pv 3) pa_nil)))))))), ?_⟩
    refine ⟨_, rfl, lw, _, rfl, .inl (SqL.of hl), rfl, _, rfl, ?_⟩
    cases wy with
    | nil =>
      rw [put_nil] at q
      exact iteT ⟨_, rfl, q G xv H (.refl sg) hx⟩
    | cons j w =>
      rw [show decide (V.int (((vN (j :: w)).length : Nat) : Int) = V.int 0) = false from decide_eq_false (fun z => by injection z with z; simp at z; omega)]
      obtain ⟨hj, hok2⟩ := hok
      cases t with
      | tx z => simp [Tr.kids] at hj
      | el m cs =>
        have hj : j < cs.length := hj
        obtain ⟨a, lc, ws, rfl, h1, h2, h3⟩ := ht
        have hc := ch_get (t := .el m cs) hj
        have hc : cs[j]? = some ((Tr.el m cs).ch j) := hc
        have hcs := take_le hc
        simp only [Tr.size] at hz
        obtain ⟨y, hy, hyp⟩ := h3.get hc
        refine iteF ⟨_, rfl, a, _, _, _, rfl, rfl, SqT.of (sg _ _ h1), at_1, lc, _, rfl, .inl (SqL.of (sg _ _ h2)), fun p np => ?_⟩
        have g1 : Gr W0 G H G (upd H p (.lst ws)) := .alloc sg np
        have hp1 : upd H p (.lst ws) p = some (.lst ws) := upd_same
        have hl1 : upd H p (.lst ws) lw = some (.lst (vN (j :: w))) := by rw [upd_ne (ne_of_none hl np)]; exact hl
        generalize upd H p (.lst ws) = H1 at *
        refine ⟨_, rfl, _, rfl, lw, _, _, nV j, rfl, rfl, SqL.of hl1, at_0, p, ws, _, y, rfl, rfl, SqL.of hp1, atI_n rfl hy, _, rfl, 1, rfl, lw, _, rfl, SqL.of hl1, fun p2 np2 => ?_⟩
        rw [cut_1]
        have g2 := g1.al (o := .lst (vN w)) np2
        have hp2 : upd H1 p2 (.lst (vN w)) p = some (.lst ws) := by rw [upd_ne (ne_of_none hp1 np2)]; exact hp1
        have hl2 : upd H1 p2 (.lst (vN w)) lw = some (.lst (vN (j :: w))) := by rw [upd_ne (ne_of_none hl1 np2)]; exact hl1
        have pp : p ≠ p2 := ne_of_none hp1 np2
        refine ⟨_, rfl, G, _, x, y, xv, w, p2, rfl, g2.sub, hyp, by omega, upd_same, hok2, by simp at hn; omega, hx, fun G4 v4 H4 g4 hp4 => ?_⟩
        have g3 := g2.trans g4
        have hl4 := g4.same _ _ hl2
        have hp4' := g4.same _ _ hp2
        have gp2 : G p = none := same_none sg np
        have gp4 : G4 p = none := g4.free gp2 hp2
        refine ⟨_, rfl, _, rfl, lw, _, _, _, rfl, rfl, SqL.of hl4, at_0, p, ws, _, j, rfl, rfl, hp4', ?_, ?_⟩
        · exact ixN_n (List.getElem?_eq_some_iff.mp hy).1
        have g5 : Gr W0 G H G4 (upd H4 p (.lst (ws.set j v4))) := g3.wr (.inl np) gp4 hp4'
        have hts : IsTs G4 (cs.set j (((Tr.el m cs).ch j).put w x)) (ws.set j v4) := (h3.mono g4.ext).set j hp4
        refine ⟨_, rfl, a, _, _, _, rfl, rfl, SqT.of (g5.sub0 _ _ h1), at_0, _, rfl, by show 2 ≤ sizeLine; decide, fun p6 np6 => ?_⟩
        have g6 := g5.al (o := .tup [.str m, .ref p]) np6
        have hp6 : upd (upd H4 p (.lst (ws.set j v4))) p6 (.tup [.str m, .ref p]) p = some (.lst (ws.set j v4)) := by rw [upd_ne (ne_of_none upd_same np6), upd_same]
        obtain ⟨G7, g7, ht7, _⟩ := Gr.elem g6 (g5.dom _ np6) np upd_same hp6 hts
        rw [put_cons] at q
        exact q G7 _ _ g7 ht7
end
end K5
set_option Elab.async false
set_option linter.all false
set_option maxRecDepth 100000
set_option maxHeartbeats 4000000
namespace K5
open PySem PySem.Spec PyProof.Rows L2
/-! ### the law's own defs: trees -/
def szB : Nat → Nat
  | 0 => 2
  | d + 1 => 1 + 3 * szB d
theorem szB_pos : ∀ d, 1 ≤ szB d
  | 0 => by decide
  | d + 1 => by simp only [szB]; omega
def lastTx (cs : List Tr) : Bool := match cs.getLast? with
  | some x => x.isTx
  | none => false
theorem adj_snoc (cs : List Tr) (y x : Tr) : adj (cs ++ [y] ++ [x]) = adj (cs ++ [y]) ++ [x.isTx && y.isTx] := by
  have e : (cs ++ [y] ++ [x]).length - 1 = (cs ++ [y]).length - 1 + 1 := by simp
  unfold adj
  rw [e, List.range_succ, List.map_append]
  congr 1
  · refine List.map_congr_left fun i hi => ?_
    have hi := List.mem_range.mp hi
    simp only [List.length_append, List.length_cons, List.length_nil] at hi
    rw [List.getD_eq_getElem?_getD, List.getD_eq_getElem?_getD, List.getD_eq_getElem?_getD, List.getD_eq_getElem?_getD, List.getElem?_append_left (by simp; omega), List.getElem?_append_left (l₁ := cs ++ [y]) (i := i) (by simp; omega)]
  · simp [List.getD_eq_getElem?_getD]
theorem apart_snoc (cs : List Tr) (x : Tr) (h : apart cs = true) (hx : lastTx cs = false ∨ x.isTx = false) : apart (cs ++ [x]) = true := by
  rcases List.eq_nil_or_concat cs with rfl | ⟨cs', y, rfl⟩
  · rfl
  · rw [List.concat_eq_append] at *
    unfold apart at *
    rw [adj_snoc, List.any_append, Bool.not_or, h]
    have hl : lastTx (cs' ++ [y]) = y.isTx := by simp [lastTx]
    rw [hl] at hx
    rcases hx with e | e <;> simp [e]
theorem szB_le {d : Nat} (h : d ≤ 4) : szB d ≤ 1000 := by
  have : ∀ d, d < 5 → szB d ≤ 1000 := by decide
  exact this d (by omega)
structure KP (nms : List Str) (B D : Nat) (cs : List Tr) : Prop where
  good : Tr.goods cs = true
  ap : apart cs = true
  fit : Tr.fits cs
  d : Tr.depths cs ≤ D
  z : Tr.sizes cs ≤ cs.length * B
  nm : ∀ k ∈ Tr.nmss cs, k ∈ nms
theorem depths_app : ∀ (as bs : List Tr), Tr.depths (as ++ bs) = max (Tr.depths as) (Tr.depths bs)
  | [], bs => by simp [Tr.depths]
  | a :: as, bs => by simp only [List.cons_append, Tr.depths, depths_app as bs]; omega
theorem KP.nil {nms : List Str} {B D : Nat} : KP nms B D [] := ⟨rfl, rfl, trivial, Nat.zero_le _, Nat.zero_le _, fun k hk => by cases hk⟩
theorem KP.snoc {nms : List Str} {B D : Nat} {cs : List Tr} {x : Tr} (h : KP nms B D cs) (g : x.good = true) (a : lastTx cs = false ∨ x.isTx = false) (f : x.fit) (d : x.depth ≤ D) (z : x.size ≤ B) (n : ∀ k ∈ x.nms, k ∈ nms) : KP nms B D (cs ++ [x]) where
  good := by rw [goods_app, h.good]; simp [Tr.goods, g]
  ap := apart_snoc cs x h.ap a
  fit := fits_app.mpr ⟨h.fit, f, trivial⟩
  d := by rw [depths_app]; have := h.d; simp only [Tr.depths]; omega
  z := by
    rw [sizes_app, List.length_append]
    have := h.z
    simp only [Tr.sizes, List.length_cons, List.length_nil, Nat.add_mul]
    omega
  nm := fun k hk => by
    rw [nmss_app] at hk
    rcases List.mem_append.mp hk with q | q
    · exact h.nm k q
    · simp only [Tr.nmss, List.append_nil] at q
      exact n k q
structure TrOk (t : Tr) (dep : Nat) (nms : List Str) : Prop where
  el : t.isTx = false
  good : t.good = true
  fit : t.fit
  d : t.depth ≤ dep + 2
  z : t.size ≤ szB dep
  nm : ∀ k ∈ t.nms, k ∈ nms
def spLTree (n : Nat) : Sp := fun vs H Q _ => ∃ (G : Hp) (d nl : Addr) (ns : List Int) (dep : Nat) (nms : List Str), vs = [.ref d, nV dep, .ref nl] ∧ DrP G H d ns ∧ dep < n ∧ dep ≤ 4 ∧ G nl = some (.lst (nms.map V.str)) ∧ nms ≠ [] ∧ nms.length ≤ 10 ∧ (∀ x ∈ nms, isNm x = true ∧ x.length ≤ 100) ∧
  ∀ (G' : Hp) (t : Tr) (v : V) (ns' : List Int) (H' : Hp), Gr (· = d) G H G' H' → DrP G' H' d ns' → IsT G' t v → TrOk t dep nms → Q v H'
/-- within the loop of _law_tree -/
def LTp (G H : Hp) (d nl c : Addr) (dep m : Nat) (nms : List Str) (B D : Nat) (i : Nat) (σ : L2.St) (H2 : Hp) : Prop := ∃ (x5 x6 : Option V) (cs : List Tr) (ws : List V) (G2 : Hp) (ns2 : List Int), σ = [some (.ref d), some (nV dep), some (.ref nl), some (.ref c), some (nV m), x5, x6] ∧ Gr (· = d) G H G2 H2 ∧ DrP G2 H2 d ns2 ∧ H2 c = some (.lst ws) ∧ G2 c = none ∧ IsTs G2 cs ws ∧ cs.length ≤ i ∧ KP nms B D cs
theorem DrP.mono {G H G' H' : Hp} {d : Addr} {ns : List Int} (D : DrP G H d ns) (g : Gr W0 G H G' H') : DrP G' H' d ns := ⟨g.sub, g.free D.g D.h, g.same _ _ D.h⟩
theorem LTp.add {G H G2 H2 G3 H3 : Hp} {d nl c : Addr} {dep m B D i : Nat} {nms : List Str} {x5 x6 : Option V} {cs : List Tr} {ws : List V} {ns3 : List Int} {x : Tr} {v : V} (nc : H c = none) (ncd : c ≠ d) (g2 : Gr (· = d) G H G2 H2) (gc : G2 c = none) (hc : H2 c = some (.lst ws)) (ht : IsTs G2 cs ws) (hl : cs.length ≤ i) (k : KP nms B D cs)
    (g3 : Gr (· = d) G2 H2 G3 H3) (D3 : DrP G3 H3 d ns3) (hx : IsT G3 x v) (kx : KP nms B D (cs ++ [x])) : LTp G H d nl c dep m nms B D (i + 1) [some (.ref d), some (nV dep), some (.ref nl), some (.ref c), some (nV m), x5, x6] (upd H3 c (.lst (ws ++ [v]))) := by
  have hc3 : H3 c = some (.lst ws) := g3.at_ hc ncd
  have gc3 : G3 c = none := g3.free gc hc
  have g4 := (g2.trans g3).wr (o := .lst (ws ++ [v])) (.inl nc) gc3 hc3
  exact ⟨x5, x6, cs ++ [x], ws ++ [v], G3, ns3, rfl, g4, ⟨g4.sub, D3.g, by rw [upd_ne ncd.symm]; exact D3.h⟩, upd_same, gc3, (ht.mono g3.ext).snoc hx, by simp; omega, kx⟩
section
variable {P : Program} {w : World} {K : PySem.W.Frag} {mg : Str → Option Value} {base : Heap} {k : Nat}
theorem sc_law_tree : FnScope ["_law_draws_here", "_law_depth", "_law_names_here", "_law_children", "_law_many", "_law_k", "_law_beside"] ["_law_draws_here", "_law_depth", "_law_names_here"] (defScope s_law_tree) := ⟨rfl, rfl, rfl, by decide +kernel, rfl, by decide +kernel, by decide +kernel⟩
theorem hd_law_tree (D : Df K mg "_law_tree" s_law_tree) (T : Tx K mg) (h_law_take : Hd P w K mg base "_law_take" ["_law_draws_here", "_law_bound"] k spTake) (h_law_string : Hd P w K mg base "_law_string" ["_law_draws_here", "_law_most"] k spLStr) : ∀ n : Nat, Hd P w K mg base "_law_tree" ["_law_draws_here", "_law_depth", "_law_names_here"] (k + n) (spLTree n)
  | 0 => by
    refine hd_vac D (fun _ _ _ _ _ _ us hl => match us, hl with | [_, _, _], _ => rfl) fun vs H Q E h => ?_
    obtain ⟨G, d, nl, ns, dep, nms, _, _, hd, _⟩ := h
    omega
  | n + 1 => by
    have h_law_tree := hd_law_tree D T h_law_take h_law_string n
    have h_law_take := h_law_take.mono (Nat.le_add_right k n)
    have h_law_string := h_law_string.mono (Nat.le_add_right k n)
    refine hd_mk (k := k + n) D sc_law_tree (fun _ _ _ _ _ _ us hl => match us, hl with | [_, _, _], _ => rfl) (fun vs H Q E h => ?_) (fun f cdv A outer s H vs Q E hr h => ?_)
    · obtain ⟨G, d, nl, ns, dep, nms, rfl, _⟩ := h; rfl
    obtain ⟨G, d, nl, ns, dep, nms, rfl, Dr, hdn, hd4, hnl, hne, hnl10, hnm, q⟩ := h
    refine ⟨_, (pss_cons (ps_set (i := 3) sc_law_tree.nd rfl (Or.inl rfl) (pe_lst pa_nil))
    (pss_cons (ps_set (i := 4) sc_law_tree.nd rfl (Or.inl rfl) (pe_hd h_law_take hr rfl (pa_cons (pv 0) (pa_cons pe_int pa_nil))))
    (pss_cons (ps_if (pt_cmpR op_eq (pv 1) pe_int (nomark _))
      (pss_one (ps_set (i := 4) sc_law_tree.nd rfl (Or.inl rfl) (pe_hd h_law_take hr rfl (pa_cons (pv 0) (pa_cons pe_int pa_nil)))))
      pss_nil)
    (pss_cons (ps_for PassesOwn.never rfl (pi_range1 (by rfl) T.range (pa_cons (pv 4) pa_nil)) (pg_name (i := 5) sc_law_tree.nd rfl (Or.inl rfl))
      (pss_cons (ps_set (i := 6) sc_law_tree.nd rfl (Or.inl rfl) (pe_and (pe_cmpR op_gt (pe_callB call_len_seq (by rfl) T.len (by decide +kernel) (pa_cons (pv 3) pa_nil)) pe_int (nomark _)) (pe_one (pe_callB call_isi (by rfl) T.isinstance (by decide +kernel) (pa_cons (pe_ix ix_list (pv 3) (pe_op op_sub (pe_callB call_len_seq (by rfl) T.len (by decide +kernel) (pa_cons (pv 3) pa_nil)) pe_int) (fun _ _ => rfl)) (pa_cons (pe_bltn (v := .ty "str") (by rfl) T.str (by decide +kernel) rfl) pa_nil))))))
      (pss_one (ps_if (PW.pt (pw_or (pt_cmpR op_eq (pv 1) pe_int (nomark _)) (pw_or1 (pt_cmpR op_eq (pe_hd h_law_take hr rfl (pa_cons (pv 0) (pa_cons pe_int pa_nil))) pe_int (nomark _)))))
        (pss_one (ps_if (pt_not (pt_val (pv 6)))
          (pss_one (ps_expr (pe_bm PySem.F.plainAttrs_list PySem.F.slot_list_append PySem.F.type_list_append mt_append (pv 3) (pa_cons (pe_hd h_law_string hr rfl (pa_cons (pv 0) (pa_cons pe_int pa_nil))) pa_nil))))
          pss_nil))
        (pss_one (ps_expr (pe_bm PySem.F.plainAttrs_list PySem.F.slot_list_append PySem.F.type_list_append mt_append (pv 3) (pa_cons (pe_hd h_law_tree hr rfl (pa_cons (pv 0) (pa_cons (pe_op op_sub (pv 1) pe_int) (pa_cons (pv 2) pa_nil)))) pa_nil))))))))
    (pss_one (ps_ret (pe_tup (pa_cons (pe_ix ix_list (pv 2) (pe_hd h_law_take hr rfl (pa_cons (pv 0) (pa_cons (pe_callB call_len_seq (by rfl) T.len (by decide +kernel) (pa_cons (pv 2) pa_nil)) pa_nil))) (fun _ _ => rfl)) (pa_cons (pv 3) pa_nil))))))))), ?_⟩
    refine ⟨by show 0 ≤ sizeLine; decide, fun c npc => ?_⟩
    have ncd : c ≠ d := (ne_of_none Dr.h npc).symm
    have g1 : Gr (· = d) G H G (upd H c (.lst [])) := .alloc Dr.s npc
    have D1 : DrP G (upd H c (.lst [])) d ns := ⟨g1.sub, Dr.g, by rw [upd_ne ncd.symm]; exact Dr.h⟩
    have hc1 : upd H c (.lst []) c = some (.lst []) := upd_same
    have gc1 : G c = none := same_none Dr.s npc
    generalize upd H c (.lst []) = H1 at *
    refine ⟨_, rfl, G, d, ns, 4, rfl, by decide, D1, fun m ns1 H2 hm g2 D2 => ?_⟩
    have g12 := g1.trans g2
    have hc2 := g2.at_ hc1 ncd
    refine ⟨_, rfl, rfl, _, rfl, ?_⟩
    rw [show decide (nV dep = V.int 0) = decide (dep = 0) from decide_eq_decide.mpr ⟨fun z => by injection z with z; omega, fun z => by rw [z]; rfl⟩]
    -- the end
    have fin : ∀ {m B D : Nat} {σ : L2.St} {H3 : Hp}, LTp G H d nl c dep m nms B D m σ H3 → m ≤ 3 → B ≤ 1000 → m * B + 1 ≤ szB dep → D + 1 ≤ dep + 2 → ∃ (x5 x6 : Option V) (ns3 : List Int) (G3 : Hp) (cs : List Tr) (ws : List V), σ = [some (.ref d), some (nV dep), some (.ref nl), some (.ref c), some (nV m), x5, x6] ∧ Gr (· = d) G H G3 H3 ∧ DrP G3 H3 d ns3 ∧ H3 c = some (.lst ws) ∧ G3 c = none ∧ IsTs G3 cs ws ∧ ∀ nm, nm ∈ nms → TrOk (.el nm cs) dep nms := by
      rintro m B D σ H3 ⟨x5, x6, cs, ws, G3, ns3, e, g3, D3, hc3, gc3, ht3, hl3, kp⟩ hm3 hB hsz hD
      refine ⟨x5, x6, ns3, G3, cs, ws, e, g3, D3, hc3, gc3, ht3, fun nm hnm' => ?_⟩
      have hz := kp.z
      have hdp := kp.d
      have h1 : cs.length * B ≤ m * B := Nat.mul_le_mul_right _ hl3
      refine ⟨rfl, ?_, ?_, ?_, ?_, ?_⟩
      · simp only [Tr.good, (hnm nm hnm').1, kp.ap, kp.good, Bool.and_self]
      · have := (hnm nm hnm').2
        exact ⟨by omega, kp.fit⟩
      · simp only [Tr.depth]; omega
      · simp only [Tr.size]; omega
      · intro k hk
        rcases List.mem_cons.mp hk with rfl | hk
        · exact hnm'
        · exact kp.nm k hk
    have ret : ∀ {m : Nat} {x5 x6 : Option V} {ns3 : List Int} {G3 H3 : Hp} {cs : List Tr} {ws : List V}, Gr (· = d) G H G3 H3 → DrP G3 H3 d ns3 → H3 c = some (.lst ws) → G3 c = none → IsTs G3 cs ws → (∀ nm, nm ∈ nms → TrOk (.el nm cs) dep nms) → ∀ (x : Nat) (ns4 : List Int) (H4 : Hp), x < nms.length → Gr (· = d) G3 H3 G3 H4 → DrP G3 H4 d ns4 → ∀ p, H4 p = none → Q (.ref p) (upd H4 p (.tup [.str (nms.getD x Str.empty), .ref c])) := by
      intro m x5 x6 ns3 G3 H3 cs ws g3 D3 hc3 gc3 ht3 hok x ns4 H4 hx g4 D4 p np
      have g34 := g3.trans g4
      have g5 := g34.al (o := .tup [.str (nms.getD x Str.empty), .ref c]) np
      have hc4 : H4 c = some (.lst ws) := g4.at_ hc3 ncd
      obtain ⟨G6, g6, ht6, s6⟩ := Gr.elem g5 (g34.dom _ np) npc upd_same (by rw [upd_ne (ne_of_none hc4 np)]; exact hc4) ht3
      have hdp : d ≠ p := ne_of_none D4.h np
      have hmem : nms.getD x Str.empty ∈ nms := by
        rw [List.getD_eq_getElem?_getD, List.getElem?_eq_getElem hx]
        exact List.getElem_mem hx
      refine q G6 _ _ ns4 _ g6 ⟨g6.sub, ?_, by rw [upd_ne hdp]; exact D4.h⟩ ht6 (hok _ hmem)
      rcases g6.new d (V.int 0 |> fun _ => .lst []) |> fun _ => (Classical.em (G6 d = none)) with h | h
      · exact h
      · cases e : G6 d with
        | none => exact absurd e h
        | some o =>
          rcases g6.new d o e with z | z
          · rw [Dr.g] at z; cases z
          · rw [Dr.h] at z; cases z
    cases dep with
    | zero =>
      refine iteT ⟨_, rfl, G, d, ns1, 2, rfl, by decide, D2, fun m2 ns2 H3 hm2 g3 D3 => ?_⟩
      have g13 := g12.trans g3
      have hc3 := g3.at_ hc2 ncd
      refine ⟨_, rfl, m2, rfl, by omega, by omega, for_it walk_r0 (LTp G H d nl c 0 m2 nms 1 1) ⟨none, none, [], [], G, ns2, rfl, g13, D3, hc3, gc1, rfl, Nat.le_refl _, KP.nil⟩ (fun _ _ _ _ _ => trivial) ?_ ?_⟩
      · rintro i xx σ H5 H4 hi ⟨x5, x6, cs, ws, G4, ns4, rfl, g4, D4, hc4, gc4, ht4, hl4, kp⟩ ⟨rfl, rfl⟩
        have hlw : ws.length = cs.length := ht4.len
        refine ⟨_, rfl, c, _, rfl, .inl (SqL.of hc4), _, _, rfl, rfl, _, rfl, ?_⟩
        rcases List.eq_nil_or_concat cs with rfl | ⟨cs', y, rfl⟩
        · cases (show ws = [] from ht4)
          refine iteF ?_
          refine ⟨_, rfl, rfl, _, rfl, ?_⟩
          rw [show decide (nV 0 = V.int 0) = true from decide_eq_true rfl]
          exact iteT (iteT ⟨_, rfl, _, rfl, iteT ⟨_, rfl, .inl ⟨rfl, _, SqL.of hc4⟩, _, rfl, G4, d, ns4, 5, rfl, by decide, by decide, D4, fun z ns7 H7 g7 D7 hz hzl => ⟨c, _, _, rfl, rfl, g7.at_ hc4 ncd, smallT (by omega), LTp.add npc ncd g4 gc4 hc4 ht4 hl4 kp g7 D7 (x := .tx z) rfl (kp.snoc (x := .tx z) hz (.inl rfl) (Nat.le_trans hzl (by decide)) (Nat.le_refl _) (Nat.le_refl _) (fun k hk => by cases hk))⟩⟩⟩)
        · rw [List.concat_eq_append] at *
          obtain ⟨u, hu, huT⟩ := ht4.get (i := cs'.length) (t := y) (by simp)
          have hl1 : (cs' ++ [y]).length = cs'.length + 1 := by simp
          obtain ⟨yy, ty, kt⟩ := huT.ty D4.s (K := K)
          rw [show decide ((0 : Int) < ((ws.length : Nat) : Int)) = true from decide_eq_true (by omega)]
          refine iteT ⟨_, rfl, _, rfl, c, _, rfl, .inl (SqL.of hc4), ((ws.length : Nat) : Int), 1, rfl, rfl, c, ws, _, u, rfl, rfl, SqL.of hc4, atI_n (show ((ws.length : Nat) : Int) - 1 = ((cs'.length : Nat) : Int) by omega) hu, _, _, _, _, _, rfl, .ty "str", ty, kt, ?_⟩
          have hlt : lastTx (cs' ++ [y]) = y.isTx := by simp [lastTx]
          cases hy : y.isTx
          · rw [hy] at hlt
            refine ⟨_, rfl, rfl, _, rfl, ?_⟩
            rw [show decide (nV 0 = V.int 0) = true from decide_eq_true rfl]
            exact iteT (iteT ⟨_, rfl, _, rfl, iteT ⟨_, rfl, .inl ⟨rfl, _, SqL.of hc4⟩, _, rfl, G4, d, ns4, 5, rfl, by decide, by decide, D4, fun z ns7 H7 g7 D7 hz hzl => ⟨c, _, _, rfl, rfl, g7.at_ hc4 ncd, smallT (by omega), LTp.add npc ncd g4 gc4 hc4 ht4 hl4 kp g7 D7 (x := .tx z) rfl (kp.snoc (x := .tx z) hz (.inl hlt) (Nat.le_trans hzl (by decide)) (Nat.le_refl _) (Nat.le_refl _) (fun k hk => by cases hk))⟩⟩⟩)
          · rw [hy] at hlt
            refine ⟨_, rfl, rfl, _, rfl, ?_⟩
            rw [show decide (nV 0 = V.int 0) = true from decide_eq_true rfl]
            exact iteT (iteT ⟨_, rfl, _, rfl, iteF ⟨_, _, _, _, G4, ns4, rfl, g4, D4, hc4, gc4, ht4, by omega, kp⟩⟩)
      · intro σ H4 hp
        obtain ⟨x5, x6, ns3, G3, cs, ws, rfl, g3, D3, hc3, gc3, ht3, hok⟩ := fin hp (by omega) (by decide) (by show m2 * 1 + 1 ≤ 2; omega) (by decide)
        exact ⟨_, rfl, _, rfl, _, rfl, nl, _, rfl, .inl (SqL.of (D3.s _ _ (g3.ext _ _ hnl))), G3, d, ns3, nms.length, by rw [List.length_map]; rfl, List.length_pos_iff.mpr hne, D3, fun x ns4 H4 hx g4 D4 => ⟨nl, _, _, _, rfl, rfl, SqL.of (D4.s _ _ (g3.ext _ _ hnl)), atI_n rfl (by rw [List.getElem?_map, List.getD_eq_getElem?_getD, List.getElem?_eq_getElem hx]; rfl), _, rfl, by show 2 ≤ sizeLine; decide, ret (m := m2) (x5 := x5) (x6 := x6) g3 D3 hc3 gc3 ht3 hok x ns4 H4 hx g4 D4⟩⟩
    | succ e =>
      rw [show decide (e + 1 = 0) = false from rfl]
      refine iteF ⟨_, rfl, m, rfl, by omega, by omega, for_it walk_r0 (LTp G H d nl c (e + 1) m nms (szB e) (e + 2)) ⟨none, none, [], [], G, ns1, rfl, g12, D2, hc2, gc1, rfl, Nat.le_refl _, KP.nil⟩ (fun _ _ _ _ _ => trivial) ?_ ?_⟩
      · rintro i xx σ H5 H4 hi ⟨x5, x6, cs, ws, G4, ns4, rfl, g4, D4, hc4, gc4, ht4, hl4, kp⟩ ⟨rfl, rfl⟩
        have hlw : ws.length = cs.length := ht4.len
        refine ⟨_, rfl, c, _, rfl, .inl (SqL.of hc4), _, _, rfl, rfl, _, rfl, ?_⟩
        rcases List.eq_nil_or_concat cs with rfl | ⟨cs', y, rfl⟩
        · cases (show ws = [] from ht4)
          refine iteF ?_
          refine ⟨_, rfl, rfl, _, rfl, ?_⟩
          rw [show decide (nV (e + 1) = V.int 0) = false from decide_eq_false fun z => by injection z with z; omega]
          refine iteF ⟨_, rfl, G4, d, ns4, 3, rfl, by decide, D4, fun x ns6 H6 hx g6 D6 => ?_⟩
          have hc6 := g6.at_ hc4 ncd
          have hnl6 := D6.s _ _ (g4.ext _ _ hnl)
          exact ⟨rfl, _, rfl, ite_both ⟨_, rfl, _, rfl, iteT ⟨_, rfl, .inl ⟨rfl, _, SqL.of hc6⟩, _, rfl, G4, d, ns6, 5, rfl, by decide, by decide, D6, fun z ns7 H7 g7 D7 hz hzl => ⟨c, _, _, rfl, rfl, g7.at_ hc6 ncd, smallT (by omega), LTp.add npc ncd (g4.trans g6) gc4 hc6 ht4 hl4 kp g7 D7 (x := .tx z) rfl (kp.snoc (x := .tx z) hz (.inl rfl) (Nat.le_trans hzl (by decide)) (Nat.le_add_left 1 (e + 1)) (szB_pos e) (fun k hk => by cases hk))⟩⟩⟩ ⟨_, rfl, .inl ⟨rfl, _, SqL.of hc6⟩, _, rfl, _, rfl, ((e + 1 : Nat) : Int), 1, rfl, rfl, _, rfl, by
              simp only [show (((e + 1 : Nat) : Int) - 1) = ((e : Nat) : Int) by omega]
              exact ⟨G4, d, nl, ns6, e, nms, rfl, D6, by omega, by omega, (g4.ext _ _ hnl), hne, hnl10, hnm, fun G7 t v ns7 H7 g7 D7 ht ok => ⟨c, _, _, rfl, rfl, g7.at_ hc6 ncd, smallT (by omega), LTp.add npc ncd (g4.trans g6) gc4 hc6 ht4 hl4 kp g7 D7 ht (kp.snoc ok.good (.inr ok.el) ok.fit ok.d ok.z ok.nm)⟩⟩⟩⟩
        · rw [List.concat_eq_append] at *
          obtain ⟨u, hu, huT⟩ := ht4.get (i := cs'.length) (t := y) (by simp)
          have hl1 : (cs' ++ [y]).length = cs'.length + 1 := by simp
          obtain ⟨yy, ty, kt⟩ := huT.ty D4.s (K := K)
          rw [show decide ((0 : Int) < ((ws.length : Nat) : Int)) = true from decide_eq_true (by omega)]
          refine iteT ⟨_, rfl, _, rfl, c, _, rfl, .inl (SqL.of hc4), ((ws.length : Nat) : Int), 1, rfl, rfl, c, ws, _, u, rfl, rfl, SqL.of hc4, atI_n (show ((ws.length : Nat) : Int) - 1 = ((cs'.length : Nat) : Int) by omega) hu, _, _, _, _, _, rfl, .ty "str", ty, kt, ?_⟩
          have hlt : lastTx (cs' ++ [y]) = y.isTx := by simp [lastTx]
          cases hy : y.isTx
          · rw [hy] at hlt
            refine ⟨_, rfl, rfl, _, rfl, ?_⟩
            rw [show decide (nV (e + 1) = V.int 0) = false from decide_eq_false fun z => by injection z with z; omega]
            refine iteF ⟨_, rfl, G4, d, ns4, 3, rfl, by decide, D4, fun x ns6 H6 hx g6 D6 => ?_⟩
            have hc6 := g6.at_ hc4 ncd
            have hnl6 := D6.s _ _ (g4.ext _ _ hnl)
            exact ⟨rfl, _, rfl, ite_both ⟨_, rfl, _, rfl, iteT ⟨_, rfl, .inl ⟨rfl, _, SqL.of hc6⟩, _, rfl, G4, d, ns6, 5, rfl, by decide, by decide, D6, fun z ns7 H7 g7 D7 hz hzl => ⟨c, _, _, rfl, rfl, g7.at_ hc6 ncd, smallT (by omega), LTp.add npc ncd (g4.trans g6) gc4 hc6 ht4 hl4 kp g7 D7 (x := .tx z) rfl (kp.snoc (x := .tx z) hz (.inl hlt) (Nat.le_trans hzl (by decide)) (Nat.le_add_left 1 (e + 1)) (szB_pos e) (fun k hk => by cases hk))⟩⟩⟩ ⟨_, rfl, .inl ⟨rfl, _, SqL.of hc6⟩, _, rfl, _, rfl, ((e + 1 : Nat) : Int), 1, rfl, rfl, _, rfl, by
              simp only [show (((e + 1 : Nat) : Int) - 1) = ((e : Nat) : Int) by omega]
              exact ⟨G4, d, nl, ns6, e, nms, rfl, D6, by omega, by omega, (g4.ext _ _ hnl), hne, hnl10, hnm, fun G7 t v ns7 H7 g7 D7 ht ok => ⟨c, _, _, rfl, rfl, g7.at_ hc6 ncd, smallT (by omega), LTp.add npc ncd (g4.trans g6) gc4 hc6 ht4 hl4 kp g7 D7 ht (kp.snoc ok.good (.inr ok.el) ok.fit ok.d ok.z ok.nm)⟩⟩⟩⟩
          · rw [hy] at hlt
            refine ⟨_, rfl, rfl, _, rfl, ?_⟩
            rw [show decide (nV (e + 1) = V.int 0) = false from decide_eq_false fun z => by injection z with z; omega]
            refine iteF ⟨_, rfl, G4, d, ns4, 3, rfl, by decide, D4, fun x ns6 H6 hx g6 D6 => ?_⟩
            have hc6 := g6.at_ hc4 ncd
            have hnl6 := D6.s _ _ (g4.ext _ _ hnl)
            exact ⟨rfl, _, rfl, ite_both ⟨_, rfl, _, rfl, iteF ⟨_, _, _, _, G4, ns6, rfl, (g4.trans g6), D6, hc6, gc4, ht4, by omega, kp⟩⟩ ⟨_, rfl, .inl ⟨rfl, _, SqL.of hc6⟩, _, rfl, _, rfl, ((e + 1 : Nat) : Int), 1, rfl, rfl, _, rfl, by
              simp only [show (((e + 1 : Nat) : Int) - 1) = ((e : Nat) : Int) by omega]
              exact ⟨G4, d, nl, ns6, e, nms, rfl, D6, by omega, by omega, (g4.ext _ _ hnl), hne, hnl10, hnm, fun G7 t v ns7 H7 g7 D7 ht ok => ⟨c, _, _, rfl, rfl, g7.at_ hc6 ncd, smallT (by omega), LTp.add npc ncd (g4.trans g6) gc4 hc6 ht4 hl4 kp g7 D7 ht (kp.snoc ok.good (.inr ok.el) ok.fit ok.d ok.z ok.nm)⟩⟩⟩⟩
      · intro σ H4 hp
        obtain ⟨x5, x6, ns3, G3, cs, ws, rfl, g3, D3, hc3, gc3, ht3, hok⟩ := fin hp (by omega) (szB_le (by omega)) (by simp only [szB]; have := Nat.mul_le_mul_right (szB e) (show m ≤ 3 by omega); omega) (Nat.le_refl _)
        exact ⟨_, rfl, _, rfl, _, rfl, nl, _, rfl, .inl (SqL.of (D3.s _ _ (g3.ext _ _ hnl))), G3, d, ns3, nms.length, by rw [List.length_map]; rfl, List.length_pos_iff.mpr hne, D3, fun x ns4 H4 hx g4 D4 => ⟨nl, _, _, _, rfl, rfl, SqL.of (D4.s _ _ (g3.ext _ _ hnl)), atI_n rfl (by rw [List.getElem?_map, List.getD_eq_getElem?_getD, List.getElem?_eq_getElem hx]; rfl), _, rfl, by show 2 ≤ sizeLine; decide, ret (m := m) (x5 := x5) (x6 := x6) g3 D3 hc3 gc3 ht3 hok x ns4 H4 hx g4 D4⟩⟩

end
end K5
set_option Elab.async false
set_option linter.all false
set_option maxRecDepth 100000
set_option maxHeartbeats 4000000
namespace K5
open PySem PySem.Spec PyProof.Rows L2
/-! ### the law's own defs: the ways of a tree, its size, whether it is one -/
def IsWys (G : Hp) : List Way → List V → Prop
  | [], vs => vs = []
  | w :: ws, vs => ∃ (l : Addr) (r : List V), vs = .ref l :: r ∧ G l = some (.lst (vN w)) ∧ IsWys G ws r
theorem IsWys.mono {G G' : Hp} (s : Same G G') : ∀ {ws : List Way} {vs : List V}, IsWys G ws vs → IsWys G' ws vs
  | [], _, h => h
  | w :: ws, vs, ⟨l, r, e, h1, h2⟩ => ⟨l, r, e, s _ _ h1, h2.mono s⟩
theorem IsWys.app {G : Hp} : ∀ {ws us : List Way} {vs xs : List V}, IsWys G ws vs → IsWys G us xs → IsWys G (ws ++ us) (vs ++ xs)
  | [], us, vs, xs, h, k => by cases (show vs = [] from h); exact k
  | w :: ws, us, vs, xs, ⟨l, r, e, h1, h2⟩, k => ⟨l, r ++ xs, by rw [e]; rfl, h1, h2.app k⟩
theorem IsWys.len {G : Hp} : ∀ {ws : List Way} {vs : List V}, IsWys G ws vs → vs.length = ws.length
  | [], vs, h => by cases (show vs = [] from h); rfl
  | w :: ws, vs, ⟨l, r, e, h1, h2⟩ => by rw [e, List.length_cons, List.length_cons, h2.len]
theorem IsWys.get {G : Hp} : ∀ {ws : List Way} {vs : List V} {i : Nat} {w : Way}, IsWys G ws vs → ws[i]? = some w → ∃ l, vs[i]? = some (.ref l) ∧ G l = some (.lst (vN w))
  | w :: ws, vs, 0, u, ⟨l, r, e, h1, h2⟩, h => by cases (Option.some.inj h); exact ⟨l, by rw [e]; rfl, h1⟩
  | w :: ws, vs, i + 1, u, ⟨l, r, e, h1, h2⟩, h => by
    obtain ⟨l', a, b⟩ := h2.get (i := i) (by simpa using h)
    exact ⟨l', by rw [e]; simpa using a, b⟩
theorem IsWys.at_ {G : Hp} {ws : List Way} {vs : List V} {i : Nat} {v : V} (h : IsWys G ws vs) (hv : vs[i]? = some v) : ∃ w l, ws[i]? = some w ∧ v = .ref l ∧ G l = some (.lst (vN w)) := by
  have hi : i < ws.length := by rw [← h.len]; exact (List.getElem?_eq_some_iff.mp hv).1
  obtain ⟨l, h1, h2⟩ := h.get (List.getElem?_eq_getElem hi)
  rw [hv] at h1
  cases h1
  exact ⟨_, l, List.getElem?_eq_getElem hi, rfl, h2⟩
theorem IsWys.of {G : Hp} : ∀ {ws : List Way} {vs : List V}, vs.length = ws.length → (∀ (i : Nat) (v : V), vs[i]? = some v → ∃ w l, ws[i]? = some w ∧ v = .ref l ∧ G l = some (.lst (vN w))) → IsWys G ws vs
  | [], vs, h, _ => List.length_eq_zero_iff.mp h
  | w :: ws, [], h, _ => by simp at h
  | w :: ws, v :: vs, h, k => by
    obtain ⟨u, l, e, rfl, hl⟩ := k 0 v rfl
    cases (Option.some.inj e)
    exact ⟨l, vs, rfl, hl, IsWys.of (by simpa using h) fun i v e => k (i + 1) v (by simpa using e)⟩
theorem pres_at : ∀ {cs : List Tr} {i j k : Nat} {c : Tr}, cs[j]? = some c → k < c.size → (Tr.pres i cs)[Tr.sizes (cs.take j) + k]? = (c.pre[k]?).map ((i + j) :: ·)
  | d :: cs, i, 0, k, c, h, h1 => by
    cases (Option.some.inj h)
    simp only [List.take_zero, Tr.sizes, Nat.zero_add, Tr.pres, Nat.add_zero]
    rw [List.getElem?_append_left (by rw [List.length_map, pre_len]; exact h1), List.getElem?_map]
  | d :: cs, i, j + 1, k, c, h, h1 => by
    simp only [List.take_succ_cons, Tr.sizes, Tr.pres]
    rw [List.getElem?_append_right (by rw [List.length_map, pre_len]; omega), List.length_map, pre_len, show d.size + Tr.sizes (cs.take j) + k - d.size = Tr.sizes (cs.take j) + k by omega, pres_at (i := i + 1) (by simpa using h) h1, show i + 1 + j = i + (j + 1) by omega]
theorem pre_wy : ∀ (n : Nat) (t : Tr) (k : Nat), t.size ≤ n → k < t.size → t.pre[k]? = some (t.wy k)
  | 0, t, k, h, hk => by omega
  | n + 1, t, 0, h, hk => by
    rw [wy_0]
    cases t <;> rfl
  | n + 1, t, k + 1, h, hk => by
    obtain ⟨m, cs, j, c, rfl, hc, h1, h2, e, hs, _⟩ := wy_step hk
    rw [e]
    show (Tr.pres 0 cs)[k]? = _
    have := pres_at (i := 0) hc (show k - Tr.sizes (cs.take j) < c.size by omega)
    rw [show Tr.sizes (cs.take j) + (k - Tr.sizes (cs.take j)) = k by omega, pre_wy n c _ (by omega) (by omega), Nat.zero_add] at this
    exact this
theorem pres_take {cs : List Tr} {i : Nat} {c : Tr} (h : cs[i]? = some c) : Tr.pres 0 (cs.take (i + 1)) = Tr.pres 0 (cs.take i) ++ c.pre.map (i :: ·) := by
  have hi := (List.getElem?_eq_some_iff.mp h).1
  rw [List.take_add_one, h, pres_app, List.length_take, Nat.min_eq_left (by omega), Nat.zero_add]
  simp [Tr.pres]
mutual
theorem Tr.dz : ∀ t : Tr, t.depth ≤ t.size
  | .tx _ => Nat.le_refl _
  | .el _ cs => by
    have := Tr.dzs cs
    simp only [Tr.depth, Tr.size]; omega
theorem Tr.dzs : ∀ cs : List Tr, Tr.depths cs ≤ Tr.sizes cs
  | [] => Nat.le_refl _
  | c :: cs => by
    have := Tr.dzs cs
    have := c.dz
    simp only [Tr.depths, Tr.sizes]; omega
end
theorem goods_all : ∀ cs : List Tr, Tr.goods cs = cs.all Tr.good
  | [] => rfl
  | c :: cs => by simp only [Tr.goods, List.all_cons, goods_all cs]
theorem goods_in (cs : List Tr) : (if true = true then !inV (.bl false) ((cs.map Tr.good).map V.bl) else inV (.bl false) ((cs.map Tr.good).map V.bl)) = Tr.goods cs := by
  rw [if_pos rfl, goods_all]
  unfold inV
  induction cs with
  | nil => rfl
  | cons c cs ih =>
    simp only [List.map_cons, List.any_cons, List.all_cons, Bool.not_or, ih]
    cases c.good <;> rfl
def spLPaths (n : Nat) : Sp := fun vs H Q _ => ∃ (G : Hp) (t : Tr) (v : V), vs = [v] ∧ Same G H ∧ IsT G t v ∧ t.size ≤ 50000 ∧ t.depth < n ∧ ∀ (G' : Hp) (p : Addr) (ps : List V) (H' : Hp), Gr W0 G H G' H' → H' p = some (.lst ps) → IsWys G' t.pre ps → Q (.ref p) H'
def spLApart : Sp := fun vs H Q _ => ∃ (G : Hp) (cs : List Tr) (l : Addr) (ws : List V), vs = [.ref l] ∧ Same G H ∧ H l = some (.lst ws) ∧ IsTs G cs ws ∧ cs.length ≤ 50000 ∧ ∀ H', Same H H' → Q (.bl (apart cs)) H'
def spLSize (n : Nat) : Sp := fun vs H Q _ => ∃ (G : Hp) (t : Tr) (v : V), vs = [v] ∧ Same G H ∧ IsT G t v ∧ t.size ≤ 50000 ∧ t.depth < n ∧ ∀ (p : Addr) (H' : Hp), Same H H' → H' p = some (.lst [.int ((t.size : Nat) : Int), .int ((t.depth : Nat) : Int)]) → Q (.ref p) H'
def spLTr (n : Nat) : Sp := fun vs H Q _ => ∃ (G : Hp) (t : Tr) (v : V), vs = [v] ∧ Same G H ∧ IsT G t v ∧ t.fit ∧ t.size ≤ 50000 ∧ t.depth < n ∧ ∀ H', Same H H' → Q (.bl t.good) H'
section
variable {P : Program} {w : World} {K : PySem.W.Frag} {mg : Str → Option Value} {base : Heap} {k : Nat}
theorem sc_law_paths : FnScope ["_law_tree_here", "_law_found", "_law_k", "_law_path"] ["_law_tree_here"] (defScope s_law_paths) := ⟨rfl, rfl, rfl, by decide +kernel, rfl, by decide +kernel, by decide +kernel⟩
theorem hd_law_paths (D : Df K mg "_law_paths" s_law_paths) (T : Tx K mg) : ∀ n : Nat, Hd P w K mg base "_law_paths" ["_law_tree_here"] (k + n) (spLPaths n)
  | 0 => by
    refine hd_vac D (fun _ _ _ _ _ _ us hl => match us, hl with | [_], _ => rfl) fun vs H Q E h => ?_
    obtain ⟨G, t, v, _, _, _, _, hd, _⟩ := h
    omega
  | n + 1 => by
    have h_law_paths := hd_law_paths D T n
    refine hd_mk (k := k + n) D sc_law_paths (fun _ _ _ _ _ _ us hl => match us, hl with | [_], _ => rfl) (fun vs H Q E h => ?_) (fun f cdv A outer s H vs Q E hr h => ?_)
    · obtain ⟨G, t, v, rfl, _⟩ := h; rfl
    obtain ⟨G, t, v, rfl, sg, ht, hz, hd, q⟩ := h
    refine ⟨_, (pss_cons (ps_set (i := 1) sc_law_paths.nd rfl (Or.inl rfl) (pe_lst (pa_cons (pe_lst pa_nil) pa_nil)))
    (pss_cons (ps_if (pt_not (pt_val (pe_callB call_isi (by rfl) T.isinstance (by decide +kernel) (pa_cons (pv 0) (pa_cons (pe_bltn (v := .ty "str") (by rfl) T.str (by decide +kernel) rfl) pa_nil)))))
      (pss_one (ps_for PassesOwn.never rfl (pi_range1 (by rfl) T.range (pa_cons (pe_callB call_len_seq (by rfl) T.len (by decide +kernel) (pa_cons (pe_ix ix_tup (pv 0) pe_int (fun _ _ => rfl)) pa_nil)) pa_nil)) (pg_name (i := 2) sc_law_paths.nd rfl (Or.inr rfl))
        (pss_one (ps_set (i := 1) sc_law_paths.nd rfl (Or.inl rfl) (pe_op op_cat (pv 1) (pe_lc (own := [("_law_path", 3)]) (g := gName 3) (tt := tYes) rfl sc_law_paths.nd (pi_list (pe_hd h_law_paths hr rfl (pa_cons (pe_ix ix_list (pe_ix ix_tup (pv 0) pe_int (fun _ _ => rfl)) (pv 2) (fun _ _ => rfl)) pa_nil))) (blkOk_by (own := [("_law_path", 3)]) (N := ["_law_tree_here", "_law_found", "_law_k", "_law_path"]) (sc := defScope s_law_paths) (by decide +kernel)) (fun _ _ _ _ _ => (pg_name (i := 3) sc_law_paths.nd rfl (Or.inl rfl))) (fun _ _ _ _ _ => pts_nil) (fun _ _ _ _ _ => (pe_op op_cat (pe_lst (pa_cons (pv 2) pa_nil)) (pv 3)))))))))
      pss_nil)
    (pss_one (ps_ret (pv 1))))), ?_⟩
    refine ⟨by show 0 ≤ sizeLine; decide, fun p0 np0 => ⟨by show 1 ≤ sizeLine; decide, fun p1 np1 => ?_⟩⟩
    have g1 : Gr W0 G H G (upd H p0 (.lst [])) := .alloc sg np0
    obtain g2 := (g1.al (o := .lst [.ref p0]) np1).frz (p := p0) (o := .lst []) np0 (by rw [upd_ne (ne_of_none upd_same np1), upd_same])
    have hp1 : upd (upd H p0 (.lst [])) p1 (.lst [.ref p0]) p1 = some (.lst [.ref p0]) := upd_same
    have hw1 : IsWys (upd G p0 (.lst [])) [[]] [.ref p0] := ⟨p0, [], rfl, upd_same, rfl⟩
    generalize upd (upd H p0 (.lst [])) p1 (.lst [.ref p0]) = H1 at *
    generalize upd G p0 (.lst []) = G1 at *
    have hn1 := g1.dom _ np1
    clear np1 g1
    obtain ⟨yy, ty, kt⟩ := (ht.mono g2.ext).ty g2.sub (K := K)
    refine ⟨_, rfl, _, _, _, _, _, rfl, .ty "str", ty, kt, _, rfl, ?_⟩
    cases t with
    | tx s =>
      exact iteF ⟨_, rfl, q G1 p1 _ H1 g2 hp1 hw1⟩
    | el m cs =>
      obtain ⟨a, lc, ws, rfl, h1, h2, h3⟩ := ht
      simp only [Tr.size] at hz
      simp only [Tr.depth] at hd
      have hwl := h3.len
      have hcl := sizes_len cs
      refine iteT ⟨_, rfl, a, _, _, _, rfl, rfl, SqT.of (g2.sub0 _ _ h1), at_1, lc, _, rfl, .inl (SqL.of (g2.sub0 _ _ h2)), ws.length, rfl, by omega, by omega, for_it walk_r0 (fun i σ H2 => ∃ (x2 x3 : Option V) (G2 : Hp) (p : Addr) (ps : List V), σ = [some (.ref a), some (.ref p), x2, none] ∧ Gr W0 G H G2 H2 ∧ H2 p = some (.lst ps) ∧ IsWys G2 ([] :: Tr.pres 0 (cs.take i)) ps)
        ⟨none, none, G1, p1, _, rfl, g2, hp1, hw1⟩ (fun _ _ _ _ _ => trivial) ?_ ?_⟩
      · rintro i xx σ H3 H2 hi ⟨x2, x3, G2, p, ps, rfl, gr2, hp, hw⟩ ⟨rfl, rfl⟩
        have hi : i < cs.length := by omega
        have hc : cs[i]? = some cs[i] := List.getElem?_eq_getElem hi
        generalize cs[i] = c at hc
        obtain ⟨y, hy, hcy⟩ := h3.get hc
        have hdc := depths_get hc
        have hzc := take_le hc
        have hpl := hw.len
        have hpr : (Tr.pres 0 (cs.take i)).length = Tr.sizes (cs.take i) := pres_len _ _
        refine ⟨_, rfl, _, rfl, a, _, _, _, rfl, rfl, SqT.of (gr2.sub0 _ _ h1), at_1, _, rfl, lc, ws, _, y, rfl, rfl, SqL.of (gr2.sub0 _ _ h2), atI_n rfl hy, G2, c, y, rfl, gr2.sub, hcy.mono gr2.ext, by omega, by omega, fun G4 p4 ps4 H4 g4 hp4 hw4 => ?_⟩
        have hl4 := hw4.len
        rw [pre_len] at hl4
        have gr4 := gr2.trans g4
        refine ⟨p4, rfl, ⟨_, SqL.of hp4⟩, fun D hD => lc_rel walk_list hD g4.sub (fun G5 H5 gr => SqL.of (gr.same _ _ hp4)) (fun j G y => ∃ w l, c.pre[j]? = some w ∧ y = .ref l ∧ G l = some (.lst (vN (i :: w)))) (fun j G G' y s ⟨w, l, e, e2, h⟩ => ⟨w, l, e, e2, s _ _ h⟩) (by omega) ?_ ?_⟩
        · rintro j x G5 H5 H6 K' Z hj gr gD _ ⟨rfl, hx⟩ hK
          obtain ⟨w, l, hwj, rfl, hl⟩ := hw4.at_ hx
          refine ⟨rfl, ty_yes ⟨_, rfl, by show 1 ≤ sizeLine; decide, fun q1 nq1 => ?_⟩⟩
          have e1 := gr.al (o := .lst [nV i]) nq1
          refine ⟨_, rfl, q1, l, [nV i], vN w, rfl, rfl, upd_same, e1.sub0 _ _ hl, small ?_, fun q2 nq2 => ?_⟩
          · have := ok_len w c ((pre_mem w c).mp (List.mem_of_getElem? hwj))
            have := c.dz
            simp only [List.length_cons, List.length_nil, List.length_map]
            omega
          · have e0 : Gr W0 G5 H6 G5 (upd H6 q1 (.lst [nV i])) := .alloc gr.sub nq1
            have e2 := e0.al (o := .lst ([nV i] ++ vN w)) nq2
            have e3 := e2.frz (p := q2) (o := .lst ([nV i] ++ vN w)) (e0.dom _ nq2) upd_same
            exact hK _ _ _ e3 ⟨w, q2, hwj, rfl, upd_same⟩
        · intro G5 H5 ys gr hy5 gD hl hr
          refine ⟨p, D, ps, ys, rfl, rfl, gr.same _ _ (g4.same _ _ hp), hy5, small (by simp at hpl; omega), fun r nr => ?_⟩
          have gr5 := (gr4.trans gr).al (o := .lst (ps ++ ys)) nr
          refine ⟨_, none, G5, r, _, rfl, gr5, upd_same, ?_⟩
          rw [pres_take hc]
          refine IsWys.app ((hw.mono g4.ext).mono gr.ext) (IsWys.of (by rw [hl, List.length_map, pre_len]; omega) fun j v hv => ?_)
          obtain ⟨w, l, e1, e2, e3⟩ := hr j v hv
          exact ⟨_, l, by rw [List.getElem?_map, e1]; rfl, e2, e3⟩
      · rintro σ H2 ⟨x2, x3, G2, p, ps, rfl, gr2, hp, hw⟩
        rw [show (((ws.length : Nat) : Int)).toNat = cs.length by omega, List.take_length] at hw
        exact ⟨_, rfl, q G2 p ps H2 gr2 hp hw⟩
theorem sc_law_apart : FnScope ["_law_children", "_law_pairs", "_law_k"] ["_law_children"] (defScope s_law_apart) := ⟨rfl, rfl, rfl, by decide +kernel, rfl, by decide +kernel, by decide +kernel⟩
theorem hd_law_apart (D : Df K mg "_law_apart" s_law_apart) (T : Tx K mg) : Hd P w K mg base "_law_apart" ["_law_children"] (k + 1) spLApart := by
  refine hd_mk D sc_law_apart (fun _ _ _ _ _ _ us hl => match us, hl with | [_], _ => rfl) (fun vs H Q E h => ?_) (fun f cdv A outer s H vs Q E hr h => ?_)
  · obtain ⟨G, cs, l, ws, rfl, _⟩ := h; rfl
  obtain ⟨G, cs, l, ws, rfl, sg, hl, hts, hz, q⟩ := h
  refine ⟨_, (pss_cons (ps_setLc (i := 1) (own := [("_law_k", 2)]) (g := gName 2) rfl sc_law_apart.nd rfl rfl (sw_true rfl rfl rfl (by decide +kernel)) (pi_range2 (by rfl) T.range (pa_cons pe_int (pa_cons (pe_callB call_len_seq (by rfl) T.len (by decide +kernel) (pa_cons (pv 0) pa_nil)) pa_nil))) (blkOk_by (own := [("_law_k", 2)]) (N := ["_law_children", "_law_pairs", "_law_k"]) (sc := defScope s_law_apart) (by decide +kernel)) (fun _ _ _ _ _ => (pg_name (i := 2) sc_law_apart.nd rfl (Or.inl rfl))) (fun _ _ _ _ _ => (pts_one (PW.pt (pw_and (pt_val (pe_callB (cisi K) (by rfl) T.isinstance (by decide +kernel) (pa_cons (pe_ix (ixl K) (pv 0) (pv 2) (fun _ _ => rfl)) (pa_cons (pe_bltn (v := .ty "str") (by rfl) T.str (by decide +kernel) rfl) pa_nil)))) (pw_and1 (pt_val (pe_callB (cisi K) (by rfl) T.isinstance (by decide +kernel) (pa_cons (pe_ix (ixl K) (pv 0) (pe_op op_sub (pv 2) pe_int) (fun _ _ => rfl)) (pa_cons (pe_bltn (v := .ty "str") (by rfl) T.str (by decide +kernel) rfl) pa_nil))))))))) (fun _ _ _ _ _ => (pv 2)))
    (pss_one (ps_ret (pe_cmpR op_eq (pe_callB call_len_seq (by rfl) T.len (by decide +kernel) (pa_cons (pv 1) pa_nil)) pe_int (nomark _))))), ?_⟩
  have hwl := hts.len
  refine ⟨_, rfl, l, _, rfl, .inl (SqL.of hl), _, _, rfl, ⟨by decide, by decide, by omega, by omega⟩, fun D hD => lc_flt walk_range hD sg (fun _ _ _ => trivial) (fun i => (cs.getD (i + 1) (.tx Str.empty)).isTx && (cs.getD i (.tx Str.empty)).isTx) (fun i => nV (1 + i)) (by omega) ?_ ?_⟩
  · rintro i x G1 H2 H1 K' Z hi gr gD ⟨rfl, rfl⟩ yes no
    have hi2 : i + 1 < cs.length := by omega
    obtain ⟨z, hz1, hc1⟩ := hts.get (List.getElem?_eq_getElem hi2)
    obtain ⟨z0, hz0, hc0⟩ := hts.get (List.getElem?_eq_getElem (show i < cs.length by omega))
    have e1 : cs.getD (i + 1) (.tx Str.empty) = cs[i + 1] := by rw [List.getD_eq_getElem?_getD, List.getElem?_eq_getElem hi2]; rfl
    have e0 : cs.getD i (.tx Str.empty) = cs[i] := by rw [List.getD_eq_getElem?_getD, List.getElem?_eq_getElem (show i < cs.length by omega)]; rfl
    rw [e1, e0] at yes no
    obtain ⟨y1, ty1, kt1⟩ := (hc1.mono gr.ext).ty gr.sub (K := K)
    obtain ⟨y0, ty0, kt0⟩ := (hc0.mono gr.ext).ty gr.sub (K := K)
    have hl1 : H1 l = some (.lst ws) := gr.same _ _ hl
    refine ⟨rfl, _, rfl, _, rfl, l, ws, _, z, rfl, rfl, SqL.of hl1, atI_n (show (1 : Int) + ((i : Nat) : Int) = ((i + 1 : Nat) : Int) by omega) hz1, _, _, _, _, _, rfl, .ty "str", ty1, kt1, _, rfl, ?_⟩
    cases h1 : (cs[i + 1]).isTx
    · rw [h1] at no
      exact iteF (iteF (no G1 H1 rfl (.refl gr.sub)))
    · rw [h1] at yes no
      refine iteT ⟨_, rfl, _, rfl, (1 : Int) + ((i : Nat) : Int), 1, rfl, rfl, l, ws, _, z0, rfl, rfl, SqL.of hl1, atI_n (show (1 : Int) + ((i : Nat) : Int) - 1 = ((i : Nat) : Int) by omega) hz0, _, _, _, _, _, rfl, .ty "str", ty0, kt0, _, rfl, ?_⟩
      cases h0 : (cs[i]).isTx
      · rw [h0] at no
        exact iteF (no G1 H1 rfl (.refl gr.sub))
      · rw [h0] at yes
        refine iteT ⟨_, rfl, ?_⟩
        have := yes G1 H1 rfl (.refl gr.sub)
        rw [show nV (1 + i) = V.int ((1 : Int) + ((i : Nat) : Int)) from congrArg V.int (by omega)] at this
        exact this
  · intro G1 H1 gr hy gD
    refine ⟨_, rfl, D, _, rfl, .inl (SqL.of hy), rfl, ?_⟩
    have e : decide (V.int (((((List.range (((ws.length : Nat) : Int) - 1).toNat).filter fun i => (cs.getD (i + 1) (.tx Str.empty)).isTx && (cs.getD i (.tx Str.empty)).isTx).map fun i => nV (1 + i)).length : Nat) : Int) = V.int 0) = apart cs := by
      rw [List.length_map, show (((ws.length : Nat) : Int) - 1).toNat = cs.length - 1 by omega]
      unfold apart adj
      rw [List.any_map]
      cases h : (List.range (cs.length - 1)).any (id ∘ fun i => (cs.getD (i + 1) (.tx Str.empty)).isTx && (cs.getD i (.tx Str.empty)).isTx)
      · refine decide_eq_true ?_
        rw [List.filter_eq_nil_iff.mpr fun x hx hp => ?_]
        · rfl
        · rw [List.any_eq_false] at h
          exact h x hx hp
      · refine decide_eq_false fun z => ?_
        obtain ⟨x, hx, hp⟩ := List.any_eq_true.mp h
        injection z with z
        have := List.length_eq_zero_iff.mp (show ((List.range (cs.length - 1)).filter fun i => (cs.getD (i + 1) (.tx Str.empty)).isTx && (cs.getD i (.tx Str.empty)).isTx).length = 0 by omega)
        rw [List.filter_eq_nil_iff] at this
        exact this x hx hp
    have := q H1 gr.same
    rw [← e] at this
    exact this
theorem sc_law_size : FnScope ["_law_tree_here", "_law_size_here", "_law_depth", "_law_child", "_law_inner_here"] ["_law_tree_here"] (defScope s_law_size) := ⟨rfl, rfl, rfl, by decide +kernel, rfl, by decide +kernel, by decide +kernel⟩
theorem hd_law_size (D : Df K mg "_law_size" s_law_size) (T : Tx K mg) : ∀ n : Nat, Hd P w K mg base "_law_size" ["_law_tree_here"] (k + n) (spLSize n)
  | 0 => by
    refine hd_vac D (fun _ _ _ _ _ _ us hl => match us, hl with | [_], _ => rfl) fun vs H Q E h => ?_
    obtain ⟨G, t, v, _, _, _, _, hd, _⟩ := h
    omega
  | n + 1 => by
    have h_law_size := hd_law_size D T n
    refine hd_mk (k := k + n) D sc_law_size (fun _ _ _ _ _ _ us hl => match us, hl with | [_], _ => rfl) (fun vs H Q E h => ?_) (fun f cdv A outer s H vs Q E hr h => ?_)
    · obtain ⟨G, t, v, rfl, _⟩ := h; rfl
    obtain ⟨G, t, v, rfl, sg, ht, hz, hd, q⟩ := h
    refine ⟨_, (pss_cons (ps_if (pt_val (pe_callB call_isi (by rfl) T.isinstance (by decide +kernel) (pa_cons (pv 0) (pa_cons (pe_bltn (v := .ty "str") (by rfl) T.str (by decide +kernel) rfl) pa_nil))))
      (pss_one (ps_ret (pe_lst (pa_cons pe_int (pa_cons pe_int pa_nil)))))
      pss_nil)
    (pss_cons (ps_set (i := 1) sc_law_size.nd rfl (Or.inl rfl) pe_int)
    (pss_cons (ps_set (i := 2) sc_law_size.nd rfl (Or.inl rfl) pe_int)
    (pss_cons (ps_for PassesOwn.never rfl (pi_list (pe_ix ix_tup (pv 0) pe_int (fun _ _ => rfl))) (pg_name (i := 3) sc_law_size.nd rfl (Or.inl rfl))
      (pss_cons (ps_set (i := 4) sc_law_size.nd rfl (Or.inl rfl) (pe_hd h_law_size hr rfl (pa_cons (pv 3) pa_nil)))
      (pss_cons (ps_set (i := 1) sc_law_size.nd rfl (Or.inl rfl) (pe_op op_add (pv 1) (pe_ix ix_list (pv 4) pe_int (fun _ _ => rfl))))
      (pss_one (ps_set (i := 2) sc_law_size.nd rfl (Or.inl rfl) (pe_callB (call_max2 rfl) (by rfl) T.max (by decide +kernel) (pa_cons (pv 2) (pa_cons (pe_op op_add (pe_ix ix_list (pv 4) pe_int (fun _ _ => rfl)) pe_int) pa_nil))))))))
    (pss_one (ps_ret (pe_lst (pa_cons (pv 1) (pa_cons (pv 2) pa_nil))))))))), ?_⟩
    obtain ⟨yy, ty, kt⟩ := ht.ty sg (K := K)
    refine ⟨_, rfl, _, _, _, _, _, rfl, .ty "str", ty, kt, _, rfl, ?_⟩
    cases t with
    | tx s =>
      exact iteT ⟨by show 2 ≤ sizeLine; decide, fun p np => q p _ (Same.up np) upd_same⟩
    | el m cs =>
      obtain ⟨a, lc, ws, rfl, h1, h2, h3⟩ := ht
      simp only [Tr.size] at hz
      simp only [Tr.depth] at hd
      have hwl := h3.len
      have hcl := sizes_len cs
      refine iteF ⟨_, rfl, a, _, _, _, rfl, rfl, SqT.of (sg _ _ h1), at_1, lc, rfl, ⟨_, SqL.of (sg _ _ h2)⟩, for_it walk_list (fun i σ H2 => ∃ (x3 x4 : Option V), σ = [some (.ref a), some (nV (1 + Tr.sizes (cs.take i))), some (nV (1 + Tr.depths (cs.take i))), x3, x4] ∧ Same H H2)
        ⟨none, none, rfl, Same.refl H⟩ (fun i σ H2 _ ⟨_, _, _, s2⟩ => SqL.of (s2 _ _ (sg _ _ h2))) ?_ ?_⟩
      · rintro i x σ H2 H3 hi ⟨x3, x4, rfl, s2⟩ ⟨rfl, hx⟩
        obtain ⟨c, hc, hcx⟩ := h3.at_ hx
        have hdc := depths_get hc
        have hzc := take_le hc
        refine ⟨_, rfl, G, c, x, rfl, sg.trans s2, hcx, by omega, by omega, fun p H4 s4 hp => ?_⟩
        refine ⟨_, rfl, _, rfl, p, _, _, _, rfl, rfl, SqL.of hp, at_0, ((1 + Tr.sizes (cs.take i) : Nat) : Int), ((c.size : Nat) : Int), rfl, rfl, ?_⟩
        refine ⟨_, rfl, _, rfl, p, _, _, _, rfl, rfl, SqL.of hp, atI_n rfl rfl, ((c.depth : Nat) : Int), 1, rfl, rfl, ((1 + Tr.depths (cs.take i) : Nat) : Int), ((c.depth : Nat) : Int) + 1, rfl, some x, some (.ref p), ?_, s2.trans s4⟩
        have e1 : ((1 + Tr.sizes (cs.take i) : Nat) : Int) + ((c.size : Nat) : Int) = ((1 + Tr.sizes (cs.take (i + 1)) : Nat) : Int) := by
          rw [List.take_add_one, hc, sizes_app]
          simp only [Option.toList, Tr.sizes]
          omega
        have e2 : (if ((c.depth : Nat) : Int) + 1 > ((1 + Tr.depths (cs.take i) : Nat) : Int) then ((c.depth : Nat) : Int) + 1 else ((1 + Tr.depths (cs.take i) : Nat) : Int)) = ((1 + Tr.depths (cs.take (i + 1)) : Nat) : Int) := by
          rw [List.take_add_one, hc, depths_app]
          simp only [Option.toList, Tr.depths]
          split <;> omega
        simp only [e1, e2]
        rfl
      · rintro σ H2 ⟨x3, x4, rfl, s2⟩
        rw [hwl, List.take_length]
        exact ⟨_, rfl, _, rfl, by show 2 ≤ sizeLine; decide, fun p np => q p _ (s2.trans (Same.up np)) upd_same⟩
theorem sc_law_is_tree : FnScope ["_law_tree_here", "_law_child"] ["_law_tree_here"] (defScope s_law_is_tree) := ⟨rfl, rfl, rfl, by decide +kernel, rfl, by decide +kernel, by decide +kernel⟩
theorem hd_law_is_tree (D : Df K mg "_law_is_tree" s_law_is_tree) (T : Tx K mg) (h_is_text : Hd P w K mg base "is_text" ["string"] k spTxt) (h_is_name : Hd P w K mg base "is_name" ["word"] k spNm) (h_law_apart : Hd P w K mg base "_law_apart" ["_law_children"] k spLApart) : ∀ n : Nat, Hd P w K mg base "_law_is_tree" ["_law_tree_here"] (k + n) (spLTr n)
  | 0 => by
    refine hd_vac D (fun _ _ _ _ _ _ us hl => match us, hl with | [_], _ => rfl) fun vs H Q E h => ?_
    obtain ⟨G, t, v, _, _, _, _, _, hd, _⟩ := h
    omega
  | n + 1 => by
    have h_law_is_tree := hd_law_is_tree D T h_is_text h_is_name h_law_apart n
    have h_is_text := h_is_text.mono (Nat.le_add_right k n)
    have h_is_name := h_is_name.mono (Nat.le_add_right k n)
    have h_law_apart := h_law_apart.mono (Nat.le_add_right k n)
    refine hd_mk (k := k + n) D sc_law_is_tree (fun _ _ _ _ _ _ us hl => match us, hl with | [_], _ => rfl) (fun vs H Q E h => ?_) (fun f cdv A outer s H vs Q E hr h => ?_)
    · obtain ⟨G, t, v, rfl, _⟩ := h; rfl
    obtain ⟨G, t, v, rfl, sg, ht, hf, hz, hd, q⟩ := h
    refine ⟨_, (pss_cons (ps_if (pt_val (pe_callB call_isi (by rfl) T.isinstance (by decide +kernel) (pa_cons (pv 0) (pa_cons (pe_bltn (v := .ty "str") (by rfl) T.str (by decide +kernel) rfl) pa_nil))))
      (pss_one (ps_ret (pe_hd h_is_text hr rfl (pa_cons (pv 0) pa_nil))))
      pss_nil)
    (pss_one (ps_ret (pe_and (pe_hd h_is_name hr rfl (pa_cons (pe_ix ix_tup (pv 0) pe_int (fun _ _ => rfl)) pa_nil)) (pe_and (pe_hd h_law_apart hr rfl (pa_cons (pe_ix ix_tup (pv 0) pe_int (fun _ _ => rfl)) pa_nil)) (pe_one (pe_cmpR op_notIn_seq pe_bl (pe_lc (own := [("_law_child", 1)]) (g := gName 1) (tt := tYes) rfl sc_law_is_tree.nd (pi_list (pe_ix ix_tup (pv 0) pe_int (fun _ _ => rfl))) (blkOk_by (own := [("_law_child", 1)]) (N := ["_law_tree_here", "_law_child"]) (sc := defScope s_law_is_tree) (by decide +kernel)) (fun _ _ _ _ _ => (pg_name (i := 1) sc_law_is_tree.nd rfl (Or.inl rfl))) (fun _ _ _ _ _ => pts_nil) (fun _ _ _ _ _ => (pe_hd h_law_is_tree hr rfl (pa_cons (pv 1) pa_nil)))) (by rfl)))))))), ?_⟩
    obtain ⟨yy, ty, kt⟩ := ht.ty sg (K := K)
    refine ⟨_, rfl, _, _, _, _, _, rfl, .ty "str", ty, kt, _, rfl, ?_⟩
    cases t with
    | tx s =>
      cases (show v = .str s from ht)
      refine iteT ⟨_, rfl, ?_⟩
      exact ⟨s, rfl, hf, fun H' s1 => q H' s1⟩
    | el m cs =>
      obtain ⟨a, lc, ws, rfl, h1, h2, h3⟩ := ht
      simp only [Tr.size] at hz
      simp only [Tr.depth] at hd
      have hwl := h3.len
      have hcl := sizes_len cs
      refine iteF ⟨_, rfl, a, _, _, _, rfl, rfl, SqT.of (sg _ _ h1), at_0, ?_⟩
      refine ⟨m, rfl, hf.1, fun H1 s1 => ⟨_, rfl, ?_⟩⟩
      cases hm : isNm m
      · have := q H1 s1
        rw [show (Tr.el m cs).good = false by simp only [Tr.good, hm, Bool.false_and]] at this
        exact iteF this
      refine iteT ⟨_, rfl, a, _, _, _, rfl, rfl, SqT.of (s1 _ _ (sg _ _ h1)), at_1, G, cs, lc, ws, rfl, sg.trans s1, s1 _ _ (sg _ _ h2), h3, by omega, fun H2 s2 => ⟨_, rfl, ?_⟩⟩
      have s12 := s1.trans s2
      cases hap : apart cs
      · have := q H2 s12
        rw [show (Tr.el m cs).good = false by simp only [Tr.good, hap, Bool.and_false, Bool.false_and]] at this
        exact iteF this
      have s02 := sg.trans s12
      refine iteT ⟨_, rfl, a, _, _, _, rfl, rfl, SqT.of (s02 _ _ h1), at_1, lc, rfl, ⟨_, SqL.of (s02 _ _ h2)⟩, fun D hD => lc_rel walk_list hD s02 (fun G1 H1 gr => SqL.of (gr.sub0 _ _ h2)) (fun i _ y => ∃ b, (cs.map Tr.good)[i]? = some b ∧ y = .bl b) (fun _ _ _ _ _ h => h) (by omega) ?_ ?_⟩
      · rintro i x G1 H3 H4 K' Z hi gr gD _ ⟨rfl, hx⟩ hK
        obtain ⟨c, hc, hcx⟩ := h3.at_ hx
        have hdc := depths_get hc
        have hzc := take_le hc
        exact ⟨rfl, ty_yes ⟨_, rfl, G1, c, x, rfl, gr.sub, hcx.mono gr.ext, fits_get hf.2 hc, by omega, by omega, fun H5 s5 => hK G1 H5 _ (.of gr.sub s5) ⟨c.good, by rw [List.getElem?_map, hc]; rfl, rfl⟩⟩⟩
      · intro G1 H3 ys gr hy gD hl hr
        have e : ys = (cs.map Tr.good).map V.bl := map_of (by rw [hl, List.length_map, hwl]) hr
        refine ⟨D, _, rfl, .inl (SqL.of hy), rfl, by rw [e]; simp [flatV], ?_⟩
        have := q H3 (s12.trans gr.same)
        rw [show (Tr.el m cs).good = Tr.goods cs by simp only [Tr.good, hm, hap, Bool.true_and]] at this
        rw [e, goods_in]
        exact this
end
end K5
set_option Elab.async false
set_option linter.all false
set_option maxRecDepth 100000
set_option maxHeartbeats 4000000
namespace K5
open PySem PySem.Spec PyProof.Rows L2
/-! ### how large, how deep and how good an edited tree is -/
theorem depths_set : ∀ {cs : List Tr} {j : Nat} {y : Tr}, Tr.depths (cs.set j y) ≤ max (Tr.depths cs) y.depth
  | [], j, y => by simp [Tr.depths]
  | c :: cs, 0, y => by simp only [List.set_cons_zero, Tr.depths]; omega
  | c :: cs, j + 1, y => by
    have := depths_set (cs := cs) (j := j) (y := y)
    simp only [List.set_cons_succ, Tr.depths]; omega
theorem put_depth : ∀ (w : Way) (t x : Tr), t.ok w → (t.put w x).depth ≤ max t.depth (w.length + x.depth)
  | [], t, x, _ => by rw [put_nil]; simp only [List.length_nil]; omega
  | j :: w, .tx s, x, h => by simp [Tr.ok, Tr.kids] at h
  | j :: w, .el m cs, x, h => by
    obtain ⟨hj, hw⟩ := h
    have hj : j < cs.length := hj
    have e : cs[j]? = some ((Tr.el m cs).ch j) := ch_get (t := .el m cs) hj
    have i := put_depth w ((Tr.el m cs).ch j) x hw
    have hd := depths_get e
    have := depths_set (cs := cs) (j := j) (y := ((Tr.el m cs).ch j).put w x)
    rw [put_cons]
    simp only [Tr.depth, List.length_cons]
    omega
theorem depths_app2 : ∀ (as bs : List Tr), Tr.depths (as ++ bs) = max (Tr.depths as) (Tr.depths bs)
  | [], bs => by simp [Tr.depths]
  | a :: as, bs => by simp only [List.cons_append, Tr.depths, depths_app2 as bs]; omega
theorem depths_take : ∀ (cs : List Tr) (i : Nat), Tr.depths (cs.take i) ≤ Tr.depths cs
  | [], i => by simp
  | c :: cs, 0 => by simp [Tr.depths]
  | c :: cs, i + 1 => by have := depths_take cs i; simp only [List.take_succ_cons, Tr.depths]; omega
theorem depths_drop : ∀ (cs : List Tr) (i : Nat), Tr.depths (cs.drop i) ≤ Tr.depths cs
  | [], i => by simp
  | c :: cs, 0 => by simp
  | c :: cs, i + 1 => by have := depths_drop cs i; simp only [List.drop_succ_cons, Tr.depths]; omega
theorem sizes_split (cs : List Tr) (i : Nat) : Tr.sizes (cs.take i) + Tr.sizes (cs.drop i) = Tr.sizes cs := by
  rw [← sizes_app, List.take_append_drop]
theorem sizes_drop_le : ∀ (cs : List Tr) (i j : Nat), i ≤ j → Tr.sizes (cs.drop j) ≤ Tr.sizes (cs.drop i)
  | [], i, j, _ => by simp
  | c :: cs, 0, 0, _ => Nat.le_refl _
  | c :: cs, 0, j + 1, _ => by have := sizes_drop_le cs 0 j (by omega); simp only [List.drop_succ_cons, List.drop_zero, Tr.sizes] at *; omega
  | c :: cs, i + 1, j + 1, h => by have := sizes_drop_le cs i j (by omega); simpa using this
def Ed.xs : Ed → Nat
  | .gra _ _ x => x.size
  | _ => 0
def Ed.xd : Ed → Nat
  | .gra _ _ x => x.depth
  | _ => 0
theorem doW_size {e : Ed} {t t' : Tr} (h : e.doW t t') : t'.size ≤ t.size + e.xs := by
  cases e with
  | ren k n =>
    obtain ⟨hk, m, cs, h1, h2, rfl⟩ := h
    have := (put_ok (t.wy k) t (.el n cs) (wy_ok (Nat.le_refl _) hk)).2.2.2.2.1
    rw [h1] at this
    simp only [Tr.size, Ed.xs] at *; omega
  | ret k s =>
    obtain ⟨hk, s0, h1, h2, rfl⟩ := h
    have := (put_ok (t.wy k) t (.tx s) (wy_ok (Nat.le_refl _) hk)).2.2.2.2.1
    rw [h1] at this
    simp only [Tr.size, Ed.xs] at *; omega
  | gra k p x =>
    obtain ⟨hk, m, cs, h1, h2, h3, h4, rfl⟩ := h
    have := (put_ok (t.wy k) t (.el m (ins cs p x)) (wy_ok (Nat.le_refl _) hk)).2.2.2.2.1
    rw [h1] at this
    have hs := sizes_split cs p
    have : Tr.sizes (ins cs p x) = Tr.sizes cs + x.size := by
      unfold ins
      rw [sizes_app, sizes_app]; simp only [Tr.sizes]; omega
    simp only [Tr.size, Ed.xs] at *; omega
  | cut k =>
    obtain ⟨hk, u, c, m, cs, h1, h2, h3, rfl⟩ := h
    have hok : t.ok (u ++ [c]) := h1 ▸ wy_ok (Nat.le_refl _) hk
    have := (put_ok u t (.el m (dl cs c)) ((ok_snoc t u c).mp hok).1).2.2.2.2.1
    rw [h2] at this
    have hs := sizes_split cs c
    have hs2 := sizes_drop_le cs c (c + 1) (by omega)
    have : Tr.sizes (dl cs c) ≤ Tr.sizes cs := by
      unfold dl
      rw [sizes_app]; omega
    simp only [Tr.size, Ed.xs] at *; omega
theorem go_depth : ∀ (w : Way) (t : Tr), t.ok w → (t.go w).depth + w.length ≤ t.depth
  | [], t, _ => Nat.le_refl _
  | j :: w, .tx s, h => by simp [Tr.ok, Tr.kids] at h
  | j :: w, .el m cs, h => by
    have := go_depth w _ h.2
    have hd := depths_get (ch_get (t := .el m cs) h.1)
    simp only [List.length_cons, Tr.depth]
    simp only [Tr.kids] at hd
    show (((Tr.el m cs).ch j).go w).depth + (w.length + 1) ≤ _
    omega
theorem doW_depth {e : Ed} {t t' : Tr} (h : e.doW t t') : t'.depth ≤ t.depth + e.xd := by
  cases e with
  | ren k n =>
    obtain ⟨hk, m, cs, h1, h2, rfl⟩ := h
    have ok := wy_ok (Nat.le_refl _) hk
    have := put_depth (t.wy k) t (.el n cs) ok
    have g := go_depth _ _ ok
    rw [h1] at g
    simp only [Tr.depth, Ed.xd] at *; omega
  | ret k s =>
    obtain ⟨hk, s0, h1, h2, rfl⟩ := h
    have ok := wy_ok (Nat.le_refl _) hk
    have := put_depth (t.wy k) t (.tx s) ok
    have g := go_depth _ _ ok
    rw [h1] at g
    simp only [Tr.depth, Ed.xd] at *; omega
  | gra k p x =>
    obtain ⟨hk, m, cs, h1, h2, h3, h4, rfl⟩ := h
    have ok := wy_ok (Nat.le_refl _) hk
    have := put_depth (t.wy k) t (.el m (ins cs p x)) ok
    have g := go_depth _ _ ok
    rw [h1] at g
    have h5 := depths_take cs p
    have h6 := depths_drop cs p
    have : Tr.depths (ins cs p x) ≤ max (Tr.depths cs) x.depth := by
      unfold ins
      rw [depths_app2, depths_app2]; simp only [Tr.depths]; omega
    simp only [Tr.depth, Ed.xd] at *; omega
  | cut k =>
    obtain ⟨hk, u, c, m, cs, h1, h2, h3, rfl⟩ := h
    have hok : t.ok (u ++ [c]) := h1 ▸ wy_ok (Nat.le_refl _) hk
    have ok := ((ok_snoc t u c).mp hok).1
    have := put_depth u t (.el m (dl cs c)) ok
    have g := go_depth _ _ ok
    rw [h2] at g
    have h5 := depths_take cs c
    have h6 := depths_drop cs (c + 1)
    have : Tr.depths (dl cs c) ≤ Tr.depths cs := by
      unfold dl
      rw [depths_app2]; omega
    simp only [Tr.depth, Ed.xd] at *; omega
theorem goods_mem : ∀ {cs : List Tr}, Tr.goods cs = true ↔ ∀ c ∈ cs, c.good = true
  | [] => by simp [Tr.goods]
  | c :: cs => by simp only [Tr.goods, Bool.and_eq_true, goods_mem (cs := cs), List.mem_cons, forall_eq_or_imp]
theorem goods_take {cs : List Tr} (h : Tr.goods cs = true) (i : Nat) : Tr.goods (cs.take i) = true := goods_mem.mpr fun c hc => goods_mem.mp h c (List.mem_of_mem_take hc)
theorem goods_drop {cs : List Tr} (h : Tr.goods cs = true) (i : Nat) : Tr.goods (cs.drop i) = true := goods_mem.mpr fun c hc => goods_mem.mp h c (List.mem_of_mem_drop hc)
theorem apart_set {cs : List Tr} {j : Nat} {c y : Tr} (h : cs[j]? = some c) (e : y.isTx = c.isTx) : apart (cs.set j y) = apart cs := by
  have hj := (List.getElem?_eq_some_iff.mp h).1
  have hg : ∀ i, ((cs.set j y).getD i (.tx Str.empty)).isTx = (cs.getD i (.tx Str.empty)).isTx := fun i => by
    rw [List.getD_eq_getElem?_getD, List.getD_eq_getElem?_getD]
    by_cases hi : j = i
    · rw [← hi, List.getElem?_set_self hj, h]; exact e
    · rw [List.getElem?_set_ne hi]
  unfold apart adj
  rw [List.length_set]
  congr 2
  exact List.map_congr_left fun i _ => by rw [hg, hg]
theorem put_good : ∀ (w : Way) (t x : Tr), t.ok w → t.good = true → x.good = true → x.isTx = (t.go w).isTx → (t.put w x).good = true ∧ (t.put w x).isTx = t.isTx
  | [], t, x, _, _, hx, e => by rw [put_nil]; exact ⟨hx, e⟩
  | j :: w, .tx s, x, h, _, _, _ => by simp [Tr.ok, Tr.kids] at h
  | j :: w, .el m cs, x, h, hg, hx, e => by
    obtain ⟨hj, hw⟩ := h
    have hj : j < cs.length := hj
    have hc : cs[j]? = some ((Tr.el m cs).ch j) := ch_get (t := .el m cs) hj
    simp only [Tr.good, Bool.and_eq_true] at hg
    obtain ⟨i1, i2⟩ := put_good w ((Tr.el m cs).ch j) x hw (good_kid hg.2 hc) hx e
    rw [put_cons]
    refine ⟨?_, rfl⟩
    simp only [Tr.good, apart_set hc i2, hg.1.1, hg.1.2, Bool.true_and]
    refine goods_mem.mpr fun c hc' => ?_
    rcases List.mem_or_eq_of_mem_set hc' with q | q
    · exact goods_mem.mp hg.2 c q
    · rw [q]; exact i1
theorem doW_good {e : Ed} {t t' : Tr} (h : e.doW t t') (hg : t.good = true) : t'.good = true ∧ t'.isTx = t.isTx := by
  cases e with
  | ren k n =>
    obtain ⟨hk, m, cs, h1, h2, rfl⟩ := h
    have ok := wy_ok (Nat.le_refl _) hk
    have g := good_go _ _ ok hg
    rw [h1] at g
    simp only [Tr.good, Bool.and_eq_true] at g
    exact put_good _ _ _ ok hg (by simp only [Tr.good, h2, g.1.2, g.2, Bool.and_self]) (by rw [h1]; rfl)
  | ret k s =>
    obtain ⟨hk, s0, h1, h2, rfl⟩ := h
    exact put_good _ _ _ (wy_ok (Nat.le_refl _) hk) hg h2 (by rw [h1]; rfl)
  | gra k p x =>
    obtain ⟨hk, m, cs, h1, h2, h3, h4, rfl⟩ := h
    have ok := wy_ok (Nat.le_refl _) hk
    have g := good_go _ _ ok hg
    rw [h1] at g
    simp only [Tr.good, Bool.and_eq_true] at g
    have : Tr.goods (ins cs p x) = true := by
      unfold ins
      rw [goods_app, goods_app, goods_take g.2, goods_drop g.2]; simp [Tr.goods, h3]
    exact put_good _ _ _ ok hg (by simp only [Tr.good, h4, g.1.1, this, Bool.and_self]) (by rw [h1]; rfl)
  | cut k =>
    obtain ⟨hk, u, c, m, cs, h1, h2, h3, rfl⟩ := h
    have hok : t.ok (u ++ [c]) := h1 ▸ wy_ok (Nat.le_refl _) hk
    have ok := ((ok_snoc t u c).mp hok).1
    have g := good_go _ _ ok hg
    rw [h2] at g
    simp only [Tr.good, Bool.and_eq_true] at g
    have : Tr.goods (dl cs c) = true := by
      unfold dl
      rw [goods_app, goods_take g.2, goods_drop g.2]; rfl
    exact put_good _ _ _ ok hg (by simp only [Tr.good, h3, g.1.1, this, Bool.and_self]) (by rw [h2]; rfl)
end K5
set_option Elab.async false
set_option linter.all false
set_option maxRecDepth 100000
set_option maxHeartbeats 4000000
namespace K5
open PySem PySem.Spec PyProof.Rows L2
/-! ### the law's own edit -/
def spLEdited (n : Nat) : Sp := fun vs H Q _ => ∃ (G : Hp) (t : Tr) (v : V) (e : Ed) (ev : V), vs = [v, ev] ∧ Same G H ∧ IsT G t v ∧ IsE G e ev ∧ e.fit ∧ t.size ≤ 5000 ∧ e.xs ≤ 5000 ∧ t.depth + e.xd < n ∧ e.k < t.size ∧ (∀ s H', Same H H' → Q (.str s) H') ∧ ∀ G' t' v' H', Gr W0 G H G' H' → IsT G' t' v' → e.doW t t' → Q v' H'
section
variable {P : Program} {w : World} {K : PySem.W.Frag} {mg : Str → Option Value} {base : Heap} {k : Nat}
theorem sc_law_edited : FnScope ["_law_tree_here", "_law_edit_here", "_law_paths_here", "_law_path", "_law_here", "_law_word", "_law_above", "_law_at_here", "_law_children", "_law_made", "_law_size_here"] ["_law_tree_here", "_law_edit_here"] (defScope s_law_edited) := ⟨rfl, rfl, rfl, by decide +kernel, rfl, by decide +kernel, by decide +kernel⟩
theorem hd_law_edited (D : Df K mg "_law_edited" s_law_edited) (T : Tx K mg) (n : Nat) (h_law_paths : Hd P w K mg base "_law_paths" ["_law_tree_here"] k (spLPaths n)) (h_law_at : Hd P w K mg base "_law_at" ["_law_tree_here", "_law_path"] k spLAt) (h_law_apart : Hd P w K mg base "_law_apart" ["_law_children"] k spLApart)
    (h_law_put : Hd P w K mg base "_law_put" ["_law_tree_here", "_law_path", "_law_new"] k (spLPut n)) (h_is_name : Hd P w K mg base "is_name" ["word"] k spNm) (h_is_text : Hd P w K mg base "is_text" ["string"] k spTxt) (h_law_is_tree : Hd P w K mg base "_law_is_tree" ["_law_tree_here"] k (spLTr n)) (h_law_size : Hd P w K mg base "_law_size" ["_law_tree_here"] k (spLSize n)) :
    Hd P w K mg base "_law_edited" ["_law_tree_here", "_law_edit_here"] (k + 1) (spLEdited n) := by
  refine hd_mk D sc_law_edited (fun _ _ _ _ _ _ us hl => match us, hl with | [_, _], _ => rfl) (fun vs H Q E h => ?_) (fun f cdv A outer s H vs Q E hr h => ?_)
  · obtain ⟨G, t, v, e, ev, rfl, _⟩ := h; rfl
  obtain ⟨G, t, v, e, ev, rfl, sg, ht, he, hf, hz, hxs, hd, hk, qs, qt⟩ := h
  refine ⟨_, (pss_cons (ps_set (i := 2) sc_law_edited.nd rfl (Or.inl rfl) (pe_hd h_law_paths hr rfl (pa_cons (pv 0) pa_nil)))
  (pss_cons (ps_if (pt_not (pt_chain op_le op_lt pe_int (pe_ix ix_tup (pv 1) pe_int (fun _ _ => rfl)) (pe_callB call_len_seq (by rfl) T.len (by decide +kernel) (pa_cons (pv 2) pa_nil))))
    (pss_one (ps_ret pe_str))
    pss_nil)
  (pss_cons (ps_set (i := 3) sc_law_edited.nd rfl (Or.inl rfl) (pe_ix ix_list (pv 2) (pe_ix ix_tup (pv 1) pe_int (fun _ _ => rfl)) (fun _ _ => rfl)))
  (pss_cons (ps_set (i := 4) sc_law_edited.nd rfl (Or.inl rfl) (pe_hd h_law_at hr rfl (pa_cons (pv 0) (pa_cons (pv 3) pa_nil))))
  (pss_cons (ps_set (i := 5) sc_law_edited.nd rfl (Or.inl rfl) (pe_ix ix_tup (pv 1) pe_int (fun _ _ => rfl)))
  (pss_cons (ps_if (PW.pt (pw_or (PW.pt (pw_and (pt_cmpR op_in_seq (pv 5) (pe_lst (pa_cons pe_str (pa_cons pe_str pa_nil))) (by rfl)) (pw_and1 (pt_val (pe_callB call_isi (by rfl) T.isinstance (by decide +kernel) (pa_cons (pv 4) (pa_cons (pe_bltn (v := .ty "str") (by rfl) T.str (by decide +kernel) rfl) pa_nil))))))) (pw_or1 (PW.pt (pw_and (pt_cmpR op_eq (pv 5) pe_str (nomark _)) (pw_and1 (pt_not (pt_val (pe_callB call_isi (by rfl) T.isinstance (by decide +kernel) (pa_cons (pv 4) (pa_cons (pe_bltn (v := .ty "str") (by rfl) T.str (by decide +kernel) rfl) pa_nil)))))))))))
    (pss_one (ps_ret pe_str))
    pss_nil)
  (pss_cons (ps_if (pt_cmpR op_eq (pv 5) pe_str (nomark _))
    (pss_cons (ps_if (pt_cmpR op_eq (pe_callB call_len_seq (by rfl) T.len (by decide +kernel) (pa_cons (pv 3) pa_nil)) pe_int (nomark _))
      (pss_one (ps_ret pe_str))
      pss_nil)
    (pss_cons (ps_set (i := 6) sc_law_edited.nd rfl (Or.inl rfl) (pe_hd h_law_at hr rfl (pa_cons (pv 0) (pa_cons (pe_slice sl_list (pv 3) po_none (po_some (pe_op op_sub (pe_callB call_len_seq (by rfl) T.len (by decide +kernel) (pa_cons (pv 3) pa_nil)) pe_int))) pa_nil))))
    (pss_cons (ps_set (i := 7) sc_law_edited.nd rfl (Or.inl rfl) (pe_ix ix_list (pv 3) (pe_op op_sub (pe_callB call_len_seq (by rfl) T.len (by decide +kernel) (pa_cons (pv 3) pa_nil)) pe_int) (fun _ _ => rfl)))
    (pss_cons (ps_set (i := 8) sc_law_edited.nd rfl (Or.inl rfl) (pe_op op_cat (pe_slice sl_list (pe_ix ix_tup (pv 6) pe_int (fun _ _ => rfl)) po_none (po_some (pv 7))) (pe_slice sl_list (pe_ix ix_tup (pv 6) pe_int (fun _ _ => rfl)) (po_some (pe_op op_add (pv 7) pe_int)) po_none)))
    (pss_cons (ps_if (pt_not (pt_val (pe_hd h_law_apart hr rfl (pa_cons (pv 8) pa_nil))))
      (pss_one (ps_ret pe_str))
      pss_nil)
    (pss_one (ps_ret (pe_hd h_law_put hr rfl (pa_cons (pv 0) (pa_cons (pe_slice sl_list (pv 3) po_none (po_some (pe_op op_sub (pe_callB call_len_seq (by rfl) T.len (by decide +kernel) (pa_cons (pv 3) pa_nil)) pe_int))) (pa_cons (pe_tup (pa_cons (pe_ix ix_tup (pv 6) pe_int (fun _ _ => rfl)) (pa_cons (pv 8) pa_nil))) pa_nil)))))))))))
    pss_nil)
  (pss_cons (ps_if (pt_cmpR op_eq (pv 5) pe_str (nomark _))
    (pss_cons (ps_if (pt_not (pt_val (pe_hd h_is_name hr rfl (pa_cons (pe_ix ix_tup (pv 1) pe_int (fun _ _ => rfl)) pa_nil))))
      (pss_one (ps_ret pe_str))
      pss_nil)
    (pss_one (ps_ret (pe_hd h_law_put hr rfl (pa_cons (pv 0) (pa_cons (pv 3) (pa_cons (pe_tup (pa_cons (pe_ix ix_tup (pv 1) pe_int (fun _ _ => rfl)) (pa_cons (pe_ix ix_tup (pv 4) pe_int (fun _ _ => rfl)) pa_nil))) pa_nil)))))))
    pss_nil)
  (pss_cons (ps_if (pt_cmpR op_eq (pv 5) pe_str (nomark _))
    (pss_cons (ps_if (pt_not (pt_val (pe_hd h_is_text hr rfl (pa_cons (pe_ix ix_tup (pv 1) pe_int (fun _ _ => rfl)) pa_nil))))
      (pss_one (ps_ret pe_str))
      pss_nil)
    (pss_one (ps_ret (pe_hd h_law_put hr rfl (pa_cons (pv 0) (pa_cons (pv 3) (pa_cons (pe_ix ix_tup (pv 1) pe_int (fun _ _ => rfl)) pa_nil)))))))
    pss_nil)
  (pss_cons (ps_if (pt_not (pt_chain op_le op_le pe_int (pe_ix ix_tup (pv 1) pe_int (fun _ _ => rfl)) (pe_callB call_len_seq (by rfl) T.len (by decide +kernel) (pa_cons (pe_ix ix_tup (pv 4) pe_int (fun _ _ => rfl)) pa_nil))))
    (pss_one (ps_ret pe_str))
    pss_nil)
  (pss_cons (ps_if (pt_not (pt_val (pe_hd h_law_is_tree hr rfl (pa_cons (pe_ix ix_tup (pv 1) pe_int (fun _ _ => rfl)) pa_nil))))
    (pss_one (ps_ret pe_str))
    pss_nil)
  (pss_cons (ps_set (i := 8) sc_law_edited.nd rfl (Or.inl rfl) (pe_op op_cat (pe_op op_cat (pe_slice sl_list (pe_ix ix_tup (pv 4) pe_int (fun _ _ => rfl)) po_none (po_some (pe_ix ix_tup (pv 1) pe_int (fun _ _ => rfl)))) (pe_lst (pa_cons (pe_ix ix_tup (pv 1) pe_int (fun _ _ => rfl)) pa_nil))) (pe_slice sl_list (pe_ix ix_tup (pv 4) pe_int (fun _ _ => rfl)) (po_some (pe_ix ix_tup (pv 1) pe_int (fun _ _ => rfl))) po_none)))
  (pss_cons (ps_if (pt_not (pt_val (pe_hd h_law_apart hr rfl (pa_cons (pv 8) pa_nil))))
    (pss_one (ps_ret pe_str))
    pss_nil)
  (pss_cons (ps_set (i := 9) sc_law_edited.nd rfl (Or.inl rfl) (pe_hd h_law_put hr rfl (pa_cons (pv 0) (pa_cons (pv 3) (pa_cons (pe_tup (pa_cons (pe_ix ix_tup (pv 4) pe_int (fun _ _ => rfl)) (pa_cons (pv 8) pa_nil))) pa_nil)))))
  (pss_cons (ps_set (i := 10) sc_law_edited.nd rfl (Or.inl rfl) (pe_hd h_law_size hr rfl (pa_cons (pv 9) pa_nil)))
  (pss_cons (ps_if (PW.pt (pw_or (pt_cmpR op_gt (pe_ix ix_list (pv 10) pe_int (fun _ _ => rfl)) pe_int (nomark _)) (pw_or1 (pt_cmpR op_gt (pe_ix ix_list (pv 10) pe_int (fun _ _ => rfl)) pe_int (nomark _)))))
    (pss_one (ps_ret pe_str))
    pss_nil)
  (pss_one (ps_ret (pv 9))))))))))))))))))), ?_⟩
  obtain ⟨a, r, rfl, ha, hrs⟩ := id he
  have hwl := wy_len (Nat.le_refl _) hk
  have hok : t.ok (t.wy e.k) := wy_ok (Nat.le_refl _) hk
  refine ⟨_, rfl, G, t, v, rfl, sg, ht, by omega, by omega, fun G1 p1 ps H1 g1 hp1 hw1 => ?_⟩
  have hpl := hw1.len
  rw [pre_len] at hpl
  obtain ⟨lw, hlw, hwy⟩ := hw1.get (pre_wy _ t e.k (Nat.le_refl _) hk)
  have ha1 := g1.ext _ _ ha
  have ht1 := ht.mono g1.ext
  refine ⟨_, rfl, a, _, _, _, rfl, rfl, SqT.of (g1.sub _ _ ha1), at_1, _, _, rfl, rfl, _, rfl, ?_⟩
  rw [show decide ((0 : Int) ≤ (e.k : Int)) = true by simp]
  refine iteT ⟨_, rfl, p1, _, rfl, .inl (SqL.of hp1), _, _, rfl, rfl, _, rfl, ?_⟩
  rw [show decide ((e.k : Int) < (ps.length : Int)) = true from decide_eq_true (by omega)]
  refine iteF ⟨_, rfl, _, rfl, a, _, _, _, rfl, rfl, SqT.of (g1.sub _ _ ha1), at_1, p1, ps, _, .ref lw, rfl, rfl, SqL.of hp1, atI_n rfl hlw, ?_⟩
  refine ⟨_, rfl, _, rfl, G1, t, v, t.wy e.k, lw, rfl, g1.sub, ht1, g1.sub _ _ hwy, hok, fun hv hhv => ?_⟩
  refine ⟨_, rfl, a, _, _, _, rfl, rfl, SqT.of (g1.sub _ _ ha1), at_0, ?_⟩
  refine ⟨_, rfl, by show 2 ≤ sizeLine; decide, fun p2 np2 => ⟨p2, _, rfl, .inl (SqL.of upd_same), rfl, by decide +kernel, _, rfl, ?_⟩⟩
  have e2 : Gr W0 G1 H1 G1 (upd H1 p2 (.lst [.str "rename", .str "graft"])) := .alloc g1.sub np2
  generalize upd H1 p2 (.lst [.str "rename", .str "graft"]) = H2 at *
  clear hp1 np2
  obtain ⟨yy, ty, kt⟩ := hhv.ty e2.sub (K := K)
  generalize hu : t.go (t.wy e.k) = u at hhv kt
  cases e with
  | ren i nn =>
    cases (show r = [.str nn] from hrs)
    rw [show inV (.str (Ed.ren i nn).word) [.str "rename", .str "graft"] = true from (by decide +kernel : inV (.str ("rename" : Str)) [.str "rename", .str "graft"] = true)]
    refine iteT ⟨_, rfl, _, _, _, _, _, rfl, .ty "str", ty, kt, _, rfl, ?_⟩
    cases u with
    | tx s => exact iteT (iteT (qs _ _ (g1.trans e2).same))
    | el m cs =>
      refine iteF ⟨_, rfl, rfl, _, rfl, ?_⟩
      rw [show decide (V.str (Ed.ren i nn).word = V.str "retext") = false from (by decide +kernel : decide (V.str ("rename" : Str) = V.str "retext") = false)]
      refine iteF (iteF ⟨_, rfl, rfl, _, rfl, ?_⟩)
      rw [show decide (V.str (Ed.ren i nn).word = V.str "cut") = false from (by decide +kernel : decide (V.str ("rename" : Str) = V.str "cut") = false)]
      refine iteF ⟨_, rfl, rfl, _, rfl, ?_⟩
      rw [show decide (V.str (Ed.ren i nn).word = V.str "rename") = true from (by decide +kernel : decide (V.str ("rename" : Str) = V.str "rename") = true)]
      refine iteT ⟨_, rfl, a, _, _, _, rfl, rfl, SqT.of (e2.sub _ _ ha1), rfl, nn, rfl, hf, fun H3 s3 => ⟨_, rfl, ?_⟩⟩
      have e3 : Gr W0 G1 H1 G1 H3 := e2.trans (.of e2.sub s3)
      cases hn : isNm nn
      · exact iteT (qs _ _ (g1.trans e3).same)
      obtain ⟨b, lc, ws, rfl, k1, k2, k3⟩ := hhv
      refine iteF ⟨_, rfl, _, rfl, _, rfl, a, _, _, _, rfl, rfl, SqT.of (e3.sub _ _ ha1), rfl, _, rfl, b, _, _, _, rfl, rfl, SqT.of (e3.sub _ _ k1), rfl, by show 2 ≤ sizeLine; decide, fun p np => ?_⟩
      have e4 := (e3.al (o := .tup [.str nn, .ref lc]) np).frz (e3.dom p np) upd_same
      exact ⟨_, t, .el nn cs, v, .ref p, _, lw, rfl, e4.sub, ht1.mono e4.ext, by omega, e4.sub0 _ _ hwy, hok, by omega, ⟨p, lc, ws, rfl, upd_same, e4.ext _ _ k2, k3.mono e4.ext⟩, fun G' v' H' g5 h5 => qt G' _ v' H' (g1.trans (e4.trans g5)) h5 ⟨hk, m, cs, hu, hn, rfl⟩⟩
  | ret i z =>
    cases (show r = [.str z] from hrs)
    rw [show inV (.str (Ed.ret i z).word) [.str "rename", .str "graft"] = false from (by decide +kernel : inV (.str ("retext" : Str)) [.str "rename", .str "graft"] = false)]
    refine iteF (iteF ⟨_, rfl, rfl, _, rfl, ?_⟩)
    rw [show decide (V.str (Ed.ret i z).word = V.str "retext") = true from (by decide +kernel : decide (V.str ("retext" : Str) = V.str "retext") = true)]
    refine iteT ⟨_, rfl, _, _, _, _, _, rfl, .ty "str", ty, kt, _, rfl, ?_⟩
    cases u with
    | el m cs => exact iteT (qs _ _ (g1.trans e2).same)
    | tx s =>
      refine iteF ⟨_, rfl, rfl, _, rfl, ?_⟩
      rw [show decide (V.str (Ed.ret i z).word = V.str "cut") = false from (by decide +kernel : decide (V.str ("retext" : Str) = V.str "cut") = false)]
      refine iteF ⟨_, rfl, rfl, _, rfl, ?_⟩
      rw [show decide (V.str (Ed.ret i z).word = V.str "rename") = false from (by decide +kernel : decide (V.str ("retext" : Str) = V.str "rename") = false)]
      refine iteF ⟨_, rfl, rfl, _, rfl, ?_⟩
      rw [show decide (V.str (Ed.ret i z).word = V.str "retext") = true from (by decide +kernel : decide (V.str ("retext" : Str) = V.str "retext") = true)]
      refine iteT ⟨_, rfl, a, _, _, _, rfl, rfl, SqT.of (e2.sub _ _ ha1), rfl, z, rfl, hf, fun H3 s3 => ⟨_, rfl, ?_⟩⟩
      have e3 : Gr W0 G1 H1 G1 H3 := e2.trans (.of e2.sub s3)
      cases hn : isTxt z
      · exact iteT (qs _ _ (g1.trans e3).same)
      exact iteF ⟨_, rfl, _, rfl, _, rfl, a, _, _, _, rfl, rfl, SqT.of (e3.sub _ _ ha1), rfl, _, t, .tx z, v, .str z, _, lw, rfl, e3.sub, ht1, by omega, e3.sub0 _ _ hwy, hok, by omega, rfl, fun G' v' H' g5 h5 => qt G' _ v' H' (g1.trans (e3.trans g5)) h5 ⟨hk, s, hu, hn, rfl⟩⟩
  | gra i p x =>
    obtain ⟨xv, hrv, hx⟩ := hrs
    cases hrv
    have hx1 := hx.mono g1.ext
    simp only [Ed.xs, Ed.xd] at hxs hd
    rw [show inV (.str (Ed.gra i p x).word) [.str "rename", .str "graft"] = true from (by decide +kernel : inV (.str ("graft" : Str)) [.str "rename", .str "graft"] = true)]
    refine iteT ⟨_, rfl, _, _, _, _, _, rfl, .ty "str", ty, kt, _, rfl, ?_⟩
    cases u with
    | tx s => exact iteT (iteT (qs _ _ (g1.trans e2).same))
    | el m cs =>
      refine iteF ⟨_, rfl, rfl, _, rfl, ?_⟩
      rw [show decide (V.str (Ed.gra i p x).word = V.str "retext") = false from (by decide +kernel : decide (V.str ("graft" : Str) = V.str "retext") = false)]
      refine iteF (iteF ⟨_, rfl, rfl, _, rfl, ?_⟩)
      rw [show decide (V.str (Ed.gra i p x).word = V.str "cut") = false from (by decide +kernel : decide (V.str ("graft" : Str) = V.str "cut") = false)]
      refine iteF ⟨_, rfl, rfl, _, rfl, ?_⟩
      rw [show decide (V.str (Ed.gra i p x).word = V.str "rename") = false from (by decide +kernel : decide (V.str ("graft" : Str) = V.str "rename") = false)]
      refine iteF ⟨_, rfl, rfl, _, rfl, ?_⟩
      rw [show decide (V.str (Ed.gra i p x).word = V.str "retext") = false from (by decide +kernel : decide (V.str ("graft" : Str) = V.str "retext") = false)]
      obtain ⟨b, lc, ws, rfl, k1, k2, k3⟩ := hhv
      have hwl2 := k3.len
      have hcl := sizes_len cs
      have hug := put_ok _ t (.tx Str.empty) hok
      have hus : (Tr.el m cs).size ≤ 5000 := by
        have := hug.2.2.2.2.1
        rw [hu] at this
        simp only [Tr.size] at *
        have : 1 ≤ (t.put (t.wy (Ed.gra i p x).k) (.tx Str.empty)).size := Tr.size_pos _
        omega
      simp only [Tr.size] at hus
      refine iteF ⟨_, rfl, a, _, _, _, rfl, rfl, SqT.of (e2.sub _ _ ha1), rfl, _, _, rfl, rfl, _, rfl, ?_⟩
      rw [show decide ((0 : Int) ≤ (p : Int)) = true by simp]
      refine iteT ⟨_, rfl, b, _, _, _, rfl, rfl, SqT.of (e2.sub _ _ k1), rfl, lc, _, rfl, .inl (SqL.of (e2.sub _ _ k2)), _, _, rfl, rfl, _, rfl, ?_⟩
      rcases Nat.lt_or_ge cs.length p with hpl2 | hpl2
      · rw [show decide ((p : Int) ≤ (ws.length : Int)) = false from decide_eq_false (by omega)]
        exact iteT (qs _ _ (g1.trans e2).same)
      have hpl2 : p ≤ cs.length := hpl2
      rw [show decide ((p : Int) ≤ (ws.length : Int)) = true from decide_eq_true (by omega)]
      have hpw : p ≤ ws.length := by omega
      refine iteF ⟨_, rfl, a, _, _, _, rfl, rfl, SqT.of (e2.sub _ _ ha1), rfl, G1, x, xv, rfl, e2.sub, hx1, hf.2, by omega, by omega, fun H3 s3 => ⟨_, rfl, ?_⟩⟩
      have e3 : Gr W0 G1 H1 G1 H3 := e2.trans (.of e2.sub s3)
      cases hxg : x.good
      · exact iteT (qs _ _ (g1.trans e3).same)
      refine iteF ⟨_, rfl, b, _, _, _, rfl, rfl, SqT.of (e3.sub _ _ k1), rfl, _, rfl, a, _, _, _, rfl, rfl, SqT.of (e3.sub _ _ ha1), rfl, _, rfl, lc, ws, rfl, SqL.of (e3.sub _ _ k2), fun q1 n1 => ?_⟩
      rw [cut_to hpw]
      have e4 := e3.al (o := .lst (ws.take p)) n1
      refine ⟨_, rfl, a, _, _, _, rfl, rfl, SqT.of (e4.sub _ _ ha1), rfl, by show 1 ≤ sizeLine; decide, fun q2 n2 => ?_⟩
      have e5 := e4.al (o := .lst [xv]) n2
      have e12 : q1 ≠ q2 := ne_of_none upd_same n2
      refine ⟨q1, q2, _, _, rfl, rfl, by rw [upd_ne e12, upd_same], upd_same, small (by rw [List.length_take, List.length_singleton]; omega), fun q3 n3 => ?_⟩
      have e6 := e5.al (o := .lst (ws.take p ++ [xv])) n3
      refine ⟨_, rfl, b, _, _, _, rfl, rfl, SqT.of (e6.sub _ _ k1), rfl, _, rfl, a, _, _, _, rfl, rfl, SqT.of (e6.sub _ _ ha1), rfl, _, rfl, lc, ws, rfl, SqL.of (e6.sub _ _ k2), fun q4 n4 => ?_⟩
      rw [cut_from hpw]
      have e7 := e6.al (o := .lst (ws.drop p)) n4
      have e34 : q3 ≠ q4 := ne_of_none upd_same n4
      refine ⟨q3, q4, _, _, rfl, rfl, by rw [upd_ne e34, upd_same], upd_same, small (by rw [List.length_append, List.length_take, List.length_drop, List.length_singleton]; omega), fun q5 n5 => ?_⟩
      have e8 := e7.al (o := .lst (ws.take p ++ [xv] ++ ws.drop p)) n5
      have hil := ins_len (cs := cs) (p := p) (x := x)
      refine ⟨_, rfl, G1, ins cs p x, q5, _, rfl, e8.sub, upd_same, k3.ins p hx1, by omega, fun H6 s6 => ⟨_, rfl, ?_⟩⟩
      have e9 := e8.trans (.of e8.sub s6)
      have h5 : H6 q5 = some (.lst (ws.take p ++ [xv] ++ ws.drop p)) := s6 _ _ upd_same
      cases hap : apart (ins cs p x)
      · exact iteT (qs _ _ (g1.trans e9).same)
      refine iteF ⟨_, rfl, _, rfl, _, rfl, b, _, _, _, rfl, rfl, SqT.of (e9.sub _ _ k1), rfl, _, rfl, by show 2 ≤ sizeLine; decide, fun p6 n6 => ?_⟩
      have e56 : q5 ≠ p6 := ne_of_none h5 n6
      obtain ⟨G2, e10, hx9, s9⟩ := (e9.al (o := .tup [.str m, .ref q5]) n6).elem (cs := ins cs p x) (e9.dom p6 n6) (e7.dom q5 n5) upd_same (by rw [upd_ne e56]; exact h5) (k3.ins p hx1)
      refine ⟨_, t, _, v, .ref p6, _, lw, rfl, e10.sub, ht1.mono e10.ext, by omega, e10.sub0 _ _ hwy, hok, by omega, hx9, fun G' v' H' g5 h5 => ?_⟩
      have hdo : (Ed.gra i p x).doW t (t.put (t.wy i) (.el m (ins cs p x))) := ⟨hk, m, cs, hu, hpl2, hxg, hap, rfl⟩
      have z1 := doW_size hdo
      have z2 := doW_depth hdo
      simp only [Ed.xs, Ed.xd] at z1 z2
      have e11 := e10.trans g5
      refine ⟨_, rfl, G', _, v', rfl, g5.sub, h5, by show Tr.size (t.put (t.wy i) _) ≤ _; omega, by show Tr.depth (t.put (t.wy i) _) < _; omega, fun p8 H8 s8 hp8 => ?_⟩
      have e12 := e11.trans (.of e11.sub s8)
      have fin := qt G' _ v' H8 (g1.trans e12) h5 hdo
      refine ⟨_, rfl, p8, _, _, _, rfl, rfl, SqL.of hp8, at_0, _, _, rfl, rfl, _, rfl, ite_both (iteT (qs _ _ (g1.trans e12).same)) ⟨_, rfl, p8, _, _, _, rfl, rfl, SqL.of hp8, atI_n rfl rfl, _, _, rfl, rfl, _, rfl, ite_both (qs _ _ (g1.trans e12).same) ⟨_, rfl, fin⟩⟩⟩
  | cut i =>
    cases (show r = [] from hrs)
    rw [show inV (.str (Ed.cut i).word) [.str "rename", .str "graft"] = false from (by decide +kernel : inV (.str ("cut" : Str)) [.str "rename", .str "graft"] = false)]
    refine iteF (iteF ⟨_, rfl, rfl, _, rfl, ?_⟩)
    rw [show decide (V.str (Ed.cut i).word = V.str "retext") = false from (by decide +kernel : decide (V.str ("cut" : Str) = V.str "retext") = false)]
    refine iteF (iteF ⟨_, rfl, rfl, _, rfl, ?_⟩)
    rw [show decide (V.str (Ed.cut i).word = V.str "cut") = true from (by decide +kernel : decide (V.str ("cut" : Str) = V.str "cut") = true)]
    have hlw2 := e2.sub0 _ _ hwy
    refine iteT ⟨_, rfl, lw, _, rfl, .inl (SqL.of hlw2), rfl, _, rfl, ?_⟩
    have hk' : i < t.size := hk
    have hwy' : G1 lw = some (.lst (vN (t.wy i))) := hwy
    have hok' : t.ok (t.wy i) := hok
    have hwl' : (t.wy i).length < t.depth := hwl
    rw [show t.wy (Ed.cut i).k = t.wy i from rfl] at *
    generalize hw : t.wy i = wy at *
    rcases List.eq_nil_or_concat wy with rfl | ⟨u', c, rfl⟩
    · exact iteT (qs _ _ (g1.trans e2).same)
    rw [List.concat_eq_append] at *
    have hul : (vN (u' ++ [c])).length = u'.length + 1 := by simp
    rw [show decide (V.int (((vN (u' ++ [c])).length : Nat) : Int) = V.int 0) = false from decide_eq_false fun z => by injection z with z; omega]
    obtain ⟨hoku, hc⟩ := (ok_snoc t u' c).mp hok'
    have hlast : atI (vN (u' ++ [c])) ((((vN (u' ++ [c])).length : Nat) : Int) - 1) = some (nV c) := atI_n (j := u'.length) (by omega) (by simp)
    have hcut : (vN (u' ++ [c])).take u'.length = vN u' := by simp
    refine iteF ⟨_, rfl, _, rfl, _, rfl, lw, _, rfl, .inl (SqL.of hlw2), _, 1, rfl, rfl, _, rfl, lw, _, rfl, SqL.of hlw2, fun q1 n1 => ?_⟩
    have hidx : (((vN (u' ++ [c])).length : Nat) : Int) - 1 = ((u'.length : Nat) : Int) := by omega
    simp only [hidx]
    rw [cut_to (show u'.length ≤ (vN (u' ++ [c])).length by omega), hcut]
    have e3 := e2.al (o := .lst (vN u')) n1
    refine ⟨G1, t, v, u', q1, rfl, e3.sub, ht1, upd_same, hoku, fun av hav => ?_⟩
    cases hgo : t.go u' with
    | tx s => rw [hgo] at hc; simp [Tr.kids] at hc
    | el m cs =>
      rw [hgo] at hc hav
      have hc : c < cs.length := hc
      obtain ⟨b, lc, ws, rfl, k1, k2, k3⟩ := hav
      have hwl2 := k3.len
      have hcl := sizes_len cs
      have hug := put_ok u' t (.tx Str.empty) hoku
      have hus : (Tr.el m cs).size ≤ 5000 := by
        have := hug.2.2.2.2.1
        rw [hgo] at this
        simp only [Tr.size] at *
        have : 1 ≤ (t.put u' (.tx Str.empty)).size := Tr.size_pos _
        omega
      simp only [Tr.size] at hus
      refine ⟨_, rfl, _, rfl, lw, _, rfl, .inl (SqL.of (e3.sub0 _ _ hwy')), _, 1, rfl, rfl, lw, _, _, nV c, rfl, rfl, SqL.of (e3.sub0 _ _ hwy'), hlast, ?_⟩
      refine ⟨_, rfl, b, _, _, _, rfl, rfl, SqT.of (e3.sub _ _ k1), rfl, _, rfl, _, rfl, lc, ws, rfl, SqL.of (e3.sub _ _ k2), fun q2 n2 => ?_⟩
      rw [cut_to (show c ≤ ws.length by omega)]
      have e4 := e3.al (o := .lst (ws.take c)) n2
      refine ⟨_, rfl, b, _, _, _, rfl, rfl, SqT.of (e4.sub _ _ k1), rfl, _, rfl, _, _, rfl, rfl, _, rfl, lc, ws, rfl, SqL.of (e4.sub _ _ k2), fun q3 n3 => ?_⟩
      rw [show ((c : Nat) : Int) + 1 = ((c + 1 : Nat) : Int) by omega, cut_from (show c + 1 ≤ ws.length by omega)]
      have e5 := e4.al (o := .lst (ws.drop (c + 1))) n3
      have e12 : q2 ≠ q3 := ne_of_none upd_same n3
      refine ⟨q2, q3, _, _, rfl, rfl, by rw [upd_ne e12, upd_same], upd_same, small (by rw [List.length_take, List.length_drop]; omega), fun q4 n4 => ?_⟩
      have e6 := e5.al (o := .lst (ws.take c ++ ws.drop (c + 1))) n4
      have hdl := dl_len (cs := cs) (c := c)
      refine ⟨_, rfl, G1, dl cs c, q4, _, rfl, e6.sub, upd_same, k3.dl c, by omega, fun H6 s6 => ⟨_, rfl, ?_⟩⟩
      have e7 := e6.trans (.of e6.sub s6)
      have h3 : H6 q4 = some (.lst (ws.take c ++ ws.drop (c + 1))) := s6 _ _ upd_same
      cases hap : apart (dl cs c)
      · exact iteT (qs _ _ (g1.trans e7).same)
      refine iteF ⟨_, rfl, _, rfl, _, rfl, lw, _, rfl, .inl (SqL.of (e7.sub0 _ _ hwy')), _, 1, rfl, rfl, _, rfl, lw, _, rfl, SqL.of (e7.sub0 _ _ hwy'), fun q5 n5 => ?_⟩
      simp only [hidx]
      rw [cut_to (show u'.length ≤ (vN (u' ++ [c])).length by omega), hcut]
      have e8 := e7.al (o := .lst (vN u')) n5
      have h3b : upd H6 q5 (.lst (vN u')) q4 = some (.lst (ws.take c ++ ws.drop (c + 1))) := by rw [upd_ne (ne_of_none h3 n5)]; exact h3
      refine ⟨_, rfl, b, _, _, _, rfl, rfl, SqT.of (e8.sub _ _ k1), rfl, _, rfl, by show 2 ≤ sizeLine; decide, fun p6 n6 => ?_⟩
      have e46 : q4 ≠ p6 := ne_of_none h3b n6
      have e56 : q5 ≠ p6 := ne_of_none upd_same n6
      obtain ⟨G2, e10, hx9, s9⟩ := (e8.al (o := .tup [.str m, .ref q4]) n6).elem (cs := dl cs c) (e8.dom p6 n6) (e5.dom q4 n4) upd_same (by rw [upd_ne e46]; exact h3b) (k3.dl c)
      have hul2 : u'.length < n := by simp at hwl'; omega
      exact ⟨_, t, _, v, .ref p6, u', q5, rfl, e10.sub, ht1.mono e10.ext, by omega, by rw [upd_ne e56, upd_same], hoku, hul2, hx9, fun G' v' H' g5 h5 => qt G' _ v' H' (g1.trans (e10.trans g5)) h5 ⟨hk, u', c, m, cs, hw, hgo, hap, rfl⟩⟩
end
end K5
set_option Elab.async false
set_option linter.all false
set_option maxRecDepth 100000
set_option maxHeartbeats 4000000
namespace K5
open PySem PySem.Spec PyProof.Rows L2
/-! ### the law's own drawing of edits -/
theorem DrP.al {G H : Hp} {d p : Addr} {o : HO} {ns : List Int} (D : DrP G H d ns) (n : H p = none) : DrP G (upd H p o) d ns :=
  ⟨(Gr.alloc (W := W0) D.s n).sub, D.g, by rw [upd_ne (ne_of_none D.h n)]; exact D.h⟩
theorem DrP.fz {G H : Hp} {d p : Addr} {o : HO} {ns : List Int} (D : DrP G H d ns) (n : d ≠ p) (h : H p = some o) : DrP (upd G p o) H d ns :=
  ⟨fun b u e => by
    by_cases z : b = p
    · rw [z, upd_same] at e
      rw [z, h]; exact e
    · rw [upd_ne z] at e; exact D.s b u e, by rw [upd_ne n]; exact D.g, D.h⟩
theorem to_wk (e : Ed) (k : Nat) : (e.to k).word = e.word ∧ (e.to k).k = k := by cases e <;> exact ⟨rfl, rfl⟩
theorem to_rest {e : Ed} {G : Hp} {r : List V} (k : Nat) (h : e.rest G r) : (e.to k).rest G r := by cases e <;> exact h
theorem rest_mono {e : Ed} {G G' : Hp} {r : List V} (s : Same G G') (h : e.rest G r) : e.rest G' r := by
  cases e with
  | gra k p x =>
    obtain ⟨xv, e2, h3⟩ := h
    exact ⟨xv, e2, h3.mono s⟩
  | _ => exact h
def spLEdit (n : Nat) : Sp := fun vs H Q _ => ∃ (G : Hp) (d : Addr) (t : Tr) (v : V) (ns : List Int), vs = [.ref d, v, .bl false] ∧ DrP G H d ns ∧ IsT G t v ∧ t.size ≤ 5000 ∧ t.depth < n ∧
  ∀ (G' : Hp) (e : Ed) (ev : V) (ns' : List Int) (H' : Hp), Gr (· = d) G H G' H' → DrP G' H' d ns' → IsE G' e ev → e.fit → e.k < t.size → e.xs ≤ 22 → e.xd ≤ 4 → Q ev H'
def spLMoved : Sp := fun vs H Q _ => ∃ (G : Hp) (e : Ed) (ev : V) (z : Int) (k' : Nat), vs = [ev, .int z] ∧ Same G H ∧ IsE G e ev ∧ ((e.k : Nat) : Int) + z = ((k' : Nat) : Int) ∧ ∀ G' v' H', Gr W0 G H G' H' → IsE G' (e.to k') v' → Q v' H'
def spLInner (n : Nat) : Sp := fun vs H Q _ => ∃ (G : Hp) (d : Addr) (t : Tr) (v : V) (ns : List Int), vs = [.ref d, v] ∧ DrP G H d ns ∧ IsT G t v ∧ t.isTx = false ∧ t.size ≤ 5000 ∧ t.depth + 4 < n ∧
  ∀ (G' : Hp) (e : Ed) (ev : V) (t' : Tr) (ns' : List Int) (H' : Hp), Gr (· = d) G H G' H' → DrP G' H' d ns' → IsE G' e ev → e.fit → e.xs ≤ 22 → e.xd ≤ 4 → e.doW t t' → Q ev H'
section
variable {P : Program} {w : World} {K : PySem.W.Frag} {mg : Str → Option Value} {base : Heap} {k : Nat}
theorem sc_law_moved : FnScope ["_law_edit_here", "_law_by"] ["_law_edit_here", "_law_by"] (defScope s_law_moved) := ⟨rfl, rfl, rfl, by decide +kernel, rfl, by decide +kernel, by decide +kernel⟩
theorem hd_law_moved (D : Df K mg "_law_moved" s_law_moved) (T : Tx K mg) : Hd P w K mg base "_law_moved" ["_law_edit_here", "_law_by"] (k + 1) spLMoved := by
  refine hd_mk D sc_law_moved (fun _ _ _ _ _ _ us hl => match us, hl with | [_, _], _ => rfl) (fun vs H Q E h => ?_) (fun f cdv A outer s H vs Q E hr h => ?_)
  · obtain ⟨G, e, ev, z, k', rfl, _⟩ := h; rfl
  obtain ⟨G, e, ev, z, k', rfl, sg, he, hk, q⟩ := h
  refine ⟨_, (pss_one (ps_ret (pe_op op_catT (pe_tup (pa_cons (pe_ix ix_tup (pv 0) pe_int (fun _ _ => rfl)) (pa_cons (pe_op op_add (pe_ix ix_tup (pv 0) pe_int (fun _ _ => rfl)) (pv 1)) pa_nil))) (pe_slice sl_tup (pv 0) (po_some pe_int) po_none)))), ?_⟩
  obtain ⟨a, r, rfl, ha, hrs⟩ := id he
  refine ⟨_, rfl, a, _, _, _, rfl, rfl, SqT.of (sg _ _ ha), at_0, _, rfl, a, _, _, _, rfl, rfl, SqT.of (sg _ _ ha), at_1, _, rfl, ((e.k : Nat) : Int), z, rfl, rfl, by show 2 ≤ sizeLine; decide, fun p np => ?_⟩
  simp only [hk]
  have g1 : Gr W0 G H G (upd H p (.tup [.str e.word, nV k'])) := .alloc sg np
  have hp1 : upd H p (.tup [.str e.word, nV k']) p = some (.tup [.str e.word, nV k']) := upd_same
  generalize upd H p (.tup [.str e.word, nV k']) = H1 at *
  refine ⟨_, rfl, 2, rfl, a, _, rfl, SqT.of (g1.sub _ _ ha), ?_, fun p2 np2 => ?_⟩
  · rintro ⟨z1, _⟩
    rw [show (some (2 : Int)) = some ((2 : Nat) : Int) from rfl, HT.sIx_nat] at z1
    simp only [List.length_cons] at z1
    omega
  · rw [show cutV (V.str e.word :: nV e.k :: r) (some 2) none = r from cut_from (j := 2) (by simp only [List.length_cons]; omega)]
    have g2 := g1.al (o := .tup r) np2
    have pp : p ≠ p2 := ne_of_none hp1 np2
    have hrl : r.length ≤ 2 := by
      cases e with
      | gra k pl x =>
        obtain ⟨xv, rfl, _⟩ := hrs
        exact Nat.le_refl 2
      | ren k nn => cases (show r = [.str nn] from hrs); exact Nat.le_succ 1
      | ret k nn => cases (show r = [.str nn] from hrs); exact Nat.le_succ 1
      | cut k => cases (show r = [] from hrs); decide
    have hp2 : upd H1 p2 (.tup r) p = some (.tup [.str e.word, nV k']) := by rw [upd_ne pp]; exact hp1
    refine ⟨p, p2, _, _, rfl, rfl, SqT.of hp2, SqT.of upd_same, by simp, small (by simp only [List.length_cons, List.length_nil]; omega), fun hr0 => ?_, fun hr0 p3 np3 => ?_⟩
    · subst hr0
      have g3 := g2.frz (p := p) np hp2
      exact q _ _ _ g3 ⟨p, [], rfl, by rw [upd_same, (to_wk e k').1, (to_wk e k').2], to_rest k' (rest_mono (same_frz g2.sub hp2) hrs)⟩
    · have g3 := (g2.al (o := .tup ([.str e.word, nV k'] ++ r)) np3).frz (p := p3) (g2.dom _ np3) upd_same
      exact q _ _ _ g3 ⟨p3, r, rfl, by rw [upd_same, (to_wk e k').1, (to_wk e k').2]; rfl, to_rest k' (rest_mono (same_frz (g2.al np3).sub upd_same) hrs)⟩
theorem sc_law_edit : FnScope ["_law_draws_here", "_law_tree_here", "_law_wrong", "_law_total", "_law_node", "_law_kind", "_law_place", "_law_new"] ["_law_draws_here", "_law_tree_here", "_law_wrong"] (defScope s_law_edit) := ⟨rfl, rfl, rfl, by decide +kernel, rfl, by decide +kernel, by decide +kernel⟩
theorem hd_law_edit (D : Df K mg "_law_edit" s_law_edit) (T : Tx K mg) (n : Nat) (h_law_paths : Hd P w K mg base "_law_paths" ["_law_tree_here"] k (spLPaths n)) (h_law_take : Hd P w K mg base "_law_take" ["_law_draws_here", "_law_bound"] k spTake) (h_law_string : Hd P w K mg base "_law_string" ["_law_draws_here", "_law_most"] k spLStr)
    (h_law_tree : Hd P w K mg base "_law_tree" ["_law_draws_here", "_law_depth", "_law_names_here"] k (spLTree 5)) : Hd P w K mg base "_law_edit" ["_law_draws_here", "_law_tree_here", "_law_wrong"] (k + 1) (spLEdit n) := by
  refine hd_mk D sc_law_edit (fun _ _ _ _ _ _ us hl => match us, hl with | [_, _, _], _ => rfl) (fun vs H Q E h => ?_) (fun f cdv A outer s H vs Q E hr h => ?_)
  · obtain ⟨G, d, t, v, ns, rfl, _⟩ := h; rfl
  obtain ⟨G, d, t, v, ns, rfl, Dr, ht, hz, hd, q⟩ := h
  refine ⟨_, (pss_cons (ps_set (i := 3) sc_law_edit.nd rfl (Or.inl rfl) (pe_callB call_len_seq (by rfl) T.len (by decide +kernel) (pa_cons (pe_hd h_law_paths hr rfl (pa_cons (pv 1) pa_nil)) pa_nil)))
  (pss_cons (ps_set (i := 4) sc_law_edit.nd rfl (Or.inl rfl) (pe_hd h_law_take hr rfl (pa_cons (pv 0) (pa_cons (pv 3) pa_nil))))
  (pss_cons (ps_if (PW.pt (pw_and (pt_val (pv 2)) (pw_and1 (pt_cmpR op_eq (pe_hd h_law_take hr rfl (pa_cons (pv 0) (pa_cons pe_int pa_nil))) pe_int (nomark _)))))
    (pss_one (ps_set (i := 4) sc_law_edit.nd rfl (Or.inl rfl) (pe_ix ix_list (pe_lst (pa_cons (pe_un un_neg pe_int) (pa_cons (pv 3) pa_nil))) (pe_hd h_law_take hr rfl (pa_cons (pv 0) (pa_cons pe_int pa_nil))) (fun _ _ => rfl))))
    pss_nil)
  (pss_cons (ps_set (i := 5) sc_law_edit.nd rfl (Or.inl rfl) (pe_hd h_law_take hr rfl (pa_cons (pv 0) (pa_cons pe_int pa_nil))))
  (pss_cons (ps_if (pt_cmpR op_eq (pv 5) pe_int (nomark _))
    (pss_one (ps_ret (pe_tup (pa_cons pe_str (pa_cons (pv 4) (pa_cons (pe_ix ix_list (pe_lst (pa_cons pe_str (pa_cons pe_str (pa_cons pe_str (pa_cons (pe_ix ix_list (pe_lst (pa_cons pe_str (pa_cons pe_str pa_nil))) (pe_hd h_law_take hr rfl (pa_cons (pv 0) (pa_cons pe_int pa_nil))) (fun _ _ => rfl)) pa_nil))))) (pe_hd h_law_take hr rfl (pa_cons (pv 0) (pa_cons (pe_op op_add pe_int (pe_callTy call_int1 (by rfl) T.int (by decide +kernel) (pa_cons (pv 2) pa_nil))) pa_nil))) (fun _ _ => rfl)) pa_nil))))))
    pss_nil)
  (pss_cons (ps_if (pt_cmpR op_eq (pv 5) pe_int (nomark _))
    (pss_one (ps_ret (pe_tup (pa_cons pe_str (pa_cons (pv 4) (pa_cons (pe_ix ix_list (pe_lst (pa_cons (pe_hd h_law_string hr rfl (pa_cons (pv 0) (pa_cons pe_int pa_nil))) (pa_cons pe_str pa_nil))) (pe_hd h_law_take hr rfl (pa_cons (pv 0) (pa_cons (pe_op op_add pe_int (pe_callTy call_int1 (by rfl) T.int (by decide +kernel) (pa_cons (pv 2) pa_nil))) pa_nil))) (fun _ _ => rfl)) pa_nil))))))
    pss_nil)
  (pss_cons (ps_if (pt_cmpR op_eq (pv 5) pe_int (nomark _))
    (pss_one (ps_ret (pe_tup (pa_cons pe_str (pa_cons (pv 4) pa_nil)))))
    pss_nil)
  (pss_cons (ps_set (i := 6) sc_law_edit.nd rfl (Or.inl rfl) (pe_op op_sub (pe_hd h_law_take hr rfl (pa_cons (pv 0) (pa_cons pe_int pa_nil))) (pe_op op_mul (pe_callTy call_int1 (by rfl) T.int (by decide +kernel) (pa_cons (pv 2) pa_nil)) (pe_hd h_law_take hr rfl (pa_cons (pv 0) (pa_cons pe_int pa_nil))))))
  (pss_cons (ps_set (i := 7) sc_law_edit.nd rfl (Or.inl rfl) (pe_ix ix_list (pe_lst (pa_cons (pe_hd h_law_tree hr rfl (pa_cons (pv 0) (pa_cons pe_int (pa_cons (pe_lst (pa_cons pe_str (pa_cons pe_str pa_nil))) pa_nil)))) (pa_cons (pe_hd h_law_string hr rfl (pa_cons (pv 0) (pa_cons pe_int pa_nil))) (pa_cons (pe_tup (pa_cons pe_str (pa_cons (pe_lst pa_nil) pa_nil))) (pa_cons (pe_tup (pa_cons pe_str (pa_cons (pe_lst (pa_cons pe_str (pa_cons pe_str pa_nil))) pa_nil))) pa_nil))))) (pe_hd h_law_take hr rfl (pa_cons (pv 0) (pa_cons (pe_op op_add pe_int (pe_op op_mul pe_int (pe_callTy call_int1 (by rfl) T.int (by decide +kernel) (pa_cons (pv 2) pa_nil)))) pa_nil))) (fun _ _ => rfl)))
  (pss_one (ps_ret (pe_tup (pa_cons pe_str (pa_cons (pv 4) (pa_cons (pv 6) (pa_cons (pv 7) pa_nil)))))))))))))))), ?_⟩
  refine ⟨_, rfl, G, t, v, rfl, Dr.s, ht, by omega, hd, fun G1 p1 ps H1 g1 hp1 hw1 => ?_⟩
  have hpl := hw1.len
  rw [pre_len] at hpl
  have hzp := t.size_pos
  have D1 := Dr.mono g1
  refine ⟨p1, _, rfl, .inl (SqL.of hp1), _, rfl, _, rfl, G1, d, ns, ps.length, rfl, by omega, D1, fun x ns2 H2 hx g2 D2 => ?_⟩
  have g02 := (Gr.mono (W := (· = d)) g1).trans g2
  refine ⟨_, rfl, _, rfl, iteF (iteF ⟨_, rfl, G1, d, ns2, 4, rfl, by decide, D2, fun y ns3 H3 hy g3 D3 => ⟨_, rfl, rfl, _, rfl, ?_⟩⟩)⟩
  have g03 := g02.trans g3
  have hdec : ∀ i : Nat, decide (nV y = V.int ((i : Nat) : Int)) = decide (y = i) := fun i => decide_eq_decide.mpr ⟨fun z => by injection z with z; omega, fun z => by rw [z]⟩
  rw [show decide (nV y = V.int 0) = decide (y = 0) from hdec 0]
  rcases (show y = 0 ∨ y = 1 ∨ y = 2 ∨ y = 3 by omega) with rfl | rfl | rfl | rfl
  · refine iteT ⟨_, rfl, by show 2 ≤ sizeLine; decide, fun q1 n1 => ?_⟩
    have g4 := g03.al (o := .lst [.str "", .str "B"]) n1
    have D4 := D3.al (o := .lst [.str "", .str "B"]) n1
    have h1 : upd H3 q1 (.lst [.str "", .str "B"]) q1 = some (.lst [.str "", .str "B"]) := upd_same
    have ed1 : q1 ≠ d := (ne_of_none D3.h n1).symm
    generalize upd H3 q1 (.lst [.str "", .str "B"]) = H4 at *
    refine ⟨_, rfl, G1, d, ns3, 2, rfl, by decide, D4, fun z ns5 H5 hz5 g5 D5 => ?_⟩
    have hx : ∃ b : Str, [V.str "", .str "B"][z]? = some (.str b) := by
      rcases (show z = 0 ∨ z = 1 by omega) with rfl | rfl
      · exact ⟨_, rfl⟩
      · exact ⟨_, rfl⟩
    obtain ⟨b, hb⟩ := hx
    refine ⟨q1, _, _, .str b, rfl, rfl, SqL.of (g5.at_ h1 ed1), atI_n rfl hb, by show 4 ≤ sizeLine; decide, fun q2 n2 => ?_⟩
    have g6 := (g4.trans g5).al (o := .lst [.str "a", .str "b", .str "dd", .str b]) n2
    have D6 := D5.al (o := .lst [.str "a", .str "b", .str "dd", .str b]) n2
    have h2 : upd H5 q2 (.lst [.str "a", .str "b", .str "dd", .str b]) q2 = some (.lst [.str "a", .str "b", .str "dd", .str b]) := upd_same
    have ed2 : q2 ≠ d := (ne_of_none D5.h n2).symm
    generalize upd H5 q2 (.lst [.str "a", .str "b", .str "dd", .str b]) = H6 at *
    refine ⟨_, rfl, _, rfl, .inr ⟨false, rfl, 3, 0, rfl, rfl, G1, d, ns5, 3, rfl, by decide, D6, fun z2 ns7 H7 hz7 g7 D7 => ?_⟩⟩
    have hx : ∃ c : Str, [V.str "a", .str "b", .str "dd", .str b][z2]? = some (.str c) ∧ c.length ≤ 1000000 := by
      rcases (show z2 = 0 ∨ z2 = 1 ∨ z2 = 2 by omega) with rfl | rfl | rfl
      · exact ⟨_, rfl, by decide +kernel⟩
      · exact ⟨_, rfl, by decide +kernel⟩
      · exact ⟨_, rfl, by decide +kernel⟩
    obtain ⟨c, hc, hcl⟩ := hx
    refine ⟨q2, _, _, .str c, rfl, rfl, SqL.of (g7.at_ h2 ed2), atI_n rfl hc, by show 3 ≤ sizeLine; decide, fun p np => ?_⟩
    have g8 := ((g6.trans g7).al (o := .tup [.str "rename", nV x, .str c]) np).frz ((g6.trans g7).dom p np) upd_same
    exact q _ (.ren x c) (.ref p) ns7 _ g8 ((D7.al np).fz (ne_of_none D7.h np) upd_same) ⟨p, [.str c], rfl, upd_same, rfl⟩ hcl (by show x < t.size; omega) (Nat.zero_le _) (Nat.zero_le _)
  · refine iteF ⟨_, rfl, rfl, _, rfl, iteT ⟨_, rfl, _, rfl, G1, d, ns3, 4, rfl, by decide, by decide, D3, fun z ns4 H4 g4 D4 hz4 hzl => ⟨by show 2 ≤ sizeLine; decide, fun q1 n1 => ?_⟩⟩⟩
    have g5 := (g03.trans g4).al (o := .lst [.str z, .str ""]) n1
    have D5 := D4.al (o := .lst [.str z, .str ""]) n1
    have h1 : upd H4 q1 (.lst [.str z, .str ""]) q1 = some (.lst [.str z, .str ""]) := upd_same
    have ed1 : q1 ≠ d := (ne_of_none D4.h n1).symm
    generalize upd H4 q1 (.lst [.str z, .str ""]) = H5 at *
    refine ⟨_, rfl, _, rfl, .inr ⟨false, rfl, 1, 0, rfl, rfl, G1, d, ns4, 1, rfl, by decide, D5, fun z2 ns6 H6 hz6 g6 D6 => ?_⟩⟩
    refine ⟨q1, _, _, .str z, rfl, rfl, SqL.of (g6.at_ h1 ed1), atI_n rfl (by rw [show z2 = 0 by omega]; rfl), by show 3 ≤ sizeLine; decide, fun p np => ?_⟩
    have g8 := ((g5.trans g6).al (o := .tup [.str "retext", nV x, .str z]) np).frz ((g5.trans g6).dom p np) upd_same
    exact q _ (.ret x z) (.ref p) ns6 _ g8 ((D6.al np).fz (ne_of_none D6.h np) upd_same) ⟨p, [.str z], rfl, upd_same, rfl⟩ (by show z.length ≤ 1000000; omega) (by show x < t.size; omega) (Nat.zero_le _) (Nat.zero_le _)
  · refine iteF ⟨_, rfl, rfl, _, rfl, iteF ⟨_, rfl, rfl, _, rfl, iteT ⟨_, rfl, by show 2 ≤ sizeLine; decide, fun p np => ?_⟩⟩⟩
    have g4 := (g03.al (o := .tup [.str "cut", nV x]) np).frz (g03.dom p np) upd_same
    exact q _ (.cut x) (.ref p) ns3 _ g4 ((D3.al np).fz (ne_of_none D3.h np) upd_same) ⟨p, [], rfl, upd_same, rfl⟩ trivial (by show x < t.size; omega) (Nat.zero_le _) (Nat.zero_le _)
  · refine iteF ⟨_, rfl, rfl, _, rfl, iteF ⟨_, rfl, rfl, _, rfl, iteF ⟨_, rfl, G1, d, ns3, 4, rfl, by decide, D3, fun pl ns4 H4 hpl4 g4 D4 => ?_⟩⟩⟩
    have g04 := g03.trans g4
    refine ⟨_, rfl, .inr ⟨false, rfl, _, rfl, G1, d, ns4, 2, rfl, by decide, D4, fun z ns5 H5 hz5 g5 D5 => ?_⟩⟩
    have g05 := g04.trans g5
    refine ⟨0, ((z : Nat) : Int), rfl, rfl, .inl ⟨by decide, by decide⟩, ((pl : Nat) : Int), 0 * ((z : Nat) : Int), rfl, rfl, ?_⟩
    simp only [show ((pl : Nat) : Int) - 0 * ((z : Nat) : Int) = ((pl : Nat) : Int) by omega]
    refine ⟨_, rfl, by show 2 ≤ sizeLine; decide, fun q1 n1 => ?_⟩
    have g6 := (g05.al (o := .lst [.str "a", .str "e"]) n1).frz (g05.dom q1 n1) upd_same
    have D6 := (D5.al (o := .lst [.str "a", .str "e"]) n1).fz (ne_of_none D5.h n1) upd_same
    have h1 : upd G1 q1 (.lst [.str "a", .str "e"]) q1 = some (.lst ([(Str.ofString "a"), "e"].map V.str)) := upd_same
    generalize upd G1 q1 (.lst [.str "a", .str "e"]) = G6 at *
    generalize upd H5 q1 (.lst [.str "a", .str "e"]) = H6 at *
    refine ⟨G6, d, q1, ns5, 2, _, rfl, D6, by decide, by decide, h1, by decide, by decide, by decide +kernel, fun G7 tx tv ns7 H7 g7 D7 htx ok => ?_⟩
    have g07 := g6.trans g7
    refine ⟨_, rfl, G7, d, ns7, 4, rfl, by decide, by decide, D7, fun sx ns8 H8 g8 D8 hsx hsl => ?_⟩
    have g08 := g07.trans g8
    refine ⟨by show 0 ≤ sizeLine; decide, fun q2 n2 => ⟨by show 2 ≤ sizeLine; decide, fun q3 n3 => ⟨by show 2 ≤ sizeLine; decide, fun q4 n4 => ⟨by show 2 ≤ sizeLine; decide, fun q5 n5 => ⟨by show 4 ≤ sizeLine; decide, fun q6 n6 => ?_⟩⟩⟩⟩⟩
    have g9 := ((((g08.al (o := .lst []) n2).al (o := .tup [.str "", .ref q2]) n3).al (o := .lst [.str "x", .str "y"]) n4).al (o := .tup [.str "a", .ref q4]) n5).al (o := .lst [tv, .str sx, .ref q3, .ref q5]) n6
    have D9 := ((((D8.al (o := .lst []) n2).al (o := .tup [.str "", .ref q2]) n3).al (o := .lst [.str "x", .str "y"]) n4).al (o := .tup [.str "a", .ref q4]) n5).al (o := .lst [tv, .str sx, .ref q3, .ref q5]) n6
    have h9 : (upd (upd (upd (upd (upd H8 q2 (.lst [])) q3 (.tup [.str "", .ref q2])) q4 (.lst [.str "x", .str "y"])) q5 (.tup [.str "a", .ref q4])) q6 (.lst [tv, .str sx, .ref q3, .ref q5])) q6 = some (.lst [tv, .str sx, .ref q3, .ref q5]) := upd_same
    have ed6 : q6 ≠ d := fun z => by
      have := D9.h
      rw [← z, h9] at this
      have e := Option.some.inj this
      injection e with e
      have := congrArg (fun l => l[1]?) e
      simp only [List.getElem?_cons_succ, List.getElem?_cons_zero, List.getElem?_map] at this
      cases h : ns8[1]? with
      | none => rw [h] at this; cases this
      | some u => rw [h] at this; cases this
    generalize (upd (upd (upd (upd (upd H8 q2 (.lst [])) q3 (.tup [.str "", .ref q2])) q4 (.lst [.str "x", .str "y"])) q5 (.tup [.str "a", .ref q4])) q6 (.lst [tv, .str sx, .ref q3, .ref q5])) = H9 at *
    refine ⟨_, rfl, _, rfl, .inr ⟨false, rfl, 2, 0, rfl, rfl, .inl ⟨by decide, by decide⟩, 2, 2 * 0, rfl, rfl, G7, d, ns8, 2, rfl, by decide, D9, fun c ns10 H10 hc g10 D10 => ?_⟩⟩
    have h10 := g10.at_ h9 ed6
    have g11 := g9.trans g10
    rcases (show c = 0 ∨ c = 1 by omega) with rfl | rfl
    · refine ⟨q6, _, _, tv, rfl, rfl, SqL.of h10, at_0, ?_⟩
      refine ⟨_, rfl, _, rfl, _, rfl, by show 4 ≤ sizeLine; decide, fun p np => ?_⟩
      have g12 := (g11.al (o := .tup [.str "graft", nV x, nV pl, tv]) np).frz (g11.dom p np) upd_same
      have hs := same_frz (p := p) (o := .tup [.str "graft", nV x, nV pl, tv]) (g11.al np).sub upd_same
      exact q _ (.gra x pl tx) (.ref p) ns10 _ g12 ((D10.al np).fz (ne_of_none D10.h np) upd_same) ⟨p, [nV pl, tv], rfl, upd_same, tv, rfl, htx.mono hs⟩ ⟨by have := ok.z; exact Nat.le_trans this (by decide), ok.fit⟩ (by show x < t.size; omega) ok.z ok.d
    · refine ⟨q6, _, _, .str sx, rfl, rfl, SqL.of h10, at_1, ?_⟩
      refine ⟨_, rfl, _, rfl, _, rfl, by show 4 ≤ sizeLine; decide, fun p np => ?_⟩
      have g12 := (g11.al (o := .tup [.str "graft", nV x, nV pl, .str sx]) np).frz (g11.dom p np) upd_same
      exact q _ (.gra x pl (.tx sx)) (.ref p) ns10 _ g12 ((D10.al np).fz (ne_of_none D10.h np) upd_same) ⟨p, [nV pl, .str sx], rfl, upd_same, .str sx, rfl, rfl⟩ ⟨by show 1 ≤ 100000; decide, by show sx.length ≤ 1000000; omega⟩ (by show x < t.size; omega) (by show 1 ≤ 22; decide) (by show 1 ≤ 4; decide)
theorem sc_law_inner : FnScope ["_law_draws_here", "_law_tree_here", "_law_turn", "_law_edit_here"] ["_law_draws_here", "_law_tree_here"] (defScope s_law_inner) := ⟨rfl, rfl, rfl, by decide +kernel, rfl, by decide +kernel, by decide +kernel⟩
theorem hd_law_inner (D : Df K mg "_law_inner" s_law_inner) (T : Tx K mg) (n : Nat) (h_law_edit : Hd P w K mg base "_law_edit" ["_law_draws_here", "_law_tree_here", "_law_wrong"] k (spLEdit n)) (h_law_edited : Hd P w K mg base "_law_edited" ["_law_tree_here", "_law_edit_here"] k (spLEdited n)) : Hd P w K mg base "_law_inner" ["_law_draws_here", "_law_tree_here"] (k + 1) (spLInner n) := by
  refine hd_mk D sc_law_inner (fun _ _ _ _ _ _ us hl => match us, hl with | [_, _], _ => rfl) (fun vs H Q E h => ?_) (fun f cdv A outer s H vs Q E hr h => ?_)
  · obtain ⟨G, d, t, v, ns, rfl, _⟩ := h; rfl
  obtain ⟨G, d, t, v, ns, rfl, Dr, ht, htx, hz, hd, q⟩ := h
  refine ⟨_, (pss_cons (ps_for PassesOwn.never rfl (pi_range1 (by rfl) T.range (pa_cons pe_int pa_nil)) (pg_name (i := 2) sc_law_inner.nd rfl (Or.inl rfl))
    (pss_cons (ps_set (i := 3) sc_law_inner.nd rfl (Or.inl rfl) (pe_hd h_law_edit hr rfl (pa_cons (pv 0) (pa_cons (pv 1) (pa_cons pe_bl pa_nil)))))
    (pss_one (ps_if (PW.pt (pw_and (pt_cmpR op_gt (pe_ix ix_tup (pv 3) pe_int (fun _ _ => rfl)) pe_int (nomark _)) (pw_and1 (pt_not (pt_val (pe_callB call_isi (by rfl) T.isinstance (by decide +kernel) (pa_cons (pe_hd h_law_edited hr rfl (pa_cons (pv 1) (pa_cons (pv 3) pa_nil))) (pa_cons (pe_bltn (v := .ty "str") (by rfl) T.str (by decide +kernel) rfl) pa_nil))))))))
      (pss_one (ps_ret (pv 3)))
      pss_nil))))
  (pss_one (ps_ret (pe_tup (pa_cons pe_str (pa_cons pe_int (pa_cons pe_str pa_nil))))))), ?_⟩
  refine ⟨6, rfl, by decide, by decide, for_it walk_r0 (fun i σ H2 => ∃ (x2 x3 : Option V) (G2 : Hp) (ns2 : List Int), σ = [some (.ref d), some v, x2, x3] ∧ Gr (· = d) G H G2 H2 ∧ DrP G2 H2 d ns2)
    ⟨none, none, G, ns, rfl, .refl Dr.s, Dr⟩ (fun _ _ _ _ _ => trivial) ?_ ?_⟩
  · rintro i xx σ H3 H2 hi ⟨x2, x3, G2, ns2, rfl, g2, D2⟩ ⟨rfl, rfl⟩
    refine ⟨_, rfl, _, rfl, G2, d, t, v, ns2, rfl, D2, ht.mono g2.ext, hz, by omega, fun G3 e ev ns3 H3 g3 D3 he hf hk hxs hxd => ?_⟩
    have g23 := g2.trans g3
    obtain ⟨a, r, rfl, ha, hrs⟩ := id he
    refine ⟨_, rfl, a, _, _, _, rfl, rfl, SqT.of (D3.s _ _ ha), at_1, _, _, rfl, rfl, _, rfl, ?_⟩
    cases hk0 : decide ((0 : Int) < ((e.k : Nat) : Int))
    · exact iteF (iteF ⟨_, _, G3, ns3, rfl, g23, D3⟩)
    · refine iteT ⟨_, rfl, _, rfl, G3, t, v, e, .ref a, rfl, D3.s, ht.mono g23.ext, he, hf, hz, by omega, by omega, hk, fun s H4 s4 => ?_, fun G4 t' v' H4 g4 ht' hdo => ?_⟩
      · obtain ⟨yy, ty, kt⟩ := (show IsT G3 (.tx s) (.str s) from rfl).ty (D3.s.trans s4) (K := K)
        refine ⟨_, _, _, _, _, rfl, .ty "str", ty, kt, _, rfl, ?_⟩
        exact iteF ⟨_, _, G3, ns3, rfl, g23.trans (Gr.mono (.of D3.s s4)), DrP.mono D3 (.of D3.s s4)⟩
      · obtain ⟨yy, ty, kt⟩ := ht'.ty g4.sub (K := K)
        refine ⟨_, _, _, _, _, rfl, .ty "str", ty, kt, _, rfl, ?_⟩
        have g24 := g23.trans (Gr.mono (W := (· = d)) g4)
        have D4 := D3.mono g4
        cases t'.isTx
        · exact iteT ⟨_, rfl, q G4 e (.ref a) t' ns3 H4 g24 D4 (he.mono g4.ext) hf hxs hxd hdo⟩
        · exact iteF ⟨_, _, G4, ns3, rfl, g24, D4⟩
  · rintro σ H2 ⟨x2, x3, G2, ns2, rfl, g2, D2⟩
    refine ⟨by show 3 ≤ sizeLine; decide, fun p np => ?_⟩
    have g4 := (g2.al (o := .tup [.str "rename", .int 0, .str "dd"]) np).frz (g2.dom p np) upd_same
    cases t with
    | tx s => cases htx
    | el m cs =>
      exact q _ (.ren 0 "dd") (.ref p) _ ns2 _ g4 ((D2.al np).fz (ne_of_none D2.h np) upd_same) ⟨p, [.str "dd"], rfl, upd_same, rfl⟩ (by show _ ≤ 1000000; decide +kernel) (by decide) (by decide) ⟨Tr.size_pos _, m, cs, by rw [wy_0]; rfl, by decide +kernel, rfl⟩
end
end K5
set_option Elab.async false
set_option linter.all false
set_option maxRecDepth 100000
set_option maxHeartbeats 4000000
namespace K5
open PySem PySem.Spec PyProof.Rows L2
/-! ### trees as plain data -/
mutual
def Tr.dat : Tr → PyData
  | .tx s => .str s
  | .el n cs => .tuple [.str n, .list (Tr.dats cs)]
def Tr.dats : List Tr → List PyData
  | [] => []
  | c :: cs => c.dat :: Tr.dats cs
end
section
variable {K : PySem.W.Frag} {G H : Hp}
mutual
theorem dp_tr (s : Same G H) : ∀ (t : Tr) (v : V), IsT G t v → Dp K H v t.dat
  | .tx x, v, h => by
    cases (show v = .str x from h)
    exact .str x
  | .el n cs, v, h => by
    obtain ⟨a, l, vs, rfl, h1, h2, h3⟩ := h
    exact .tup (SqT.of (s _ _ h1)) (.cons (.str n) (.cons (.lst (SqL.of (s _ _ h2)) (dp_trs s cs vs h3)) .nil))
theorem dp_trs (s : Same G H) : ∀ (ts : List Tr) (vs : List V), IsTs G ts vs → DpAll K H vs (Tr.dats ts)
  | [], vs, h => by
    cases (show vs = [] from h)
    exact .nil
  | t :: ts, vs, ⟨v, r, e, h1, h2⟩ => by
    rw [e]
    exact .cons (dp_tr s t v h1) (dp_trs s ts r h2)
end
end
mutual
theorem dat_lay : ∀ t : Tr, t.good = true → PyData.canLay0 t.dat = true ∧ PyData.depth t.dat ≤ 2 * t.depth
  | .tx x, h => ⟨txt_strOk h, Nat.zero_le _⟩
  | .el n cs, h => by
    have hg := good_el h
    simp only [Tr.good, Bool.and_eq_true] at h
    obtain ⟨h1, h2⟩ := dats_lay cs h.2
    refine ⟨by simp [Tr.dat, PyData.canLay0, PyData.canLayAll0, nm_strOk hg.1, h1], ?_⟩
    simp only [Tr.dat, PyData.depth, PyData.depthAll, Tr.depth]
    omega
theorem dats_lay : ∀ cs : List Tr, Tr.goods cs = true → PyData.canLayAll0 (Tr.dats cs) = true ∧ PyData.depthAll (Tr.dats cs) ≤ 2 * Tr.depths cs
  | [], _ => ⟨rfl, Nat.le_refl _⟩
  | c :: cs, h => by
    simp only [Tr.goods, Bool.and_eq_true] at h
    obtain ⟨h1, h2⟩ := dat_lay c h.1
    obtain ⟨h3, h4⟩ := dats_lay cs h.2
    refine ⟨by simp [Tr.dats, PyData.canLayAll0, h1, h3], ?_⟩
    simp only [Tr.dats, PyData.depthAll, Tr.depths]
    omega
end
mutual
theorem dat_eqv : ∀ t : Tr, PyData.eqv t.dat t.dat = true
  | .tx x => by simp [Tr.dat, PyData.eqv]
  | .el n cs => by simp [Tr.dat, PyData.eqv, PyData.eqvAll, dats_eqv cs]
theorem dats_eqv : ∀ cs : List Tr, PyData.eqvAll (Tr.dats cs) (Tr.dats cs) = true
  | [] => by simp [Tr.dats, PyData.eqvAll]
  | c :: cs => by simp [Tr.dats, PyData.eqvAll, dat_eqv c, dats_eqv cs]
end
theorem dat_shaped {t : Tr} (h : t.good = true) (d : t.depth ≤ 30) : SeqAt.shaped t.dat = true := by
  obtain ⟨h1, h2⟩ := dat_lay t h
  unfold SeqAt.shaped
  rw [Bool.and_eq_true]
  exact ⟨h1, decide_eq_true (by omega)⟩
theorem eqD_tr {K : PySem.W.Frag} {G G2 H : Hp} {t : Tr} {x y : V} {Q : VK} (s : Same G H) (h : IsT G t x) (s2 : Same G2 H) (h2 : IsT G2 t y) (g : t.good = true) (d : t.depth ≤ 30) (q : Q (.bl true) H) : rEqD K x y H Q :=
  ⟨t.dat, t.dat, dp_tr s t x h, dp_tr s2 t y h2, dat_shaped g d, dat_shaped g d, by rw [dat_eqv]; exact q⟩
theorem neD_tr {K : PySem.W.Frag} {G G2 H : Hp} {t : Tr} {x y : V} {Q : VK} (s : Same G H) (h : IsT G t x) (s2 : Same G2 H) (h2 : IsT G2 t y) (g : t.good = true) (d : t.depth ≤ 30) (q : Q (.bl false) H) : rNeD K x y H Q :=
  ⟨t.dat, t.dat, dp_tr s t x h, dp_tr s2 t y h2, dat_shaped g d, dat_shaped g d, by rw [dat_eqv]; exact q⟩
/-! ### the law in plain Lean -/
theorem nm_len {n : Str} (h : isNm n = true) : n.length ≤ 1000000 := by
  unfold isNm at h
  simp only [Bool.and_eq_true, decide_eq_true_eq] at h
  omega
theorem txt_len {n : Str} (h : isTxt n = true) : n.length ≤ 1000000 := by
  unfold isTxt at h
  simp only [Bool.and_eq_true, decide_eq_true_eq] at h
  omega
mutual
theorem good_fit : ∀ t : Tr, t.good = true → t.fit
  | .tx x, h => txt_len h
  | .el n cs, h => by
    have hg := good_el h
    simp only [Tr.good, Bool.and_eq_true] at h
    exact ⟨nm_len hg.1, goods_fit cs h.2⟩
theorem goods_fit : ∀ cs : List Tr, Tr.goods cs = true → Tr.fits cs
  | [], _ => trivial
  | c :: cs, h => by
    simp only [Tr.goods, Bool.and_eq_true] at h
    exact ⟨good_fit c h.1, goods_fit cs h.2⟩
end
theorem to_to (e : Ed) (k l : Nat) : (e.to k).to l = e.to l := by cases e <;> rfl
theorem to_xs (e : Ed) (k : Nat) : (e.to k).xs = e.xs := by cases e <;> rfl
theorem to_xd (e : Ed) (k : Nat) : (e.to k).xd = e.xd := by cases e <;> rfl
theorem doW_fit {e : Ed} {t t' : Tr} (h : e.doW t t') (hx : e.xs ≤ 100000) : e.fit := by
  cases e with
  | ren k n => obtain ⟨_, m, cs, _, h2, _⟩ := h; exact nm_len h2
  | ret k s => obtain ⟨_, s0, _, h2, _⟩ := h; exact txt_len h2
  | cut k => trivial
  | gra k p x => obtain ⟨_, m, cs, _, _, h3, _⟩ := h; exact ⟨hx, good_fit x h3⟩
theorem doW_xs {e : Ed} {t t' : Tr} (h : e.doW t t') : e.xs ≤ t'.size := by
  cases e with
  | gra k p x =>
    obtain ⟨hk, m, cs, h1, h2, h3, h4, rfl⟩ := h
    have := (put_ok (t.wy k) t (.el m (ins cs p x)) (wy_ok (Nat.le_refl _) hk)).2.2.2.2.1
    rw [h1] at this
    have hs := sizes_split cs p
    have e1 : Tr.sizes (ins cs p x) = Tr.sizes cs + x.size := by
      unfold ins
      rw [sizes_app, sizes_app]; simp only [Tr.sizes]; omega
    simp only [Tr.size, Ed.xs] at *
    have := t.size_pos
    have : 1 + Tr.sizes cs ≤ t.size := by
      have := (put_ok (t.wy k) t (.tx Str.empty) (wy_ok (Nat.le_refl _) hk)).2.2.2.2.1
      rw [h1] at this
      simp only [Tr.size] at this
      have : 1 ≤ (t.put (t.wy k) (.tx Str.empty)).size := Tr.size_pos _
      omega
    omega
  | _ => exact Nat.zero_le _
theorem sizes_set {cs : List Tr} {j : Nat} {c y : Tr} (h : cs[j]? = some c) : Tr.sizes (cs.set j y) + c.size = Tr.sizes cs + y.size := by
  have : ∀ (cs : List Tr) (j : Nat) (c y : Tr), cs[j]? = some c → Tr.sizes (cs.set j y) + c.size = Tr.sizes cs + y.size := by
    intro cs
    induction cs with
    | nil => intro j c y h; simp at h
    | cons d cs ih =>
      intro j c y h
      cases j with
      | zero =>
        cases (Option.some.inj h)
        simp only [List.set_cons_zero, Tr.sizes]; omega
      | succ j =>
        have := ih j c y (by simpa using h)
        simp only [List.set_cons_succ, Tr.sizes]; omega
  exact this cs j c y h
structure OkR (t : Tr) : Prop where
  good : t.good = true
  el : t.isTx = false
  z : t.size ≤ 300
  d : t.depth ≤ 20
theorem OkR.does {e : Ed} {t t' : Tr} (h : e.doW t t') (b : OkR t') : e.does t t' := does_of h fun _ _ _ _ => by
  have h1 := b.z
  have h2 := b.d
  unfold Tr.rs
  rw [decide_eq_true (by omega), decide_eq_true (by omega)]; rfl
abbrev rootOf (qs : List Tr) : Tr := .el "root" qs
structure OkP (t : Tr) : Prop where
  good : t.good = true
  el : t.isTx = false
  z : t.size ≤ 60
  d : t.depth ≤ 10
theorem apart_el {qs : List Tr} (h : ∀ q ∈ qs, q.isTx = false) : apart qs = true := by
  unfold apart adj
  rw [List.any_map]
  rw [Bool.not_eq_true', List.any_eq_false]
  intro i hi
  have hi := List.mem_range.mp hi
  simp only [Function.comp, id, Bool.and_eq_true, not_and]
  intro z
  rw [List.getD_eq_getElem?_getD, List.getElem?_eq_getElem (show i + 1 < qs.length by omega)] at z
  have := h _ (List.getElem_mem (show i + 1 < qs.length by omega))
  simp only [Option.getD_some] at z
  rw [this] at z; cases z
theorem ok_root : ∀ {qs : List Tr}, qs.length = 3 → (∀ q ∈ qs, OkP q) → OkR (rootOf qs)
  | [a, b, c], _, h => by
    have ha := h a (by simp)
    have hb := h b (by simp)
    have hc := h c (by simp)
    have h1 := ha.z; have h2 := hb.z; have h3 := hc.z
    have h4 := ha.d; have h5 := hb.d; have h6 := hc.d
    refine ⟨?_, rfl, ?_, ?_⟩
    · have hap : apart [a, b, c] = true := apart_el fun q hq => (h q hq).el
      have hr : isNm "root" = true := by decide +kernel
      simp only [Tr.good, hr, hap, Tr.goods, ha.good, hb.good, hc.good, Bool.and_self]
    · simp only [Tr.size, Tr.sizes]; omega
    · simp only [Tr.depth, Tr.depths]; omega
/-- what the law has drawn: two edits in two of three parts -/
structure Sc (ps : List Tr) (i j : Nat) (p q p' q' : Tr) (e1 e2 : Ed) : Prop where
  len : ps.length = 3
  ij : i < j
  j3 : j < 3
  hi : ps[i]? = some p
  hj : ps[j]? = some q
  h1 : e1.doW p p'
  h2 : e2.doW q q'
  ok : ∀ t ∈ ps, OkP t
  okp : OkP p'
  okq : OkP q'
section
variable {ps : List Tr} {i j : Nat} {p q p' q' : Tr} {e1 e2 : Ed}
abbrev bothOf (ps : List Tr) (i j : Nat) (p' q' : Tr) : List Tr := (ps.set i p').set j q'
def nE (ps : List Tr) (i : Nat) (e : Ed) : Nat := 1 + Tr.sizes (ps.take i) + e.k
theorem Sc.both (S : Sc ps i j p q p' q' e1 e2) : bothOf ps i j p' q' = (ps.set j q').set i p' := List.set_comm _ _ (by have := S.ij; omega)
theorem Sc.ne (S : Sc ps i j p q p' q' e1 e2) : i ≠ j := by have := S.ij; omega
theorem ok_set {ps : List Tr} {i : Nat} {p' : Tr} (h : ∀ t ∈ ps, OkP t) (k : OkP p') : ∀ t ∈ ps.set i p', OkP t := fun t ht => by
  rcases List.mem_or_eq_of_mem_set ht with q | q
  · exact h t q
  · rw [q]; exact k
theorem Sc.r0 (S : Sc ps i j p q p' q' e1 e2) : OkR (rootOf ps) := ok_root S.len S.ok
theorem Sc.r1 (S : Sc ps i j p q p' q' e1 e2) : OkR (rootOf (ps.set i p')) := ok_root (by rw [List.length_set, S.len]) (ok_set S.ok S.okp)
theorem Sc.r2 (S : Sc ps i j p q p' q' e1 e2) : OkR (rootOf (ps.set j q')) := ok_root (by rw [List.length_set, S.len]) (ok_set S.ok S.okq)
theorem Sc.r3 (S : Sc ps i j p q p' q' e1 e2) : OkR (rootOf (bothOf ps i j p' q')) := ok_root (by rw [List.length_set, List.length_set, S.len]) (ok_set (ok_set S.ok S.okp) S.okq)
theorem Sc.early (S : Sc ps i j p q p' q' e1 e2) : (e1.to (nE ps i e1)).doW (rootOf ps) (rootOf (ps.set i p')) := doW_in S.hi S.h1
theorem Sc.late (S : Sc ps i j p q p' q' e1 e2) : (e2.to (nE ps j e2)).doW (rootOf ps) (rootOf (ps.set j q')) := doW_in S.hj S.h2
theorem Sc.late' (S : Sc ps i j p q p' q' e1 e2) : (e2.to (nE (ps.set i p') j e2)).doW (rootOf (ps.set i p')) (rootOf (bothOf ps i j p' q')) :=
  doW_in (by rw [List.getElem?_set_ne S.ne]; exact S.hj) S.h2
theorem Sc.early' (S : Sc ps i j p q p' q' e1 e2) : (e1.to (nE ps i e1)).doW (rootOf (ps.set j q')) (rootOf (bothOf ps i j p' q')) := by
  have := doW_in (n := "root") (ps := ps.set j q') (i := i) (by rw [List.getElem?_set_ne S.ne.symm]; exact S.hi) S.h1
  rw [S.both]
  rw [List.take_set_of_le (by have := S.ij; omega)] at this
  exact this
theorem Sc.grow (S : Sc ps i j p q p' q' e1 e2) : ((nE ps j e2 : Nat) : Int) + (((p'.size : Nat) : Int) - ((p.size : Nat) : Int)) = ((nE (ps.set i p') j e2 : Nat) : Int) := by
  have hi : (ps.take j)[i]? = some p := by rw [List.getElem?_take_of_lt S.ij]; exact S.hi
  have := sizes_set (y := p') hi
  unfold nE
  rw [List.take_set]
  omega
theorem Sc.back (S : Sc ps i j p q p' q' e1 e2) {b : Ed} (hb : (e1.to (nE ps i e1)).backs (rootOf ps) b) : b.doW (rootOf (bothOf ps i j p' q')) (rootOf (ps.set j q')) ∧ b.fit := by
  have okp : OkP p := S.ok p (List.mem_of_getElem? S.hi)
  obtain ⟨b0, rfl, h⟩ := backs_in (n := "root") S.hi S.h1 okp.good hb
  have hx := doW_xs h
  have hz := okp.z
  have hil : i < ps.length := by have := S.len; have := S.ij; have := S.j3; omega
  have h3 := doW_in (n := "root") (ps := bothOf ps i j p' q') (i := i) (by rw [List.getElem?_set_ne S.ne.symm, List.getElem?_set_self hil]) h
  have e3 : (bothOf ps i j p' q').take i = ps.take i := by
    rw [List.take_set_of_le (by have := S.ij; omega), List.take_set_of_le (Nat.le_refl _)]
  rw [e3] at h3
  have e4 : (bothOf ps i j p' q').set i p = ps.set j q' := by
    rw [S.both, List.set_set, List.set_comm _ _ S.ne.symm]
    congr 1
    obtain ⟨_, e⟩ := List.getElem?_eq_some_iff.mp S.hi
    rw [← e]
    exact List.set_getElem_self ..
  rw [e4] at h3
  exact ⟨h3, doW_fit h3 (by rw [to_xs]; omega)⟩
end
end K5
set_option Elab.async false
set_option linter.all false
set_option maxRecDepth 100000
set_option maxHeartbeats 4000000
namespace K5
open PySem PySem.Spec PyProof.Rows L2
/-! ### the law's walk: from the layers on -/
theorem tab_gr {W : Addr → Prop} {G H G' H' : Hp} {Pt : Addr} {q : Str} (T : LamX.TabS H Pt q) (g : Gr W G H G' H') (hW : ∀ b, W b → ∃ l, H b = some (.lst l)) : LamX.TabS H' Pt q := by
  obtain ⟨ps, t1, t2, t3⟩ := T
  refine ⟨ps, g.keep _ _ t1 (fun z => ?_), t2, fun pos cv hc => ?_⟩
  · obtain ⟨l, e⟩ := hW _ z
    rw [t1] at e; cases e
  · obtain ⟨c, e1, e2⟩ := t3 pos cv hc
    refine ⟨c, e1, g.keep _ _ e2 fun z => ?_⟩
    obtain ⟨l, e⟩ := hW _ z
    rw [e2] at e
    unfold LamX.CodeO at e
    cases e
theorem LayP.upW {W : Addr → Prop} {r : Tr} {nm : List Str} {S : List Way} {K : PySem.W.Frag} {G H G' H' : Hp} {a vw la to : Addr} {ts : List Tr} {ls ps : List V} (h : LayP K G H r nm S a vw la to ts ls ps) (g : Gr W G H G' H') (h1 : ¬ W la) (h2 : ¬ W to) : LayP K G' H' r nm S a vw la to ts ls ps where
  s := g.sub
  ha := let ⟨dx, e⟩ := h.ha; ⟨dx, g.ext _ _ e⟩
  hv := h.hv.mono g.ext
  hla := g.keep _ _ h.hla h1
  hto := g.keep _ _ h.hto h2
  gla := g.free h.gla h.hla
  gto := g.free h.gto h.hto
  ne := h.ne
  al := h.al.mono fun _ _ q => q.mono g.ext
  zl := h.zl
  zp := h.zp
theorem LayP.made {K : PySem.W.Frag} {G H G' H' : Hp} {r : Tr} {nm : List Str} {x dx Pt vw la to : Addr} {p1 : V} (s : Same G H) (nx : H x = none) (nd : H dx = none) (ne : dx ≠ x) (g : Gr (fun b => b = x ∨ b = Pt) G (upd (upd H dx (.own x)) x (.ins (cLy K) dx [])) G' H')
    (hx : H' x = some (.ins (cLy K) dx (fLayers (.ref vw) (.ref la) (.ref to)))) (hv : IsVw K G' r nm (ordS r nm) vw) (hla : H' la = some (.lst [])) (hto : H' to = some (.lst [p1])) (hp : IsP r (ordS r nm) G' r p1) (gla : G' la = none) (gto : G' to = none) (n : la ≠ to) :
    Gr (· = Pt) G H (upd G' x (.ins (cLy K) dx (fLayers (.ref vw) (.ref la) (.ref to)))) H' ∧ LayP K (upd G' x (.ins (cLy K) dx (fLayers (.ref vw) (.ref la) (.ref to)))) H' r nm (ordS r nm) x vw la to ([] ++ [r]) [] [p1] := by
  have nx' : upd H dx (.own x) x = none := by rw [upd_ne ne.symm]; exact nx
  have g0 : Gr (fun b => b = x ∨ b = Pt) G H G (upd (upd H dx (.own x)) x (.ins (cLy K) dx [])) := (Gr.alloc s nd).al nx'
  have g1 : Gr (· = Pt) G H G' H' := (g0.trans g).drop fun b e => by
    rcases e with e | e
    · exact .inr (by rw [e]; exact nx)
    · exact .inl e
  have s1 := same_frz g1.sub hx
  have g2 := g1.frz nx hx
  have lx : la ≠ x := fun z => by rw [z, hx] at hla; cases hla
  have tx : to ≠ x := fun z => by rw [z, hx] at hto; cases hto
  exact ⟨g2, g2.sub, ⟨dx, upd_same⟩, hv.mono s1, hla, hto, by rw [upd_ne lx]; exact gla, by rw [upd_ne tx]; exact gto, n, Al.one (hp.mono s1), Nat.zero_le _, by show 1 ≤ 1000; decide⟩
theorem OkR.z5 {t : Tr} (h : OkR t) : t.size ≤ 50000 := by have := h.z; omega
theorem OkR.z6 {t : Tr} (h : OkR t) : t.size ≤ 100000 := by have := h.z; omega
theorem OkR.d24 {t : Tr} (h : OkR t) : t.depth ≤ 24 := by have := h.d; omega
theorem OkR.d30 {t : Tr} (h : OkR t) : t.depth ≤ 30 := by have := h.d; omega
theorem room_of {e : Ed} {t t' : Tr} (h : e.doW t t') (k : OkR t) (hx : e.xs ≤ 300) (hd : e.xd ≤ 20) : e.room 24 t := by
  have h1 := k.z
  have h2 := k.d
  cases e with
  | gra kk p x =>
    have := wy_len (Nat.le_refl _) (doW_k h)
    simp only [Ed.xs, Ed.xd, Ed.k] at *
    exact ⟨by omega, by omega, by omega⟩
  | _ => exact trivial
theorem sc_law : FnScope ["_law_script", "_law_draws_here", "_law_names_here", "_law_parts", "_law_k", "_law_tree_here", "_law_pair", "_law_starts", "_law_part", "_law_first", "_law_second", "_law_made", "_law_grown", "_law_early", "_law_late", "_law_due", "_law_both", "_law_layers", "_law_other", "_law_back"] ["_law_script"] (defScope s_law) := ⟨rfl, rfl, rfl, by decide +kernel, rfl, by decide +kernel, by decide +kernel⟩
section
variable {P : Program} {w : World} {K : PySem.W.Frag} {mg : Str → Option Value} {base : Heap} {k : Nat}
theorem law_tail2 {Pt f : Addr} {cdv : Value} {A : Around} {outer : List Env} {s : Shared} {H0 : Hp} {Q : VK} {E : XK} (T : Tx K mg) (h_edited : Hd P w K mg base "edited" ["tree", "edit"] k (spEd 24)) (h_law_moved : Hd P w K mg base "_law_moved" ["_law_edit_here", "_law_by"] k spLMoved) (h_Layers_init : Mkd P w K mg base "Layers" (cLy K) ["self", "tree"] k (spLayI K Pt 24))
    (h_Layers_lay : Md P w K mg base (cLy K) "lay" ["self", "edit"] [] k (spLay K 24)) (h_Layers_shown : Md P w K mg base (cLy K) "shown" ["self"] [] k (spShown K 24)) (h_taken_back : Hd P w K mg base "taken_back" ["tree", "edit"] k (spBack 24)) (h_Layers_lift : Md P w K mg base (cLy K) "lift" ["self"] [] k (spLift K)) (hr : Room k (A.deeper (envOfC "law" (defScope s_law) s.heap.objs.size f cdv))) :
    ∃ tr, PSs (cxOf CX0 P w K mg base ["_law_script", "_law_draws_here", "_law_names_here", "_law_parts", "_law_k", "_law_tree_here", "_law_pair", "_law_starts", "_law_part", "_law_first", "_law_second", "_law_made", "_law_grown", "_law_early", "_law_late", "_law_due", "_law_both", "_law_layers", "_law_other", "_law_back"] "law" (defScope s_law) f cdv A outer s H0 E).nox ((defBody s_law).drop 18) tr ∧ ∀ (G H : Hp) (ps : List Tr) (i j : Nat) (p q p' q' : Tr) (e1 e2 : Ed) (L : List Str) (rp : Addr) (z : Int) (v1 v2 bv : V) (x0 x1 x2 x3 x4 x6 x7 x8 x9 x10 x11 x15 x17 x18 x19 : Option V), Sc ps i j p q p' q' e1 e2 → e1.xs ≤ 300 → e1.xd ≤ 20 → e2.xs ≤ 300 → e2.xd ≤ 20 → Same G H → G Pt = none → LamX.TabS H Pt qL → DocOk (rootOf ps) L 24 → IsT G (rootOf ps) (.ref rp) → IsE G (e1.to (nE ps i e1)) v1 → IsE G (e2.to (nE ps j e2)) v2 → ((nE ps j e2 : Nat) : Int) + z = ((nE (ps.set i p') j e2 : Nat) : Int) → IsT G (rootOf (bothOf ps i j p' q')) bv → (∀ H', Q (.bl true) H') →
      tr { nx := fun _ H' => Q .non H', rt := Q } [x0, x1, x2, x3, x4, some (.ref rp), x6, x7, x8, x9, x10, x11, some (.int z), some v1, some v2, x15, some bv, x17, x18, x19] H := by
  refine ⟨_, (pss_cons (ps_set (i := 17) sc_law.nd rfl (Or.inl rfl) (pe_mkd h_Layers_init hr rfl (pa_cons (pv 5) pa_nil)))
    (pss_cons (ps_expr (pe_md h_Layers_lay T.cLayers hr (pv 17) (pa_cons (pv 14) pa_nil)))
    (pss_cons (ps_expr (pe_md h_Layers_lay T.cLayers hr (pv 17) (pa_cons (pv 13) pa_nil)))
    (pss_cons (ps_set (i := 18) sc_law.nd rfl (Or.inl rfl) (pe_mkd h_Layers_init hr rfl (pa_cons (pv 5) pa_nil)))
    (pss_cons (ps_expr (pe_md h_Layers_lay T.cLayers hr (pv 18) (pa_cons (pv 13) pa_nil)))
    (pss_cons (ps_expr (pe_md h_Layers_lay T.cLayers hr (pv 18) (pa_cons (pe_hd h_law_moved hr rfl (pa_cons (pv 14) (pa_cons (pv 12) pa_nil))) pa_nil)))
    (pss_cons (ps_if (PW.pt (pw_or (pt_cmpR (op_neD hr.units) (pe_md0 h_Layers_shown T.cLayers hr (pv 17)) (pv 16) (nomark _)) (pw_or1 (pt_cmpR (op_neD hr.units) (pe_md0 h_Layers_shown T.cLayers hr (pv 18)) (pv 16) (nomark _)))))
    (pss_one (ps_ret pe_bl))
    pss_nil)
    (pss_cons (ps_set (i := 19) sc_law.nd rfl (Or.inl rfl) (pe_hd h_taken_back hr rfl (pa_cons (pv 5) (pa_cons (pv 13) pa_nil))))
    (pss_cons (ps_if (pt_cmpR (op_neD hr.units) (pe_hd h_edited hr rfl (pa_cons (pv 16) (pa_cons (pv 19) pa_nil))) (pe_hd h_edited hr rfl (pa_cons (pv 5) (pa_cons (pv 14) pa_nil))) (nomark _))
    (pss_one (ps_ret pe_bl))
    pss_nil)
    (pss_cons (ps_expr (pe_md0 h_Layers_lift T.cLayers hr (pv 17)))
    (pss_cons (ps_expr (pe_md0 h_Layers_lift T.cLayers hr (pv 18)))
    (pss_one (ps_ret (pe_and (pe_cmpR (op_eqD hr.units) (pe_md0 h_Layers_shown T.cLayers hr (pv 17)) (pe_hd h_edited hr rfl (pa_cons (pv 5) (pa_cons (pv 14) pa_nil))) (nomark _)) (pe_one (pe_cmpR (op_eqD hr.units) (pe_md0 h_Layers_shown T.cLayers hr (pv 18)) (pe_hd h_edited hr rfl (pa_cons (pv 5) (pa_cons (pv 13) pa_nil))) (nomark _))))))))))))))))), ?_⟩
  intro G H ps i j p q p' q' e1 e2 L rp z v1 v2 bv x0 x1 x2 x3 x4 x6 x7 x8 x9 x10 x11 x15 x17 x18 x19 S hx1 hd1 hx2 hd2 sg gP tP dk hroot hv1 hv2 hz hboth fin
  have f1 : (e1.to (nE ps i e1)).fit := doW_fit S.early (by rw [to_xs]; omega)
  have f2 : (e2.to (nE ps j e2)).fit := doW_fit S.late (by rw [to_xs]; omega)
  have f2' : (e2.to (nE (ps.set i p') j e2)).fit := doW_fit S.late' (by rw [to_xs]; omega)
  have rm1 := room_of S.early S.r0 (by rw [to_xs]; exact hx1) (by rw [to_xd]; exact hd1)
  have rm1' := room_of S.early' S.r2 (by rw [to_xs]; exact hx1) (by rw [to_xd]; exact hd1)
  have rm2 := room_of S.late S.r0 (by rw [to_xs]; exact hx2) (by rw [to_xd]; exact hd2)
  have rm2' := room_of S.late' S.r1 (by rw [to_xs]; exact hx2) (by rw [to_xd]; exact hd2)
  -- Layers(tree)
  refine ⟨_, rfl, fun x dx n1 n2 n3 => ?_⟩
  have nxu : upd H dx (.own x) x = none := by rw [upd_ne n3.symm]; exact n1
  have sx : Same H (upd (upd H dx (.own x)) x (.ins (cLy K) dx [])) := (Same.up n2).trans (Same.up nxu)
  obtain ⟨tb, htb, htb2⟩ := id tP
  have xP : x ≠ Pt := fun zz => by rw [zz, htb] at n1; cases n1
  refine ⟨G, rootOf ps, .ref rp, L, x, dx, rfl, sg.trans sx, gP, tP.ext sx, hroot, dk, same_none sg n1, upd_same, xP, fun G1 nm vw la to p1 H1 g1 T1 ha1 hvw hla hto hp1 gla gto nlt => ⟨rfl, ?_⟩⟩
  obtain ⟨gg1, L1⟩ := LayP.made sg n1 n2 n3 g1 ha1 hvw hla hto hp1 gla gto nlt
  generalize upd G1 x (.ins (cLy K) dx (fLayers (.ref vw) (.ref la) (.ref to))) = G2 at *
  have gP1 : G2 Pt = none := gg1.free gP htb
  -- lay(late)
  obtain ⟨dx', hdx⟩ := L1.ha
  refine ⟨_, rfl, x, dx', _, rfl, L1.s _ _ hdx, lLayers_no_lay, _, rfl, G2, _, nm, _, x, vw, la, to, _, _, _, _, _, _, v2, rfl, L1, hv2.mono gg1.ext, f2, S.late, rm2, S.r0.z5, S.r0.d24, by simp, by simp, fun G3 l1 p2 H3 g3 L3 => ?_⟩
  have T3 : LamX.TabS H3 Pt qL := tab_gr T1 g3 fun b hb => by
    rcases hb with hb | hb
    · exact ⟨_, by rw [hb]; exact L1.hla⟩
    · exact ⟨_, by rw [hb]; exact L1.hto⟩
  have gP3 : G3 Pt = none := by
    obtain ⟨tb1, htb1, _⟩ := T1
    exact g3.free gP1 htb1
  -- lay(early)
  have e03 : Same G G3 := gg1.ext.trans g3.ext
  refine ⟨_, rfl, x, dx', _, rfl, L3.s _ _ (g3.ext _ _ hdx), lLayers_no_lay, _, rfl, G3, _, nm, _, x, vw, la, to, _, _, _, _, _, _, v1, rfl, L3, hv1.mono e03, f1, S.early', rm1', S.r2.z5, S.r2.d24, by simp, by simp, fun G4 l2 p3 H4 g4 L4 => ?_⟩
  have T4 : LamX.TabS H4 Pt qL := tab_gr T3 g4 fun b hb => by
    rcases hb with hb | hb
    · exact ⟨_, by rw [hb]; exact L3.hla⟩
    · exact ⟨_, by rw [hb]; exact L3.hto⟩
  have gP4 : G4 Pt = none := by
    obtain ⟨tb1, htb1, _⟩ := T3
    exact g4.free gP3 htb1
  have hdx4 := g4.ext _ _ (g3.ext _ _ hdx)
  have e04 : Same G G4 := e03.trans g4.ext
  -- the other Layers(tree)
  refine ⟨_, rfl, fun y dy m1 m2 m3 => ?_⟩
  have nyu : upd H4 dy (.own y) y = none := by rw [upd_ne m3.symm]; exact m1
  have sy : Same H4 (upd (upd H4 dy (.own y)) y (.ins (cLy K) dy [])) := (Same.up m2).trans (Same.up nyu)
  obtain ⟨tb4, htb4, htb42⟩ := id T4
  have yP : y ≠ Pt := fun zz => by rw [zz, htb4] at m1; cases m1
  refine ⟨G4, rootOf ps, .ref rp, L, y, dy, rfl, L4.s.trans sy, gP4, T4.ext sy, hroot.mono e04, dk, same_none L4.s m1, upd_same, yP, fun G5 nm2 vw2 la2 to2 q1 H5 g5 T5 ha5 hvw5 hla5 hto5 hq1 gla5 gto5 nlt5 => ⟨rfl, ?_⟩⟩
  obtain ⟨gg5, M5⟩ := LayP.made L4.s m1 m2 m3 g5 ha5 hvw5 hla5 hto5 hq1 gla5 gto5 nlt5
  generalize upd G5 y (.ins (cLy K) dy (fLayers (.ref vw2) (.ref la2) (.ref to2))) = G6 at *
  have laP : la ≠ Pt := fun zz => by have := L4.hla; rw [zz, htb4] at this; cases this
  have toP : to ≠ Pt := fun zz => by have := L4.hto; rw [zz, htb4] at this; cases this
  have L5 := L4.upW gg5 laP toP
  have e06 : Same G G6 := e04.trans gg5.ext
  have hdx6 := gg5.ext _ _ hdx4
  -- the four lists are four
  have n1 : la ≠ la2 := fun zz => by have a := L5.hla; rw [zz, M5.hla] at a; have := Option.some.inj a; injection this with a; have := congrArg List.length a; simp at this
  have n2 : la ≠ to2 := fun zz => by have a := L5.hla; rw [zz, M5.hto] at a; have := Option.some.inj a; injection this with a; have := congrArg List.length a; simp at this
  have n3 : to ≠ la2 := fun zz => by have a := L5.hto; rw [zz, M5.hla] at a; have := Option.some.inj a; injection this with a; have := congrArg List.length a; simp at this
  have n4 : to ≠ to2 := fun zz => by have a := L5.hto; rw [zz, M5.hto] at a; have := Option.some.inj a; injection this with a; have := congrArg List.length a; simp at this
  obtain ⟨dy', hdy⟩ := M5.ha
  -- other.lay(early)
  refine ⟨_, rfl, y, dy', _, rfl, M5.s _ _ hdy, lLayers_no_lay, _, rfl, G6, _, nm2, _, y, vw2, la2, to2, _, _, _, _, _, _, v1, rfl, M5, hv1.mono e06, f1, S.early, rm1, S.r0.z5, S.r0.d24, by simp, by simp, fun G7 k1 q2 H7 g7 M7 => ?_⟩
  have L7 := L5.upW g7 (fun h => h.elim n1 n2) (fun h => h.elim n3 n4)
  have e07 := e06.trans g7.ext
  -- other.lay(moved(late, grown))
  refine ⟨_, rfl, y, dy', _, rfl, M7.s _ _ (g7.ext _ _ hdy), lLayers_no_lay, _, rfl, _, rfl, G7, _, v2, z, nE (ps.set i p') j e2, rfl, M7.s, hv2.mono e07, by rw [(to_wk _ _).2]; exact hz, fun G8 v3 H8 g8 hv3 => ?_⟩
  rw [to_to] at hv3
  have L8 := L7.up g8
  have M8 := M7.up g8
  refine ⟨G8, _, nm2, _, y, vw2, la2, to2, _, _, _, _, _, _, v3, rfl, M8, hv3, f2', S.late', rm2', S.r1.z5, S.r1.d24, by simp, by simp, fun G9 k2 q3 H9 g9 M9 => ?_⟩
  have L9 := L8.upW g9 (fun h => h.elim n1 n2) (fun h => h.elim n3 n4)
  have e09 : Same G G9 := (e07.trans g8.ext).trans g9.ext
  have e69 : Same G6 G9 := (g7.ext.trans g8.ext).trans g9.ext
  have hdx9 := e69 _ _ hdx6
  have hdy9 := e69 _ _ hdy
  -- shown
  refine ⟨_, rfl, x, dx', _, rfl, L9.s _ _ hdx9, lLayers_no_shown, G9, _, nm, _, x, vw, la, to, _, _, _, _, rfl, L9, S.r3.z5, S.r3.d24, fun G10 w1 H10 g10 hw1 => ?_⟩
  have L10 := L9.up g10
  have M10 := M9.up g10
  have e10 := e09.trans g10.ext
  have hdx10 := g10.ext _ _ hdx9
  have hdy10 := g10.ext _ _ hdy9
  refine ⟨_, rfl, neD_tr L10.s hw1 L10.s (hboth.mono e10) S.r3.good S.r3.d30 ⟨_, rfl, iteF ?_⟩⟩
  refine ⟨_, rfl, y, dy', _, rfl, L10.s _ _ hdy10, lLayers_no_shown, G10, _, nm2, _, y, vw2, la2, to2, _, _, _, _, rfl, M10, S.r3.z5, S.r3.d24, fun G11 w2 H11 g11 hw2 => ?_⟩
  have L11 := L10.up g11
  have M11 := M10.up g11
  have e11 := e10.trans g11.ext
  have hdx11 := g11.ext _ _ hdx10
  have hdy11 := g11.ext _ _ hdy10
  refine ⟨_, rfl, neD_tr L11.s hw2 L11.s (hboth.mono e11) S.r3.good S.r3.d30 ⟨_, rfl, iteF ?_⟩⟩
  -- taken back
  refine ⟨_, rfl, _, rfl, G11, rootOf ps, rootOf (ps.set i p'), .ref rp, _, v1, rfl, L11.s, hroot.mono e11, hv1.mono e11, f1, S.r0.z6, S.r1.z6, S.r0.d24, OkR.does S.early S.r1, fun G12 b1 b H12 g12 hb hbv => ?_⟩
  obtain ⟨hbd, hbf⟩ := S.back hb
  have e12 := e11.trans g12.ext
  refine ⟨_, rfl, _, rfl, G12, _, _, bv, b, b1, rfl, g12.sub, hboth.mono e12, hbv, hbf, S.r3.z6, S.r2.z6, S.r3.d24, S.r2.d24, OkR.does hbd S.r2, fun G13 w3 H13 g13 hw3 => ?_⟩
  have e13 := e12.trans g13.ext
  refine ⟨_, rfl, _, rfl, G13, _, _, .ref rp, _, v2, rfl, g13.sub, hroot.mono e13, hv2.mono e13, f2, S.r0.z6, S.r2.z6, S.r0.d24, S.r2.d24, OkR.does S.late S.r2, fun G14 w4 H14 g14 hw4 => ?_⟩
  have e14 := e13.trans g14.ext
  have g114 := (g12.trans g13).trans g14
  have L14 := L11.up g114
  have M14 := M11.up g114
  have hdx14 := g114.ext _ _ hdx11
  have hdy14 := g114.ext _ _ hdy11
  refine neD_tr g14.sub (hw3.mono g14.ext) g14.sub hw4 S.r2.good S.r2.d30 ⟨_, rfl, iteF ?_⟩
  -- lift
  refine ⟨_, rfl, x, dx', _, rfl, L14.s _ _ hdx14, lLayers_no_lift, G14, _, nm, _, x, vw, la, to, _, _, _, _, _, _, rfl, L14, fun H15 g15 L15 => ?_⟩
  have M15 := M14.upW g15 (fun h => h.elim n1.symm n3.symm) (fun h => h.elim n2.symm n4.symm)
  refine ⟨_, rfl, y, dy', _, rfl, M15.s _ _ hdy14, lLayers_no_lift, G14, _, nm2, _, y, vw2, la2, to2, _, _, _, _, _, _, rfl, M15, fun H16 g16 M16 => ?_⟩
  have L16 := L15.upW g16 (fun h => h.elim n1 n2) (fun h => h.elim n3 n4)
  -- the answer
  refine ⟨_, rfl, x, dx', _, rfl, L16.s _ _ hdx14, lLayers_no_shown, G14, _, nm, _, x, vw, la, to, _, _, _, _, rfl, L16, S.r2.z5, S.r2.d24, fun G17 w5 H17 g17 hw5 => ?_⟩
  have e17 := e14.trans g17.ext
  refine ⟨_, rfl, _, rfl, G17, _, _, .ref rp, _, v2, rfl, g17.sub, hroot.mono e17, hv2.mono e17, f2, S.r0.z6, S.r2.z6, S.r0.d24, S.r2.d24, OkR.does S.late S.r2, fun G18 w6 H18 g18 hw6 => ?_⟩
  have e18 := e17.trans g18.ext
  have M18 := (M16.up g17).up g18
  refine eqD_tr g18.sub (hw5.mono g18.ext) g18.sub hw6 S.r2.good S.r2.d30 ⟨_, rfl, iteT ?_⟩
  refine ⟨_, rfl, y, dy', _, rfl, M18.s _ _ (g18.ext _ _ (g17.ext _ _ hdy14)), lLayers_no_shown, G18, _, nm2, _, y, vw2, la2, to2, _, _, _, _, rfl, M18, S.r1.z5, S.r1.d24, fun G19 w7 H19 g19 hw7 => ?_⟩
  have e19 := e18.trans g19.ext
  refine ⟨_, rfl, _, rfl, G19, _, _, .ref rp, _, v1, rfl, g19.sub, hroot.mono e19, hv1.mono e19, f1, S.r0.z6, S.r1.z6, S.r0.d24, S.r1.d24, OkR.does S.early S.r1, fun G20 w8 H20 g20 hw8 => ?_⟩
  exact eqD_tr g20.sub (hw7.mono g20.ext) g20.sub hw8 S.r1.good S.r1.d30 (fin _)
end
end K5
set_option Elab.async false
set_option linter.all false
set_option maxRecDepth 100000
set_option maxHeartbeats 4000000
namespace K5
open PySem PySem.Spec PyProof.Rows L2
/-! ### the law's walk: the edits -/
def sts (ps : List Tr) (n : Nat) : List Nat := (List.range n).map fun m => 1 + Tr.sizes (ps.take m)
structure LF (G : Hp) (ps : List Tr) (i j : Nat) (ws : List V) (lp rp pr st : Addr) : Prop where
  hlp : G lp = some (.lst ws)
  ts : IsTs G ps ws
  hrt : G rp = some (.tup [.str "root", .ref lp])
  hpr : G pr = some (.tup [nV i, nV j])
  hst : G st = some (.lst (vN (sts ps 4)))
theorem LF.mono {G G' : Hp} {ps : List Tr} {i j : Nat} {ws : List V} {lp rp pr st : Addr} (h : LF G ps i j ws lp rp pr st) (s : Same G G') : LF G' ps i j ws lp rp pr st := ⟨s _ _ h.hlp, h.ts.mono s, s _ _ h.hrt, s _ _ h.hpr, s _ _ h.hst⟩
theorem LF.root {G : Hp} {ps : List Tr} {i j : Nat} {ws : List V} {lp rp pr st : Addr} (h : LF G ps i j ws lp rp pr st) : IsT G (rootOf ps) (.ref rp) := ⟨rp, lp, ws, rfl, h.hrt, h.hlp, h.ts⟩
theorem sts_at {ps : List Tr} {m : Nat} (h : m < 4) : (vN (sts ps 4))[m]? = some (nV (1 + Tr.sizes (ps.take m))) := by
  simp [sts, h]
theorem OkP.z5 {t : Tr} (h : OkP t) : t.size ≤ 50000 := by have := h.z; omega
theorem OkP.z6 {t : Tr} (h : OkP t) : t.size ≤ 100000 := by have := h.z; omega
theorem OkP.d24 {t : Tr} (h : OkP t) : t.depth ≤ 24 := by have := h.d; omega
theorem OkP.does {e : Ed} {t t' : Tr} (h : e.doW t t') (b : OkP t') : e.does t t' := does_of h fun _ _ _ _ => by
  have h1 := b.z
  have h2 := b.d
  unfold Tr.rs
  rw [decide_eq_true (by omega), decide_eq_true (by omega)]; rfl
section
variable {P : Program} {w : World} {K : PySem.W.Frag} {mg : Str → Option Value} {base : Heap} {k : Nat}
theorem law_tail1 {Pt f : Addr} {cdv : Value} {A : Around} {outer : List Env} {s : Shared} {H0 : Hp} {Q : VK} {E : XK} (T : Tx K mg) (h_edited : Hd P w K mg base "edited" ["tree", "edit"] k (spEd 24)) (h_law_moved : Hd P w K mg base "_law_moved" ["_law_edit_here", "_law_by"] k spLMoved) (h_Layers_init : Mkd P w K mg base "Layers" (cLy K) ["self", "tree"] k (spLayI K Pt 24))
    (h_Layers_lay : Md P w K mg base (cLy K) "lay" ["self", "edit"] [] k (spLay K 24)) (h_Layers_shown : Md P w K mg base (cLy K) "shown" ["self"] [] k (spShown K 24)) (h_taken_back : Hd P w K mg base "taken_back" ["tree", "edit"] k (spBack 24)) (h_Layers_lift : Md P w K mg base (cLy K) "lift" ["self"] [] k (spLift K)) (h_nodes_of : Hd P w K mg base "nodes_of" ["tree"] k spNodes) (hr : Room k (A.deeper (envOfC "law" (defScope s_law) s.heap.objs.size f cdv))) :
    ∃ tr, PSs (cxOf CX0 P w K mg base ["_law_script", "_law_draws_here", "_law_names_here", "_law_parts", "_law_k", "_law_tree_here", "_law_pair", "_law_starts", "_law_part", "_law_first", "_law_second", "_law_made", "_law_grown", "_law_early", "_law_late", "_law_due", "_law_both", "_law_layers", "_law_other", "_law_back"] "law" (defScope s_law) f cdv A outer s H0 E).nox ((defBody s_law).drop 9) tr ∧ ∀ (G H : Hp) (ps : List Tr) (i j : Nat) (p q p' q' : Tr) (e1 e2 : Ed) (L : List Str) (ws : List V) (lp rp pr st : Addr) (ev1 ev2 : V) (x0 x1 x2 x4 x8 x11 x12 x13 x14 x15 x16 x17 x18 x19 : Option V), Sc ps i j p q p' q' e1 e2 → e1.xs ≤ 300 → e1.xd ≤ 20 → e2.xs ≤ 300 → e2.xd ≤ 20 → Same G H → G Pt = none → LamX.TabS H Pt qL → DocOk (rootOf ps) L 24 → LF G ps i j ws lp rp pr st → IsE G e1 ev1 → IsE G e2 ev2 → e1.fit → e2.fit → (∀ H', Q (.bl true) H') →
      tr { nx := fun _ H' => Q .non H', rt := Q } [x0, x1, x2, some (.ref lp), x4, some (.ref rp), some (.ref pr), some (.ref st), x8, some ev1, some ev2, x11, x12, x13, x14, x15, x16, x17, x18, x19] H := by
  obtain ⟨tr, hps, htr⟩ := law_tail2 (P := P) (w := w) (base := base) (f := f) (cdv := cdv) (A := A) (outer := outer) (s := s) (H0 := H0) (Q := Q) (E := E) T h_edited h_law_moved h_Layers_init h_Layers_lay h_Layers_shown h_taken_back h_Layers_lift hr
  refine ⟨_, (pss_cons (ps_set (i := 11) sc_law.nd rfl (Or.inl rfl) (pe_lst (pa_cons (pe_hd h_edited hr rfl (pa_cons (pe_ix ix_list (pv 3) (pe_ix ix_tup (pv 6) pe_int (fun _ _ => rfl)) (fun _ _ => rfl)) (pa_cons (pv 9) pa_nil))) (pa_cons (pe_hd h_edited hr rfl (pa_cons (pe_ix ix_list (pv 3) (pe_ix ix_tup (pv 6) pe_int (fun _ _ => rfl)) (fun _ _ => rfl)) (pa_cons (pv 10) pa_nil))) pa_nil))))
    (pss_cons (ps_set (i := 12) sc_law.nd rfl (Or.inl rfl) (pe_op op_sub (pe_callB call_len_seq (by rfl) T.len (by decide +kernel) (pa_cons (pe_hd h_nodes_of hr rfl (pa_cons (pe_ix ix_list (pv 11) pe_int (fun _ _ => rfl)) pa_nil)) pa_nil)) (pe_callB call_len_seq (by rfl) T.len (by decide +kernel) (pa_cons (pe_hd h_nodes_of hr rfl (pa_cons (pe_ix ix_list (pv 3) (pe_ix ix_tup (pv 6) pe_int (fun _ _ => rfl)) (fun _ _ => rfl)) pa_nil)) pa_nil))))
    (pss_cons (ps_set (i := 13) sc_law.nd rfl (Or.inl rfl) (pe_hd h_law_moved hr rfl (pa_cons (pv 9) (pa_cons (pe_ix ix_list (pv 7) (pe_ix ix_tup (pv 6) pe_int (fun _ _ => rfl)) (fun _ _ => rfl)) pa_nil))))
    (pss_cons (ps_set (i := 14) sc_law.nd rfl (Or.inl rfl) (pe_hd h_law_moved hr rfl (pa_cons (pv 10) (pa_cons (pe_ix ix_list (pv 7) (pe_ix ix_tup (pv 6) pe_int (fun _ _ => rfl)) (fun _ _ => rfl)) pa_nil))))
    (pss_cons (ps_set (i := 15) sc_law.nd rfl (Or.inl rfl) (pe_callTy call_list_of (by rfl) T.list (by decide +kernel) (pa_cons (pv 3) pa_nil)))
    (pss_cons (ps_asg (pe_ix ix_list (pv 11) pe_int (fun _ _ => rfl)) (pg_sub (pv 15) (pe_ix ix_tup (pv 6) pe_int (fun _ _ => rfl)) set_list))
    (pss_cons (ps_asg (pe_ix ix_list (pv 11) pe_int (fun _ _ => rfl)) (pg_sub (pv 15) (pe_ix ix_tup (pv 6) pe_int (fun _ _ => rfl)) set_list))
    (pss_cons (ps_set (i := 16) sc_law.nd rfl (Or.inl rfl) (pe_hd h_edited hr rfl (pa_cons (pe_hd h_edited hr rfl (pa_cons (pv 5) (pa_cons (pv 13) pa_nil))) (pa_cons (pe_hd h_law_moved hr rfl (pa_cons (pv 14) (pa_cons (pv 12) pa_nil))) pa_nil))))
    (pss_cons (ps_if (PW.pt (pw_or (pt_cmpR (op_neD hr.units) (pv 16) (pe_tup (pa_cons pe_str (pa_cons (pv 15) pa_nil))) (nomark _)) (pw_or1 (pt_cmpR (op_neD hr.units) (pe_hd h_edited hr rfl (pa_cons (pe_hd h_edited hr rfl (pa_cons (pv 5) (pa_cons (pv 14) pa_nil))) (pa_cons (pv 13) pa_nil))) (pv 16) (nomark _)))))
    (pss_one (ps_ret pe_bl))
    pss_nil)
    hps))))))))), ?_⟩
  intro G H ps i j p q p' q' e1 e2 L ws lp rp pr st ev1 ev2 x0 x1 x2 x4 x8 x11 x12 x13 x14 x15 x16 x17 x18 x19 S hx1 hd1 hx2 hd2 sg gP tP dk F he1 he2 hf1 hf2 fin
  have f1 : (e1.to (nE ps i e1)).fit := doW_fit S.early (by rw [to_xs]; omega)
  have f2 : (e2.to (nE ps j e2)).fit := doW_fit S.late (by rw [to_xs]; omega)
  have f2' : (e2.to (nE (ps.set i p') j e2)).fit := doW_fit S.late' (by rw [to_xs]; omega)
  have okp : OkP p := S.ok p (List.mem_of_getElem? S.hi)
  have okq : OkP q := S.ok q (List.mem_of_getElem? S.hj)
  have hwl := F.ts.len
  have hl3 := S.len
  have hij := S.ij
  have hj3 := S.j3
  obtain ⟨pv, hpv, hp⟩ := F.ts.get S.hi
  obtain ⟨qv, hqv, hq⟩ := F.ts.get S.hj
  have g0 : Gr W0 G H G H := .refl sg
  -- made
  refine ⟨_, rfl, _, rfl, pr, _, _, _, rfl, rfl, SqT.of (g0.sub _ _ F.hpr), at_0, lp, ws, _, pv, rfl, rfl, SqL.of (g0.sub _ _ F.hlp), atI_n rfl hpv, _, rfl, G, p, p', pv, e1, ev1, rfl, sg, hp, he1, hf1, okp.z6, S.okp.z6, okp.d24, S.okp.d24, OkP.does S.h1 S.okp, fun G1 v1 H1 g1 hv1 => ?_⟩
  have F1 := F.mono g1.ext
  refine ⟨_, rfl, _, rfl, pr, _, _, _, rfl, rfl, SqT.of (g1.sub _ _ F1.hpr), at_1, lp, ws, _, qv, rfl, rfl, SqL.of (g1.sub _ _ F1.hlp), atI_n rfl hqv, _, rfl, G1, q, q', qv, e2, ev2, rfl, g1.sub, hq.mono g1.ext, he2.mono g1.ext, hf2, okq.z6, S.okq.z6, okq.d24, S.okq.d24, OkP.does S.h2 S.okq, fun G2 v2 H2 g2 hv2 => ?_⟩
  have g02 := g1.trans g2
  refine ⟨by show 2 ≤ sizeLine; decide, fun mk nmk => ?_⟩
  have g03 := (g02.al (o := .lst [v1, v2]) nmk).frz (g02.dom _ nmk) upd_same
  have s3 := same_frz (p := mk) (g02.al (o := .lst [v1, v2]) nmk).sub upd_same
  have hmk : upd G2 mk (.lst [v1, v2]) mk = some (.lst [v1, v2]) := upd_same
  have hv1' := (hv1.mono g2.ext).mono s3
  have hv2' := hv2.mono s3
  generalize upd G2 mk (.lst [v1, v2]) = G3 at *
  generalize upd H2 mk (.lst [v1, v2]) = H3 at *
  have F3 := F.mono g03.ext
  -- grown
  refine ⟨_, rfl, mk, _, _, _, rfl, rfl, SqL.of (g03.sub _ _ hmk), at_0, G3, p', v1, rfl, g03.sub, hv1', S.okp.z6, fun pa wa H4 g4 n4 ha ia => ⟨pa, _, rfl, .inl (SqL.of ha), ?_⟩⟩
  have g04 := g03.trans g4
  refine ⟨_, rfl, _, rfl, pr, _, _, _, rfl, rfl, SqT.of (g04.sub _ _ F3.hpr), at_0, lp, ws, _, pv, rfl, rfl, SqL.of (g04.sub _ _ F3.hlp), atI_n rfl hpv, G3, p, pv, rfl, g04.sub, hp.mono g03.ext, okp.z6, fun pb wb H5 g5 n5 hb ib => ⟨pb, _, rfl, .inl (SqL.of hb), ((wa.length : Nat) : Int), ((wb.length : Nat) : Int), rfl, rfl, ?_⟩⟩
  have g05 := g04.trans g5
  have hz : ((wa.length : Nat) : Int) - ((wb.length : Nat) : Int) = ((p'.size : Nat) : Int) - ((p.size : Nat) : Int) := by rw [ia.len, ib.len, nodes_len, nodes_len]
  simp only [hz]
  -- early, late
  refine ⟨_, rfl, _, rfl, _, rfl, pr, _, _, _, rfl, rfl, SqT.of (g05.sub _ _ F3.hpr), at_0, st, _, _, _, rfl, rfl, SqL.of (g05.sub _ _ F3.hst), atI_n rfl (sts_at (by omega)), G3, e1, ev1, _, nE ps i e1, rfl, g05.sub, he1.mono g03.ext, by unfold nE; omega, fun G6 x1' H6 g6 hx1' => ?_⟩
  have g06 := g05.trans g6
  have F6 := F.mono g06.ext
  refine ⟨_, rfl, _, rfl, _, rfl, pr, _, _, _, rfl, rfl, SqT.of (g06.sub _ _ F6.hpr), at_1, st, _, _, _, rfl, rfl, SqL.of (g06.sub _ _ F6.hst), atI_n rfl (sts_at (by omega)), G6, e2, ev2, _, nE ps j e2, rfl, g06.sub, he2.mono g06.ext, by unfold nE; omega, fun G7 x2' H7 g7 hx2' => ?_⟩
  have g07 := g06.trans g7
  have F7 := F.mono g07.ext
  have s37 : Same G3 G7 := g6.ext.trans g7.ext
  -- due
  refine ⟨_, rfl, lp, _, rfl, .inl (SqL.of (g07.sub _ _ F7.hlp)), fun du ndu => ?_⟩
  have g08 := g07.al (o := .lst ws) ndu
  have hdu : upd H7 du (.lst ws) du = some (.lst ws) := upd_same
  have gdu : G7 du = none := same_none g07.sub ndu
  have ndH := g07.dom _ ndu
  generalize upd H7 du (.lst ws) = H8 at *
  refine ⟨_, rfl, mk, _, _, _, rfl, rfl, SqL.of (g08.sub _ _ (s37 _ _ hmk)), at_0, _, rfl, _, rfl, pr, _, _, _, rfl, rfl, SqT.of (g08.sub _ _ F7.hpr), at_0, du, ws, _, i, rfl, rfl, hdu, ixN_n (by omega), ?_⟩
  have g09 := g08.wr (o := .lst (ws.set i v1)) (.inl ndH) gdu hdu
  have hdu9 : upd H8 du (.lst (ws.set i v1)) du = some (.lst (ws.set i v1)) := upd_same
  generalize upd H8 du (.lst (ws.set i v1)) = H9 at *
  refine ⟨_, rfl, mk, _, _, _, rfl, rfl, SqL.of (g09.sub _ _ (s37 _ _ hmk)), at_1, _, rfl, _, rfl, pr, _, _, _, rfl, rfl, SqT.of (g09.sub _ _ F7.hpr), at_1, du, _, _, j, rfl, rfl, hdu9, ixN_n (by rw [List.length_set]; omega), ?_⟩
  have g10 := (g09.wr (o := .lst ((ws.set i v1).set j v2)) (.inl ndH) gdu hdu9).frz ndH upd_same
  have s10 := same_frz (p := du) (g09.wr (o := .lst ((ws.set i v1).set j v2)) (.inl ndH) gdu hdu9).sub upd_same
  have hdu10 : upd G7 du (.lst ((ws.set i v1).set j v2)) du = some (.lst ((ws.set i v1).set j v2)) := upd_same
  generalize upd G7 du (.lst ((ws.set i v1).set j v2)) = G10 at *
  generalize upd H9 du (.lst ((ws.set i v1).set j v2)) = H10 at *
  have F10 := F.mono g10.ext
  have s310 := s37.trans s10
  have hts : IsTs G10 (bothOf ps i j p' q') ((ws.set i v1).set j v2) := (F10.ts.set i (hv1'.mono s310)).set j (hv2'.mono s310)
  have hx1' := (hx1'.mono g7.ext).mono s10
  have hx2' := hx2'.mono s10
  -- both
  refine ⟨_, rfl, _, rfl, G10, _, _, .ref rp, _, x1', rfl, g10.sub, F10.root, hx1', f1, S.r0.z6, S.r1.z6, S.r0.d24, S.r1.d24, OkR.does S.early S.r1, fun G11 w1 H11 g11 hw1 => ?_⟩
  refine ⟨_, rfl, _, rfl, G11, _, x2', _, nE (ps.set i p') j e2, rfl, g11.sub, hx2'.mono g11.ext, by rw [(to_wk _ _).2]; exact S.grow, fun G12 x3' H12 g12 hx3' => ?_⟩
  rw [to_to] at hx3'
  have g1012 := g11.trans g12
  refine ⟨G12, _, _, w1, _, x3', rfl, g12.sub, hw1.mono g12.ext, hx3', f2', S.r1.z6, S.r3.z6, S.r1.d24, S.r3.d24, OkR.does S.late' S.r3, fun G13 bv H13 g13 hbv => ?_⟩
  have g1013 := g1012.trans g13
  -- both != ('root', due)
  refine ⟨_, rfl, _, rfl, by show 2 ≤ sizeLine; decide, fun tp ntp => ?_⟩
  have g14 := (g1013.al (o := .tup [.str "root", .ref du]) ntp).frz (g1013.dom _ ntp) upd_same
  have s14 := same_frz (p := tp) (g1013.al (o := .tup [.str "root", .ref du]) ntp).sub upd_same
  have htp : upd G13 tp (.tup [.str "root", .ref du]) tp = some (.tup [.str "root", .ref du]) := upd_same
  have hbv' := hbv.mono s14
  generalize upd G13 tp (.tup [.str "root", .ref du]) = G14 at *
  generalize upd H13 tp (.tup [.str "root", .ref du]) = H14 at *
  refine neD_tr (t := rootOf (bothOf ps i j p' q')) g14.sub hbv' g14.sub ⟨tp, du, _, rfl, htp, g14.ext _ _ hdu10, hts.mono g14.ext⟩ S.r3.good S.r3.d30 ⟨_, rfl, iteF ?_⟩
  -- the other order
  refine ⟨_, rfl, _, rfl, G14, _, _, .ref rp, _, x2', rfl, g14.sub, F10.root.mono g14.ext, hx2'.mono g14.ext, f2, S.r0.z6, S.r2.z6, S.r0.d24, S.r2.d24, OkR.does S.late S.r2, fun G15 w2 H15 g15 hw2 => ?_⟩
  have g115 := g14.trans g15
  refine ⟨_, rfl, G15, _, _, w2, _, x1', rfl, g15.sub, hw2, hx1'.mono g115.ext, f1, S.r2.z6, S.r3.z6, S.r2.d24, S.r3.d24, OkR.does S.early' S.r3, fun G16 w3 H16 g16 hw3 => ?_⟩
  have g116 := g115.trans g16
  refine ⟨_, rfl, neD_tr g16.sub hw3 g16.sub ((hbv'.mono g15.ext).mono g16.ext) S.r3.good S.r3.d30 ⟨_, rfl, iteF ?_⟩⟩
  have gall := g10.trans g116
  have gP16 : G16 Pt = none := by
    obtain ⟨tb, htb, _⟩ := tP
    exact gall.free gP htb
  exact htr G16 H16 ps i j p q p' q' e1 e2 L rp _ x1' x2' bv _ _ _ _ _ _ _ _ _ _ _ _ _ _ _ S hx1 hd1 hx2 hd2 g16.sub gP16 (tP.ext gall.same) dk (F10.root.mono g116.ext) (hx1'.mono g116.ext) (hx2'.mono g116.ext) S.grow ((hbv'.mono g15.ext).mono g16.ext) fin
end
end K5
set_option Elab.async false
set_option linter.all false
set_option maxRecDepth 100000
set_option maxHeartbeats 4000000
namespace K5
open PySem PySem.Spec PyProof.Rows L2
/-! ### the law's walk -/
theorem OkP.of {t : Tr} {nms : List Str} (h : TrOk t 2 nms) : OkP t := ⟨h.good, h.el, Nat.le_trans h.z (by decide), Nat.le_trans h.d (by decide)⟩
theorem okp_edit {e : Ed} {t t' : Tr} {nms : List Str} (h : TrOk t 2 nms) (hdo : e.doW t t') (hx : e.xs ≤ 22) (hd : e.xd ≤ 4) : OkP t' := by
  have h1 := doW_size hdo
  have h2 := doW_depth hdo
  obtain ⟨h3, h4⟩ := doW_good hdo h.good
  have h5 : t.size ≤ 22 := h.z
  have h6 := h.d
  exact ⟨h3, by rw [h4]; exact h.el, by omega, by omega⟩
theorem doc_ok {ps : List Tr} {nms : List Str} (hl : ps.length = 3) (h : ∀ c ∈ ps, TrOk c 2 nms) (hn : ∀ x ∈ nms, x ∈ nms4) : DocOk (rootOf ps) ("root" :: nms4) 24 := by
  have ok := ok_root hl fun q hq => OkP.of (h q hq)
  have h1 := ok.z
  have h2 := ok.d
  refine ⟨rfl, ok.good, ?_, by omega, by omega, by omega, good_fit _ ok.good, by decide, fun k hk => ?_⟩
  · unfold Tr.rs
    rw [decide_eq_true (by omega), decide_eq_true (by omega)]; rfl
  · rcases List.mem_cons.mp hk with rfl | hk
    · exact List.mem_cons_self ..
    · obtain ⟨c, hc, hk⟩ := nmss_mem.mp hk
      exact List.mem_cons_of_mem _ (hn k ((h c hc).nm k hk))
theorem nms4_ok : ∀ x ∈ nms4, isNm x = true ∧ x.length ≤ 100 := by decide +kernel
def spLaw (K : PySem.W.Frag) (Pt : Addr) : Sp := fun vs H Q _ => ∃ (G : Hp) (l : Addr) (ns : List Int), vs = [.ref l] ∧ Same G H ∧ G Pt = none ∧ LamX.TabS H Pt qL ∧ SqL K H l (ns.map V.int) ∧ ns.length ≤ 63 ∧ (∀ H', Same H H' → SqL K H' l (ns.map V.int)) ∧ ∀ H', Q (.bl true) H'
section
variable {P : Program} {w : World} {K : PySem.W.Frag} {mg : Str → Option Value} {base : Heap} {k : Nat}
theorem ok_law {Pt f : Addr} {fd : FuncData} (F : Fun K "law" "law" s_law f fd) (T : Tx K mg) (h_edited : Hd P w K mg base "edited" ["tree", "edit"] k (spEd 24)) (h_law_moved : Hd P w K mg base "_law_moved" ["_law_edit_here", "_law_by"] k spLMoved) (h_Layers_init : Mkd P w K mg base "Layers" (cLy K) ["self", "tree"] k (spLayI K Pt 24))
    (h_Layers_lay : Md P w K mg base (cLy K) "lay" ["self", "edit"] [] k (spLay K 24)) (h_Layers_shown : Md P w K mg base (cLy K) "shown" ["self"] [] k (spShown K 24)) (h_taken_back : Hd P w K mg base "taken_back" ["tree", "edit"] k (spBack 24)) (h_Layers_lift : Md P w K mg base (cLy K) "lift" ["self"] [] k (spLift K)) (h_nodes_of : Hd P w K mg base "nodes_of" ["tree"] k spNodes) (h_law_draws : Hd P w K mg base "_law_draws" ["_law_script"] k (spDraws K)) (h_law_names : Hd P w K mg base "_law_names" ["_law_draws_here"] k spLNames) (h_law_tree : Hd P w K mg base "_law_tree" ["_law_draws_here", "_law_depth", "_law_names_here"] k (spLTree 5))
    (h_law_take : Hd P w K mg base "_law_take" ["_law_draws_here", "_law_bound"] k spTake) (h_law_inner : Hd P w K mg base "_law_inner" ["_law_draws_here", "_law_tree_here"] k (spLInner 30)) : FnOk P w K mg base CX0 (k + 1) f fd ["_law_script"] (spLaw K Pt) := by
  refine F.ok sc_law (fun vs H Q E h => ?_) (fun cdv A outer s H vs Q E hr h => ?_)
  · obtain ⟨G, l, ns, rfl, _⟩ := h; rfl
  obtain ⟨G, l, ns, rfl, sg, gP, tP, hl, hnz, hk, fin⟩ := h
  obtain ⟨tr, hps, htr⟩ := law_tail1 (P := P) (w := w) (base := base) (f := f) (cdv := cdv) (A := A) (outer := outer) (s := s) (H0 := H) (Q := Q) (E := E) T h_edited h_law_moved h_Layers_init h_Layers_lay h_Layers_shown h_taken_back h_Layers_lift h_nodes_of hr
  refine ⟨_, (pss_cons (ps_set (i := 1) sc_law.nd rfl (Or.inr rfl) (pe_hd h_law_draws hr rfl (pa_cons (pv 0) pa_nil)))
    (pss_cons (ps_set (i := 2) sc_law.nd rfl (Or.inr rfl) (pe_hd h_law_names hr rfl (pa_cons (pv 1) pa_nil)))
    (pss_cons (ps_setLc (i := 3) (own := [("_law_k", 4)]) (g := gName 4) (tt := tYes) rfl sc_law.nd rfl rfl (sw_true rfl rfl rfl (by decide +kernel)) (pi_range1 (by rfl) T.range (pa_cons pe_int pa_nil)) (blkOk_by (own := [("_law_k", 4)]) (N := ["_law_script", "_law_draws_here", "_law_names_here", "_law_parts", "_law_k", "_law_tree_here", "_law_pair", "_law_starts", "_law_part", "_law_first", "_law_second", "_law_made", "_law_grown", "_law_early", "_law_late", "_law_due", "_law_both", "_law_layers", "_law_other", "_law_back"]) (sc := defScope s_law) (by decide +kernel)) (fun _ _ _ _ _ => (pg_name (i := 4) sc_law.nd rfl (Or.inl rfl))) (fun _ _ _ _ _ => pts_nil) (fun _ _ _ _ _ => (pe_hd h_law_tree hr rfl (pa_cons (pv 1) (pa_cons pe_int (pa_cons (pv 2) pa_nil))))))
    (pss_cons (ps_set (i := 5) sc_law.nd rfl (Or.inl rfl) (pe_tup (pa_cons pe_str (pa_cons (pv 3) pa_nil))))
    (pss_cons (ps_set (i := 6) sc_law.nd rfl (Or.inl rfl) (pe_ix ix_list (pe_lst (pa_cons (pe_tup (pa_cons pe_int (pa_cons pe_int pa_nil))) (pa_cons (pe_tup (pa_cons pe_int (pa_cons pe_int pa_nil))) (pa_cons (pe_tup (pa_cons pe_int (pa_cons pe_int pa_nil))) pa_nil)))) (pe_hd h_law_take hr rfl (pa_cons (pv 1) (pa_cons pe_int pa_nil))) (fun _ _ => rfl)))
    (pss_cons (ps_set (i := 7) sc_law.nd rfl (Or.inl rfl) (pe_lst (pa_cons pe_int pa_nil)))
    (pss_cons (ps_for PassesOwn.never rfl (pi_list (pv 3)) (pg_name (i := 8) sc_law.nd rfl (Or.inl rfl))
    (pss_one (ps_expr (pe_bm PySem.F.plainAttrs_list PySem.F.slot_list_append PySem.F.type_list_append mt_append (pv 7) (pa_cons (pe_op op_add (pe_ix ix_list (pv 7) (pe_op op_sub (pe_callB call_len_seq (by rfl) T.len (by decide +kernel) (pa_cons (pv 7) pa_nil)) pe_int) (fun _ _ => rfl)) (pe_callB call_len_seq (by rfl) T.len (by decide +kernel) (pa_cons (pe_hd h_nodes_of hr rfl (pa_cons (pv 8) pa_nil)) pa_nil))) pa_nil)))))
    (pss_cons (ps_set (i := 9) sc_law.nd rfl (Or.inl rfl) (pe_hd h_law_inner hr rfl (pa_cons (pv 1) (pa_cons (pe_ix ix_list (pv 3) (pe_ix ix_tup (pv 6) pe_int (fun _ _ => rfl)) (fun _ _ => rfl)) pa_nil))))
    (pss_cons (ps_set (i := 10) sc_law.nd rfl (Or.inl rfl) (pe_hd h_law_inner hr rfl (pa_cons (pv 1) (pa_cons (pe_ix ix_list (pv 3) (pe_ix ix_tup (pv 6) pe_int (fun _ _ => rfl)) (fun _ _ => rfl)) pa_nil))))
    hps))))))))), ?_⟩
  refine ⟨_, rfl, l, ns, rfl, hl, hnz, hk, fun d ns1 H1 s1 nd hd1 => ?_⟩
  have g1 : Gr W0 G H G H1 := .of sg s1
  have D1 : DrP G H1 d ns1 := ⟨g1.sub, same_none sg nd, hd1⟩
  have T1 := tP.ext s1
  -- names
  refine ⟨_, rfl, G, d, ns1, rfl, D1, fun nl nms ns2 H2 g2 D2 nnl hnl hne hn4 hmem => ?_⟩
  have T2 : LamX.TabS H2 Pt qL := tab_gr T1 g2 fun b hb => ⟨_, (congrArg H1 hb).trans hd1⟩
  have edn : d ≠ nl := ne_of_none hd1 nnl
  have gP2 : G nl = none := same_none g1.sub nnl
  have s2 := same_frz (p := nl) D2.s hnl
  have D2' := D2.fz edn hnl
  have hnl2 : upd G nl (.lst (nms.map V.str)) nl = some (.lst (nms.map V.str)) := upd_same
  have gP2 : upd G nl (.lst (nms.map V.str)) Pt = none := by
    obtain ⟨tb, htb, _⟩ := T2
    rw [upd_ne (fun z => by rw [z, hnl] at htb; cases htb)]
    exact gP
  generalize upd G nl (.lst (nms.map V.str)) = G2 at *
  have hnm : ∀ x ∈ nms, isNm x = true ∧ x.length ≤ 100 := fun x hx => nms4_ok x (hmem x hx)
  -- parts
  refine ⟨3, rfl, by decide, by decide, fun lp nlp => lc_it walk_r0 (fun i H => ∃ (G' : Hp) (ns : List Int) (cs : List Tr) (ys : List V), Gr (· = d) G2 H2 G' H ∧ DrP G' H d ns ∧ H lp = some (.lst ys) ∧ G' lp = none ∧ IsTs G' cs ys ∧ cs.length = i ∧ ∀ c ∈ cs, TrOk c 2 nms)
    ⟨G2, ns2, [], [], .alloc D2'.s nlp, D2'.al nlp, upd_same, same_none D2'.s nlp, rfl, rfl, fun c hc => by cases hc⟩ (fun _ _ _ _ => trivial) ?_ ?_⟩
  · rintro i x H3 H4 hi ⟨G', ns3, cs, ys, gr, D3, hy, gD, hts, hcl, hok⟩ ⟨rfl, rfl⟩
    have edl : lp ≠ d := fun z => by rw [z, D2.h] at nlp; cases nlp
    refine ⟨rfl, ty_yes ⟨_, rfl, _, rfl, G', d, nl, ns3, 2, nms, rfl, D3, by decide, by decide, gr.ext _ _ hnl2, hne, by omega, hnm, fun G4 t v ns4 H5 g4 D4 ht ok => ?_⟩⟩
    have h4 := g4.at_ hy edl
    have g4D := g4.free gD hy
    have hyl := hts.len
    refine ⟨ys, h4, smallT (by omega), G4, ns4, cs ++ [t], ys ++ [v], (gr.trans g4).wr (.inl nlp) g4D h4, ⟨((gr.trans g4).wr (.inl nlp) g4D h4).sub, D4.g, by rw [upd_ne edl.symm]; exact D4.h⟩, upd_same, g4D, (hts.mono g4.ext).snoc ht, by simp [hcl], fun c hc => ?_⟩
    rcases List.mem_append.mp hc with q | q
    · exact hok c q
    · rw [List.mem_singleton.mp q]; exact ok
  rintro H3 ⟨G3, ns3, ps, ws, g3, D3, hlp, gl3, hts, hpl, hok⟩
  have hpl : ps.length = 3 := hpl
  have edl : d ≠ lp := ne_of_none D2.h nlp
  have T3 : LamX.TabS H3 Pt qL := tab_gr T2 g3 fun b hb => ⟨_, (congrArg H2 hb).trans D2.h⟩
  have hws := hts.len
  -- root
  refine ⟨_, rfl, by show 2 ≤ sizeLine; decide, fun rp nrp => ?_⟩
  have erl : lp ≠ rp := ne_of_none hlp nrp
  have edr : d ≠ rp := ne_of_none D3.h nrp
  have hlp4 : upd H3 rp (.tup [.str "root", .ref lp]) lp = some (.lst ws) := by rw [upd_ne erl]; exact hlp
  have T4 : LamX.TabS (upd H3 rp (.tup [.str "root", .ref lp])) Pt qL := T3.ext (Same.up nrp)
  have g4a := (g3.al (o := .tup [.str "root", .ref lp]) nrp).frz nlp hlp4
  have D4a := (D3.al (o := .tup [.str "root", .ref lp]) nrp).fz edl hlp4
  have s4a := same_frz (p := lp) (g3.al (o := .tup [.str "root", .ref lp]) nrp).sub hlp4
  have g4 := g4a.frz (p := rp) (g3.dom _ nrp) upd_same
  have D4 := D4a.fz edr upd_same
  have s4 := s4a.trans (same_frz (p := rp) g4a.sub upd_same)
  have hrp4 : upd (upd G3 lp (.lst ws)) rp (.tup [.str "root", .ref lp]) rp = some (.tup [.str "root", .ref lp]) := upd_same
  have hlpG : upd (upd G3 lp (.lst ws)) rp (.tup [.str "root", .ref lp]) lp = some (.lst ws) := by rw [upd_ne erl, upd_same]
  have hts4 := hts.mono s4
  generalize upd (upd G3 lp (.lst ws)) rp (.tup [.str "root", .ref lp]) = G4 at *
  generalize upd H3 rp (.tup [.str "root", .ref lp]) = H4 at *
  -- pair
  refine ⟨by show 2 ≤ sizeLine; decide, fun q1 m1 => ⟨by show 2 ≤ sizeLine; decide, fun q2 m2 => ⟨by show 2 ≤ sizeLine; decide, fun q3 m3 => ⟨by show 3 ≤ sizeLine; decide, fun q4 m4 => ?_⟩⟩⟩⟩
  have k1 : upd H4 q1 (.tup [.int 0, .int 1]) q1 = some (.tup [nV 0, nV 1]) := upd_same
  have a1 := g4.al (o := .tup [.int 0, .int 1]) m1
  have b1 := D4.al (o := .tup [.int 0, .int 1]) m1
  have t1 := T4.ext (Same.up (o := .tup [.int 0, .int 1]) m1)
  have f1 := g4.dom _ m1
  generalize upd H4 q1 (.tup [.int 0, .int 1]) = H5 at *
  have k12 : upd H5 q2 (.tup [.int 0, .int 2]) q1 = some (.tup [nV 0, nV 1]) := by rw [upd_ne (ne_of_none k1 m2)]; exact k1
  have k2 : upd H5 q2 (.tup [.int 0, .int 2]) q2 = some (.tup [nV 0, nV 2]) := upd_same
  have a2 := a1.al (o := .tup [.int 0, .int 2]) m2
  have b2 := b1.al (o := .tup [.int 0, .int 2]) m2
  have t2 := t1.ext (Same.up (o := .tup [.int 0, .int 2]) m2)
  have f2 := a1.dom _ m2
  generalize upd H5 q2 (.tup [.int 0, .int 2]) = H6 at *
  have k13 : upd H6 q3 (.tup [.int 1, .int 2]) q1 = some (.tup [nV 0, nV 1]) := by rw [upd_ne (ne_of_none k12 m3)]; exact k12
  have k23 : upd H6 q3 (.tup [.int 1, .int 2]) q2 = some (.tup [nV 0, nV 2]) := by rw [upd_ne (ne_of_none k2 m3)]; exact k2
  have k3 : upd H6 q3 (.tup [.int 1, .int 2]) q3 = some (.tup [nV 1, nV 2]) := upd_same
  have a3 := a2.al (o := .tup [.int 1, .int 2]) m3
  have b3 := b2.al (o := .tup [.int 1, .int 2]) m3
  have t3 := t2.ext (Same.up (o := .tup [.int 1, .int 2]) m3)
  have f3 := a2.dom _ m3
  generalize upd H6 q3 (.tup [.int 1, .int 2]) = H7 at *
  have k14 : upd H7 q4 (.lst [.ref q1, .ref q2, .ref q3]) q1 = some (.tup [nV 0, nV 1]) := by rw [upd_ne (ne_of_none k13 m4)]; exact k13
  have k24 : upd H7 q4 (.lst [.ref q1, .ref q2, .ref q3]) q2 = some (.tup [nV 0, nV 2]) := by rw [upd_ne (ne_of_none k23 m4)]; exact k23
  have k34 : upd H7 q4 (.lst [.ref q1, .ref q2, .ref q3]) q3 = some (.tup [nV 1, nV 2]) := by rw [upd_ne (ne_of_none k3 m4)]; exact k3
  have k4 : upd H7 q4 (.lst [.ref q1, .ref q2, .ref q3]) q4 = some (.lst [.ref q1, .ref q2, .ref q3]) := upd_same
  have a4 := a3.al (o := .lst [.ref q1, .ref q2, .ref q3]) m4
  have b4 := b3.al (o := .lst [.ref q1, .ref q2, .ref q3]) m4
  have t4 := t3.ext (Same.up (o := .lst [.ref q1, .ref q2, .ref q3]) m4)
  have ed4 : q4 ≠ d := (ne_of_none b3.h m4).symm
  generalize upd H7 q4 (.lst [.ref q1, .ref q2, .ref q3]) = H8 at *
  refine ⟨_, rfl, G4, d, ns3, 3, rfl, by decide, b4, fun x ns5 H9 hx g9 D9 => ?_⟩
  have T9 : LamX.TabS H9 Pt qL := tab_gr t4 g9 fun b hb => ⟨_, (congrArg H8 hb).trans b4.h⟩
  have nd : ∀ {q : Addr} {us : List V}, H8 q = some (.tup us) → q ≠ d := fun h z => by rw [z, b4.h] at h; cases h
  have hpr : ∃ (pr : Addr) (i j : Nat), [V.ref q1, .ref q2, .ref q3][x]? = some (.ref pr) ∧ H9 pr = some (.tup [nV i, nV j]) ∧ H2 pr = none ∧ i < j ∧ j < 3 := by
    rcases (show x = 0 ∨ x = 1 ∨ x = 2 by omega) with rfl | rfl | rfl
    · exact ⟨q1, 0, 1, rfl, g9.at_ k14 (nd k14), f1, by decide, by decide⟩
    · exact ⟨q2, 0, 2, rfl, g9.at_ k24 (nd k24), f2, by decide, by decide⟩
    · exact ⟨q3, 1, 2, rfl, g9.at_ k34 (nd k34), f3, by decide, by decide⟩
  obtain ⟨pr, i, j, hget, hpr, npr, hij, hj3⟩ := hpr
  refine ⟨q4, _, _, .ref pr, rfl, rfl, SqL.of (g9.at_ k4 ed4), atI_n rfl hget, ?_⟩
  have edp : d ≠ pr := fun z => by rw [← z, D9.h] at hpr; cases hpr
  have g10 := (a4.trans g9).frz npr hpr
  have s10 := same_frz (p := pr) (a4.trans g9).sub hpr
  have D10 := D9.fz edp hpr
  have hprG : upd G4 pr (.tup [nV i, nV j]) pr = some (.tup [nV i, nV j]) := upd_same
  generalize upd G4 pr (.tup [nV i, nV j]) = G10 at *
  -- starts
  refine ⟨by show 1 ≤ sizeLine; decide, fun st nst => ?_⟩
  have g11 : Gr W0 G10 H9 G10 (upd H9 st (.lst [.int 1])) := .alloc D10.s nst
  have gst : G10 st = none := same_none D10.s nst
  refine ⟨_, rfl, lp, rfl, ⟨_, SqL.of (g11.sub _ _ (s10 _ _ hlpG))⟩, for_it walk_list (fun i σ Hi => ∃ x8 : Option V, σ = [some (.ref l), some (.ref d), some (.ref nl), some (.ref lp), none, some (.ref rp), some (.ref pr), some (.ref st), x8, none, none, none, none, none, none, none, none, none, none, none] ∧ Gr W0 G10 H9 G10 Hi ∧ Hi st = some (.lst (vN (sts ps (i + 1)))))
    ⟨none, rfl, g11, upd_same⟩ (fun i σ Hi _ ⟨_, _, gi, _⟩ => SqL.of (gi.sub _ _ (s10 _ _ hlpG))) ?_ ?_⟩
  · rintro m y σ Ha Hb hm ⟨x8, rfl, gi, hst⟩ ⟨rfl, hy⟩
    obtain ⟨c, hc, hcy⟩ := (hts4.mono s10).at_ hy
    have hsl : (vN (sts ps (m + 1))).length = m + 1 := by simp [sts]
    have hlast : (vN (sts ps (m + 1)))[m]? = some (nV (1 + Tr.sizes (ps.take m))) := by simp [sts]
    refine ⟨_, rfl, .inl ⟨rfl, _, SqL.of hst⟩, _, rfl, _, rfl, st, _, rfl, .inl (SqL.of hst), _, 1, rfl, rfl, st, _, _, _, rfl, rfl, SqL.of hst, atI_n (j := m) (by omega) hlast, _, rfl, G10, c, y, rfl, gi.sub, hcy, (OkP.of (hok c (List.mem_of_getElem? hc))).z6, fun pa wa Hc gc nc ha ia => ⟨pa, _, rfl, .inl (SqL.of ha), ((1 + Tr.sizes (ps.take m) : Nat) : Int), ((wa.length : Nat) : Int), rfl, rfl, st, _, _, rfl, rfl, gc.same _ _ hst, smallT (by omega), some y, rfl, ?_, ?_⟩⟩
    · exact (gi.trans gc).wr (.inl nst) gst (gc.same _ _ hst)
    · rw [upd_same]
      have e1 : ((1 + Tr.sizes (ps.take m) : Nat) : Int) + ((wa.length : Nat) : Int) = ((1 + Tr.sizes (ps.take (m + 1)) : Nat) : Int) := by
        rw [ia.len, nodes_len, List.take_add_one, hc, sizes_app]
        simp only [Option.toList, Tr.sizes]
        omega
      simp only [e1]
      congr 2
      simp [sts, List.range_succ]
  rintro σ Hi ⟨x8, rfl, gi, hst⟩
  rw [show ws.length + 1 = 4 by omega] at hst
  have g12a := gi.frz (p := st) nst hst
  have s12 := same_frz (p := st) gi.sub hst
  have eds : d ≠ st := ne_of_none D10.h nst
  have D12 := (D10.mono gi).fz eds hst
  have T12 : LamX.TabS Hi Pt qL := T9.ext gi.same
  have F12 : LF (upd G10 st (.lst (vN (sts ps 4)))) ps i j ws lp rp pr st := ⟨s12 _ _ (s10 _ _ hlpG), (hts4.mono s10).mono s12, s12 _ _ (s10 _ _ hrp4), s12 _ _ hprG, upd_same⟩
  have g12 := g10.trans (Gr.mono (W := (· = d)) g12a)
  generalize upd G10 st (.lst (vN (sts ps 4))) = G12 at *
  -- the two edits
  have hpi : ps[i]? = some ps[i] := List.getElem?_eq_getElem (by omega)
  have hqj : ps[j]? = some ps[j] := List.getElem?_eq_getElem (by omega)
  generalize ps[i] = p at hpi
  generalize ps[j] = q at hqj
  obtain ⟨pv, hpv, hp⟩ := F12.ts.get hpi
  obtain ⟨qv, hqv, hq⟩ := F12.ts.get hqj
  have okp := hok p (List.mem_of_getElem? hpi)
  have okq := hok q (List.mem_of_getElem? hqj)
  have zp : p.size ≤ 22 := okp.z
  have zq : q.size ≤ 22 := okq.z
  have dp := okp.d
  have dq := okq.d
  refine ⟨_, rfl, _, rfl, _, rfl, pr, _, _, _, rfl, rfl, SqT.of (g12.sub _ _ F12.hpr), at_0, lp, ws, _, pv, rfl, rfl, SqL.of (g12.sub _ _ F12.hlp), atI_n rfl hpv, G12, d, p, pv, _, rfl, D12, hp, okp.el, by omega, by omega, fun G13 e1 ev1 p' ns13 H13 g13 D13 he1 hf1 hx1 hd1 hdo1 => ?_⟩
  have T13 : LamX.TabS H13 Pt qL := tab_gr T12 g13 fun b hb => ⟨_, (congrArg Hi hb).trans D12.h⟩
  have F13 := F12.mono g13.ext
  have g0013 := g12.trans g13
  refine ⟨_, rfl, _, rfl, _, rfl, pr, _, _, _, rfl, rfl, SqT.of (g13.sub _ _ F13.hpr), at_1, lp, ws, _, qv, rfl, rfl, SqL.of (g13.sub _ _ F13.hlp), atI_n rfl hqv, G13, d, q, qv, _, rfl, D13, hq.mono g13.ext, okq.el, by omega, by omega, fun G14 e2 ev2 q' ns14 H14 g14 D14 he2 hf2 hx2 hd2 hdo2 => ?_⟩
  have T14 : LamX.TabS H14 Pt qL := tab_gr T13 g14 fun b hb => ⟨_, (congrArg H13 hb).trans D13.h⟩
  have gall := g0013.trans g14
  have gP14 : G14 Pt = none := by
    obtain ⟨tb, htb, _⟩ := T2
    exact gall.free gP2 htb
  have S : Sc ps i j p q p' q' e1 e2 := ⟨hpl, hij, hj3, hpi, hqj, hdo1, hdo2, fun t ht => OkP.of (hok t ht), okp_edit okp hdo1 hx1 hd1, okp_edit okq hdo2 hx2 hd2⟩
  exact htr G14 H14 ps i j p q p' q' e1 e2 ("root" :: nms4) ws lp rp pr st ev1 ev2 _ _ _ _ _ _ _ _ _ _ _ _ _ _ S (by omega) (by omega) (by omega) (by omega) D14.s gP14 T14 (doc_ok hpl hok hmem) (F13.mono g14.ext) (he1.mono g14.ext) he2 hf1 hf2 fin
end
end K5
set_option Elab.async false
set_option linter.all false
set_option maxRecDepth 100000
set_option maxHeartbeats 0
namespace Hd
open PySem PySem.Spec PyProof.Rows L2 K5
/-! ### the facts of the head, def by def -/
section
variable {K : PySem.W.Frag} {h : Heap} {h0 : Heap} {mg : Str → Option Value}
theorem _root_.K5.tab0 {H : Hp} {Pt : Addr} {q : Str} (e : H Pt = some (.tbl #[])) : LamX.TabS H Pt q := ⟨#[], e, trivial, fun pos cv z => by cases z⟩
theorem _root_.K5.sql_same {H H' : Hp} {a : Addr} {xs : List V} (h : SqL K H a xs) (e : Same H H') : SqL K H' a xs :=
  h.elim (fun h => .inl (h.elim (fun h => .inl (e _ _ h)) fun ⟨o, h⟩ => .inr ⟨o, e _ _ h⟩)) fun h => .inr h
theorem df (X : K.In h) (G : h.Ns mainGlobals mg) (c : SaysM h0 K) (i j : Nat) {x : Str} {st : Stmt} (hi : fn[i]? = some ⟨(x, none), x, x, defArgs st, defBody st, defScope st, [], []⟩) (hj : fa[j]? = some (.glo x)) : Df K mg x st := by
  obtain ⟨fd, F⟩ := c.d.def_ i hi
  exact ⟨⟨_, fd, He5.fun_of F, He.glo_ok X G (c.d.fact j hj)⟩⟩
theorem dm (c : SaysM h0 K) (i j : Nat) {C m qual : Str} {st : Stmt} (hi : fn[i]? = some ⟨(C, some m), m, qual, defArgs st, defBody st, defScope st, [], []⟩) (hj : fa[j]? = some (.meth C m)) : Dm K (He.ga K C) m qual st := by
  obtain ⟨fd, F⟩ := c.d.def_ i hi
  exact ⟨⟨_, fd, He5.fun_of F, He.meth_ok (c.d.fact j hj)⟩⟩
theorem dn (c : SaysM h0 K) (i j : Nat) {C m qual : Str} {st : Stmt} {z : Int} (hi : fn[i]? = some ⟨(C, some m), m, qual, defArgs st, defBody st, defScope st, [.int z], []⟩) (hj : fa[j]? = some (.meth C m)) : Dn K (He.ga K C) m qual st (.int z) := by
  obtain ⟨fd, F⟩ := c.d.def_ i hi
  exact ⟨⟨_, fd, F, He.meth_ok (c.d.fact j hj)⟩⟩
theorem di (X : K.In h) (G : h.Ns mainGlobals mg) (c : SaysM h0 K) (i j l : Nat) {C qual : Str} {st : Stmt} (hi : fn[i]? = some ⟨(C, some "__init__"), "__init__", qual, defArgs st, defBody st, defScope st, [], []⟩) (hj : fa[j]? = some (.mkr C)) (hl : fa[l]? = some (.glo C)) : Di K mg C (He.ga K C) qual st := by
  obtain ⟨fd, F⟩ := c.d.def_ i hi
  exact ⟨⟨_, fd, He5.fun_of F, He.mkr_ok (c.d.fact j hj), He.glo_ok X G (c.d.fact l hl)⟩⟩
theorem dt (X : K.In h) (G : h.Ns mainGlobals mg) (c : SaysM h0 K) (i j : Nat) {x : Str} {st : Stmt} (hi : fn[i]? = some ⟨(x, none), x, x, defArgs st, defBody st, defScope st, [], []⟩) (hj : fa[j]? = some (.glo x)) : Dt K mg x st (He.cT K (x, none)).1 := by
  obtain ⟨fd, F⟩ := c.d.def_ i hi
  obtain ⟨oc, od, dV, kV, doc, pm, an, cdv, ct, osl, e, l, cd, hd, _⟩ := F.ex
  rcases hd with ⟨_, e2⟩ | ⟨e2, _⟩
  · subst e2
    obtain ⟨cc, rfl⟩ := He.codeIn_ref cd
    have hc : He.codeOf K (x, none) = cc := He.codeOf_eq l (by rw [e])
    subst e
    refine ⟨⟨He.ga K x, oc, od, kV, doc, pm, an, ct, osl, ?_, ?_, F.kp, He.glo_ok X G (c.d.fact j hj)⟩⟩
    · show K.lookup (He.ga K x) = _
      rw [show (He.cT K (x, none)).1 = cc from hc]
      exact l
    · rw [show (He.cT K (x, none)).1 = cc from hc]
      exact cd
  · exact absurd rfl e2
theorem hd_alias {P : Program} {w : World} {base : Heap} {x y : Str} {ps : List Str} {k : Nat} {sp : Sp} (D : K5.Hd P w K mg base x ps k sp) (e : mg y = mg x) : K5.Hd P w K mg base y ps k sp := by
  obtain ⟨f, fd, a, b, cc, F⟩ := D.ex
  exact ⟨⟨f, fd, e.trans a, b, cc, F⟩⟩
theorem tx (X : K.In h) (G : h.Ns mainGlobals mg) (c : SaysM h0 K) : Tx K mg where
  len := He.free_ok X G (c.d.fact 57 rfl)
  all := He.free_ok X G (c.d.fact 58 rfl)
  isinstance := He.free_ok X G (c.d.fact 59 rfl)
  any := He.free_ok X G (c.d.fact 60 rfl)
  enumerate := He.free_ok X G (c.d.fact 61 rfl)
  list := He.free_ok X G (c.d.fact 62 rfl)
  reversed := He.free_ok X G (c.d.fact 63 rfl)
  max := He.free_ok X G (c.d.fact 64 rfl)
  sum := He.free_ok X G (c.d.fact 65 rfl)
  range := He.free_ok X G (c.d.fact 66 rfl)
  int := He.free_ok X G (c.d.fact 67 rfl)
  min := He.free_ok X G (c.d.fact 68 rfl)
  sorted := He.free_ok X G (c.d.fact 69 rfl)
  set := He.free_ok X G (c.d.fact 70 rfl)
  zip := He.free_ok X G (c.d.fact 71 rfl)
  abs := He.free_ok X G (c.d.fact 72 rfl)
  str := He.free_ok X G (c.d.fact 73 rfl)
  MOST_LETTERS := He.int_ok X G (c.d.fact 74 rfl)
  MOST_TEXT := He.int_ok X G (c.d.fact 75 rfl)
  MOST_NODES := He.int_ok X G (c.d.fact 76 rfl)
  MOST_DEPTH_plain := He.int_ok X G (c.d.fact 77 rfl)
  BLOCK := He.int_ok X G (c.d.fact 78 rfl)
  MOST_ROWS := He.int_ok X G (c.d.fact 79 rfl)
  MOST_DEPTH_judge := He.int_ok X G (c.d.fact 80 rfl)
  MOST_SYMBOLS := He.int_ok X G (c.d.fact 81 rfl)
  LETTERS := He.str_ok X G (c.d.fact 82 rfl)
  cBits := He.cls_ok (c.d.fact 84 rfl)
  nBits__row := He.noat_ok (c.d.fact 86 rfl)
  nBits__before := He.noat_ok (c.d.fact 87 rfl)
  nBits_size := He.noat_ok (c.d.fact 88 rfl)
  nBits_ones := He.noat_ok (c.d.fact 89 rfl)
  cRows := He.cls_ok (c.d.fact 97 rfl)
  nRows_names := He.noat_ok (c.d.fact 99 rfl)
  nRows_labels := He.noat_ok (c.d.fact 100 rfl)
  nRows_lasts := He.noat_ok (c.d.fact 101 rfl)
  nRows_fulls := He.noat_ok (c.d.fact 102 rfl)
  nRows_texts := He.noat_ok (c.d.fact 103 rfl)
  cGatherer := He.cls_ok (c.d.fact 106 rfl)
  nGatherer_names := He.noat_ok (c.d.fact 108 rfl)
  nGatherer_nodes := He.noat_ok (c.d.fact 109 rfl)
  cWave := He.cls_ok (c.d.fact 113 rfl)
  nWave_size := He.noat_ok (c.d.fact 115 rfl)
  nWave_length := He.noat_ok (c.d.fact 116 rfl)
  nWave_levels := He.noat_ok (c.d.fact 117 rfl)
  cKept := He.cls_ok (c.d.fact 128 rfl)
  nKept_names := He.noat_ok (c.d.fact 130 rfl)
  nKept_texts := He.noat_ok (c.d.fact 131 rfl)
  nKept_wave := He.noat_ok (c.d.fact 132 rfl)
  nKept_lasts := He.noat_ok (c.d.fact 133 rfl)
  nKept_size := He.noat_ok (c.d.fact 134 rfl)
  nKept_starts := He.noat_ok (c.d.fact 135 rfl)
  cView := He.cls_ok (c.d.fact 142 rfl)
  nView_kept := He.noat_ok (c.d.fact 144 rfl)
  cLayers := He.cls_ok (c.d.fact 157 rfl)
  nLayers_view := He.noat_ok (c.d.fact 159 rfl)
  nLayers_laid := He.noat_ok (c.d.fact 160 rfl)
  nLayers_tops := He.noat_ok (c.d.fact 161 rfl)
theorem law_ok {P : Program} {w : World} {base : Heap} {f : Addr} {fd : FuncData} (X : K.In h) (G : h.Ns mainGlobals mg) (c : SaysM h0 K) (FL : Fun K "law" "law" s_law f fd) (TB : LamX.TabB base mg (He.cT K ("rows_of", none)).1 (He.cT K ("rows_of", none)).2) :
    FnOk P w K mg base CX0 56 f fd ["_law_script"] (spLaw K (He.cT K ("rows_of", none)).2) := by
  have T := tx X G c
  have h_is_character := hd_is_character (P := P) (w := w) (base := base) (k := 0) (df X G c 1 1 rfl rfl)
  have h_is_string := hd_is_string (P := P) (w := w) (base := base) (k := 0) (df X G c 3 3 rfl rfl) T
  have h_is_name := hd_is_name (P := P) (w := w) (base := base) (k := 0) (df X G c 0 0 rfl rfl) T
  have h_is_text := hd_is_text (P := P) (w := w) (base := base) (k := 1) (df X G c 2 2 rfl rfl) T (h_is_character.mono (Nat.le_of_ble_eq_true rfl))
  have h_copied := hd_copied (P := P) (w := w) (base := base) (k := 1) (df X G c 4 4 rfl rfl) (h_is_string.mono (Nat.le_of_ble_eq_true rfl)) 24
  have h_are_apart := hd_are_apart (P := P) (w := w) (base := base) (k := 1) (df X G c 5 5 rfl rfl) T (h_is_string.mono (Nat.le_of_ble_eq_true rfl))
  have h_nodes_of := hd_nodes_of (P := P) (w := w) (base := base) (k := 1) (df X G c 8 8 rfl rfl) T (h_is_string.mono (Nat.le_of_ble_eq_true rfl))
  have h_weight_of := hd_weight_of (P := P) (w := w) (base := base) (k := 2) (df X G c 13 13 rfl rfl) T (h_nodes_of.mono (Nat.le_of_ble_eq_true rfl))
  have h_node_at := hd_node_at (P := P) (w := w) (base := base) (k := 2) (df X G c 12 12 rfl rfl) T (h_nodes_of.mono (Nat.le_of_ble_eq_true rfl))
  have h_is_tree := hd_is_tree (P := P) (w := w) (base := base) (k := 2) (df X G c 6 6 rfl rfl) T (h_is_string.mono (Nat.le_of_ble_eq_true rfl)) (h_is_text.mono (Nat.le_of_ble_eq_true rfl)) (h_is_name.mono (Nat.le_of_ble_eq_true rfl)) (h_are_apart.mono (Nat.le_of_ble_eq_true rfl))
  have h_depth_within := hd_depth_within (P := P) (w := w) (base := base) (k := 1) (df X G c 7 7 rfl rfl) T (h_is_string.mono (Nat.le_of_ble_eq_true rfl))
  have h_has_right_size := hd_has_right_size (P := P) (w := w) (base := base) (k := 2) (df X G c 9 9 rfl rfl) T (h_nodes_of.mono (Nat.le_of_ble_eq_true rfl)) (h_depth_within.mono (Nat.le_of_ble_eq_true rfl))
  have h_is_document := hd_is_document (P := P) (w := w) (base := base) (k := 3) (df X G c 10 10 rfl rfl) (h_is_string.mono (Nat.le_of_ble_eq_true rfl)) (h_is_tree.mono (Nat.le_of_ble_eq_true rfl)) (h_has_right_size.mono (Nat.le_of_ble_eq_true rfl))
  have h_ways_of := hd_ways_of (P := P) (w := w) (base := base) (k := 1) (df X G c 11 11 rfl rfl) T (h_is_string.mono (Nat.le_of_ble_eq_true rfl))
  have h_spot_of := hd_spot_of (P := P) (w := w) (base := base) (k := 2) (df X G c 20 20 rfl rfl) T (h_ways_of.mono (Nat.le_of_ble_eq_true rfl))
  have h_replaced := hd_replaced (P := P) (w := w) (base := base) (k := 3) (df X G c 14 14 rfl rfl) (h_weight_of.mono (Nat.le_of_ble_eq_true rfl)) 24
  have h_check_kind := hd_check_kind (P := P) (w := w) (base := base) (k := 3) (df X G c 15 15 rfl rfl) (h_is_string.mono (Nat.le_of_ble_eq_true rfl)) (h_weight_of.mono (Nat.le_of_ble_eq_true rfl)) (h_node_at.mono (Nat.le_of_ble_eq_true rfl))
  have h_check_given := hd_check_given (P := P) (w := w) (base := base) (k := 3) (df X G c 16 16 rfl rfl) T (h_is_name.mono (Nat.le_of_ble_eq_true rfl)) (h_is_text.mono (Nat.le_of_ble_eq_true rfl)) (h_is_tree.mono (Nat.le_of_ble_eq_true rfl))
  have h_with_edit := hd_with_edit (P := P) (w := w) (base := base) (k := 27) (df X G c 19 19 rfl rfl) 24 (h_check_kind.mono (Nat.le_of_ble_eq_true rfl)) (h_check_given.mono (Nat.le_of_ble_eq_true rfl)) (h_replaced.mono (Nat.le_of_ble_eq_true rfl)) (h_are_apart.mono (Nat.le_of_ble_eq_true rfl)) (h_has_right_size.mono (Nat.le_of_ble_eq_true rfl)) (h_spot_of.mono (Nat.le_of_ble_eq_true rfl)) (h_node_at.mono (Nat.le_of_ble_eq_true rfl))
  have h_edited := hd_edited (P := P) (w := w) (base := base) (k := 28) (df X G c 18 18 rfl rfl) 24 (h_with_edit.mono (Nat.le_of_ble_eq_true rfl)) (h_copied.mono (Nat.le_of_ble_eq_true rfl))
  have h_copied_edit := hd_copied_edit (P := P) (w := w) (base := base) (k := 25) (df X G c 17 17 rfl rfl) 24 (h_copied.mono (Nat.le_of_ble_eq_true rfl))
  have h_taken_back := hd_taken_back (P := P) (w := w) (base := base) (k := 28) (df X G c 21 21 rfl rfl) T 24 (h_with_edit.mono (Nat.le_of_ble_eq_true rfl)) (h_copied.mono (Nat.le_of_ble_eq_true rfl)) (h_node_at.mono (Nat.le_of_ble_eq_true rfl)) (h_spot_of.mono (Nat.le_of_ble_eq_true rfl)) (h_weight_of.mono (Nat.le_of_ble_eq_true rfl))
  have h_Bits_at := md_Bits_at (P := P) (w := w) (base := base) (k := 0) (dm c 24 92 rfl rfl) T
  have h_Bits_before_block := md_Bits_before_block (P := P) (w := w) (base := base) (k := 0) (dm c 26 94 rfl rfl) T
  have h_Bits_init := mkd_Bits (P := P) (w := w) (base := base) (k := 0) (di X G c 22 85 83 rfl rfl rfl) T
  have h_Bits_rank := md_Bits_rank (P := P) (w := w) (base := base) (k := 0) (dn c 25 93 rfl rfl) T
  have h_Bits_select := md_Bits_select (P := P) (w := w) (base := base) (k := 1) (dn c 27 95 rfl rfl) T (h_Bits_rank.mono (Nat.le_of_ble_eq_true rfl)) (h_Bits_before_block.mono (Nat.le_of_ble_eq_true rfl))
  have h_below := hd_below (P := P) (w := w) (base := base) (k := 1) (df X G c 51 33 rfl rfl) T (h_Bits_rank.mono (Nat.le_of_ble_eq_true rfl))
  have h_parted := hd_parted (P := P) (w := w) (base := base) (k := 0) (df X G c 50 32 rfl rfl) T
  have h_Wave_at := md_Wave_at (P := P) (w := w) (base := base) (k := 2) (dm c 43 120 rfl rfl) T (h_Bits_at.mono (Nat.le_of_ble_eq_true rfl)) (h_below.mono (Nat.le_of_ble_eq_true rfl))
  have h_Wave_digits_of := md_Wave_digits_of (P := P) (w := w) (base := base) (k := 0) (dm c 44 121 rfl rfl) T
  have h_Wave_ends := md_Wave_ends (P := P) (w := w) (base := base) (k := 2) (dm c 45 122 rfl rfl) T (h_Wave_digits_of.mono (Nat.le_of_ble_eq_true rfl)) (h_below.mono (Nat.le_of_ble_eq_true rfl))
  have h_Wave_rank := md_Wave_rank (P := P) (w := w) (base := base) (k := 3) (dm c 46 123 rfl rfl) T (h_Wave_digits_of.mono (Nat.le_of_ble_eq_true rfl)) (h_Wave_ends.mono (Nat.le_of_ble_eq_true rfl))
  have h_Wave_init := mkd_Wave (P := P) (w := w) (base := base) (k := 2) (di X G c 41 114 112 rfl rfl rfl) T (h_Bits_init.mono (Nat.le_of_ble_eq_true rfl)) (h_parted.mono (Nat.le_of_ble_eq_true rfl))
  have h_Kept_symbol := md_Kept_symbol (P := P) (w := w) (base := base) (k := 3) (dm c 54 138 rfl rfl) T (h_Wave_at.mono (Nat.le_of_ble_eq_true rfl))
  have h_Kept_family_number := md_Kept_family_number (P := P) (w := w) (base := base) (k := 4) (dm c 55 139 rfl rfl) T (h_Kept_symbol.mono (Nat.le_of_ble_eq_true rfl)) (h_Wave_rank.mono (Nat.le_of_ble_eq_true rfl))
  have h_Kept_family_stretch := md_Kept_family_stretch (P := P) (w := w) (base := base) (k := 2) (dm c 56 140 rfl rfl) T (h_Bits_select.mono (Nat.le_of_ble_eq_true rfl))
  have h_name := hd_name (P := P) (w := w) (base := base) (k := 4) (df X G c 57 34 rfl rfl) T (h_Kept_symbol.mono (Nat.le_of_ble_eq_true rfl))
  have h_text := hd_text (P := P) (w := w) (base := base) (k := 4) (df X G c 58 35 rfl rfl) T (h_Kept_symbol.mono (Nat.le_of_ble_eq_true rfl)) (h_Wave_rank.mono (Nat.le_of_ble_eq_true rfl))
  have h_family := hd_family (P := P) (w := w) (base := base) (k := 5) (df X G c 59 36 rfl rfl) T (h_Kept_symbol.mono (Nat.le_of_ble_eq_true rfl)) (h_Kept_family_number.mono (Nat.le_of_ble_eq_true rfl)) (h_Kept_family_stretch.mono (Nat.le_of_ble_eq_true rfl))
  have h_weight := hd_weight (P := P) (w := w) (base := base) (k := 6) (df X G c 60 37 rfl rfl) T (h_Kept_symbol.mono (Nat.le_of_ble_eq_true rfl)) (h_family.mono (Nat.le_of_ble_eq_true rfl))
  have h_weight_moves := hd_alias (y := "weight_moves") h_weight ((He.glo_ok X G (c.d.fact 56 rfl)).trans (by rw [c.al, He.glo_ok X G (c.d.fact 37 rfl)]))
  have h_subtree := hd_subtree (P := P) (w := w) (base := base) (k := 6) (df X G c 61 38 rfl rfl) T (h_text.mono (Nat.le_of_ble_eq_true rfl)) (h_family.mono (Nat.le_of_ble_eq_true rfl)) (h_name.mono (Nat.le_of_ble_eq_true rfl)) 24
  have h_View_word := md_View_word (P := P) (w := w) (base := base) (k := 5) (dm c 64 146 rfl rfl) T (h_name.mono (Nat.le_of_ble_eq_true rfl))
  have h_View_children := md_View_children (P := P) (w := w) (base := base) (k := 6) (dm c 66 148 rfl rfl) T (h_family.mono (Nat.le_of_ble_eq_true rfl))
  have h_View_weight := md_View_weight (P := P) (w := w) (base := base) (k := 7) (dm c 67 149 rfl rfl) T (h_weight_moves.mono (Nat.le_of_ble_eq_true rfl)) (h_View_children.mono (Nat.le_of_ble_eq_true rfl)) 24
  have h_View_tree := md_View_tree (P := P) (w := w) (base := base) (k := 30) (dm c 68 150 rfl rfl) T 24 (h_subtree.mono (Nat.le_of_ble_eq_true rfl)) 24 (Nat.le_refl _)
  have h_View_numbered := md_View_numbered (P := P) (w := w) (base := base) (k := 31) (dm c 69 151 rfl rfl) T 24 (h_View_children.mono (Nat.le_of_ble_eq_true rfl)) (h_View_weight.mono (Nat.le_of_ble_eq_true rfl))
  have h_View_at := md_View_at (P := P) (w := w) (base := base) (k := 7) (dm c 71 153 rfl rfl) T (h_View_children.mono (Nat.le_of_ble_eq_true rfl))
  have h_View_way_to := md_View_way_to (P := P) (w := w) (base := base) (k := 32) (dm c 70 152 rfl rfl) T 24 (h_View_numbered.mono (Nat.le_of_ble_eq_true rfl))
  have h_View_are_apart := md_View_are_apart (P := P) (w := w) (base := base) (k := 6) (dm c 73 155 rfl rfl) T (h_View_word.mono (Nat.le_of_ble_eq_true rfl))
  have h_View_changed := md_View_changed (P := P) (w := w) (base := base) (k := 7) (dm c 72 154 rfl rfl) T (h_View_children.mono (Nat.le_of_ble_eq_true rfl)) (h_View_word.mono (Nat.le_of_ble_eq_true rfl)) 24
  have h_part_of := hd_part_of (P := P) (w := w) (base := base) (k := 1) (df X G c 62 39 rfl rfl) (h_is_string.mono (Nat.le_of_ble_eq_true rfl)) 24
  have h_Layers_shown := md_Layers_shown (P := P) (w := w) (base := base) (k := 54) (dm c 81 169 rfl rfl) T 24 (h_View_tree.mono (Nat.le_of_ble_eq_true rfl))
  have h_Layers_lift := md_Layers_lift (P := P) (w := w) (base := base) (k := 0) (dm c 79 167 rfl rfl) T
  have h_Layers_place_of := md_Layers_place_of (P := P) (w := w) (base := base) (k := 33) (dm c 75 163 rfl rfl) T 24 (h_View_weight.mono (Nat.le_of_ble_eq_true rfl)) (h_View_way_to.mono (Nat.le_of_ble_eq_true rfl)) (h_View_word.mono (Nat.le_of_ble_eq_true rfl)) (h_View_at.mono (Nat.le_of_ble_eq_true rfl))
  have h_Layers_without := md_Layers_without (P := P) (w := w) (base := base) (k := 8) (dm c 77 165 rfl rfl) T (h_View_at.mono (Nat.le_of_ble_eq_true rfl)) (h_View_children.mono (Nat.le_of_ble_eq_true rfl)) (h_View_are_apart.mono (Nat.le_of_ble_eq_true rfl)) (h_View_word.mono (Nat.le_of_ble_eq_true rfl))
  have h_Layers_grafted := md_Layers_grafted (P := P) (w := w) (base := base) (k := 31) (dm c 76 164 rfl rfl) T 24 (h_View_at.mono (Nat.le_of_ble_eq_true rfl)) (h_View_children.mono (Nat.le_of_ble_eq_true rfl)) (h_View_are_apart.mono (Nat.le_of_ble_eq_true rfl)) (h_View_word.mono (Nat.le_of_ble_eq_true rfl)) (h_View_weight.mono (Nat.le_of_ble_eq_true rfl)) (h_is_tree.mono (Nat.le_of_ble_eq_true rfl)) (h_part_of.mono (Nat.le_of_ble_eq_true rfl)) (h_depth_within.mono (Nat.le_of_ble_eq_true rfl))
  have h_Layers_lay := md_Layers_lay (P := P) (w := w) (base := base) (k := 34) (dm c 78 166 rfl rfl) T 24 (h_Layers_place_of.mono (Nat.le_of_ble_eq_true rfl)) (h_Layers_grafted.mono (Nat.le_of_ble_eq_true rfl)) (h_Layers_without.mono (Nat.le_of_ble_eq_true rfl)) (h_View_children.mono (Nat.le_of_ble_eq_true rfl)) (h_View_at.mono (Nat.le_of_ble_eq_true rfl)) (h_View_changed.mono (Nat.le_of_ble_eq_true rfl)) (h_is_name.mono (Nat.le_of_ble_eq_true rfl)) (h_is_text.mono (Nat.le_of_ble_eq_true rfl)) (h_copied_edit.mono (Nat.le_of_ble_eq_true rfl))
  have h_names_in := hd_names_in (P := P) (w := w) (base := base) (k := 0) (df X G c 37 30 rfl rfl) T 24
  have h_Gatherer_init := mkd_Gatherer (P := P) (w := w) (base := base) (k := 0) (di X G c 38 107 105 rfl rfl rfl) T
  have h_Rows_init := mkd_Rows (P := P) (w := w) (base := base) (k := 0) (di X G c 36 98 96 rfl rfl rfl) T
  have h_Gatherer_gather := md_Gatherer_gather (P := P) (w := w) (base := base) (k := 0) (dm c 39 111 rfl rfl) T 24
  have h_rows_of := hd_rows_of (P := P) (w := w) (base := base) (k := 22) (dt X G c 40 31 rfl rfl) TB T 24 (h_is_document.mono (Nat.le_of_ble_eq_true rfl)) (h_names_in.mono (Nat.le_of_ble_eq_true rfl)) (h_Gatherer_init.mono (Nat.le_of_ble_eq_true rfl)) (h_Gatherer_gather.mono (Nat.le_of_ble_eq_true rfl)) (h_Rows_init.mono (Nat.le_of_ble_eq_true rfl))
  have h_family_ends := hd_family_ends (P := P) (w := w) (base := base) (k := 0) (df X G c 28 22 rfl rfl) T
  have h_first_row := hd_first_row (P := P) (w := w) (base := base) (k := 0) (df X G c 30 24 rfl rfl) T
  have h_families := hd_families (P := P) (w := w) (base := base) (k := 1) (df X G c 29 23 rfl rfl) T (h_family_ends.mono (Nat.le_of_ble_eq_true rfl))
  have h_depths_of := hd_depths_of (P := P) (w := w) (base := base) (k := 0) (df X G c 32 26 rfl rfl) T
  have h_item_fault := hd_item_fault (P := P) (w := w) (base := base) (k := 1) (df X G c 31 25 rfl rfl) T (h_first_row.mono (Nat.le_of_ble_eq_true rfl))
  have h_names_are_right := hd_names_are_right (P := P) (w := w) (base := base) (k := 1) (df X G c 33 27 rfl rfl) T (h_is_name.mono (Nat.le_of_ble_eq_true rfl))
  have h_text_fault := hd_text_fault (P := P) (w := w) (base := base) (k := 2) (df X G c 34 28 rfl rfl) T (h_is_text.mono (Nat.le_of_ble_eq_true rfl))
  have h_fault := hd_fault (P := P) (w := w) (base := base) (k := 3) (df X G c 35 29 rfl rfl) T (h_item_fault.mono (Nat.le_of_ble_eq_true rfl)) (h_depths_of.mono (Nat.le_of_ble_eq_true rfl)) (h_families.mono (Nat.le_of_ble_eq_true rfl)) (h_first_row.mono (Nat.le_of_ble_eq_true rfl)) (h_names_are_right.mono (Nat.le_of_ble_eq_true rfl)) (h_text_fault.mono (Nat.le_of_ble_eq_true rfl))
  have h_View_init := mkd_View (P := P) (w := w) (base := base) (k := 0) (di X G c 63 143 141 rfl rfl rfl) T
  have h_Kept_init := mkd_Kept (P := P) (w := w) (base := base) (k := 4) (di X G c 52 129 127 rfl rfl rfl) T (h_fault.mono (Nat.le_of_ble_eq_true rfl)) (h_Wave_init.mono (Nat.le_of_ble_eq_true rfl)) (h_Bits_init.mono (Nat.le_of_ble_eq_true rfl)) (h_Wave_rank.mono (Nat.le_of_ble_eq_true rfl))
  have h_Layers_init := mkd_Layers (P := P) (w := w) (base := base) (k := 25) (di X G c 74 158 156 rfl rfl rfl) T 24 (h_View_init.mono (Nat.le_of_ble_eq_true rfl)) (h_Kept_init.mono (Nat.le_of_ble_eq_true rfl)) (h_rows_of.mono (Nat.le_of_ble_eq_true rfl))
  have h_law_take := hd_law_take (P := P) (w := w) (base := base) (k := 0) (df X G c 87 41 rfl rfl) T
  have h_law_names := hd_law_names (P := P) (w := w) (base := base) (k := 1) (df X G c 90 44 rfl rfl) T (h_law_take.mono (Nat.le_of_ble_eq_true rfl))
  have h_law_draws := hd_law_draws (P := P) (w := w) (base := base) (k := 0) (df X G c 86 40 rfl rfl) T
  have h_law_string := hd_law_string (P := P) (w := w) (base := base) (k := 1) (df X G c 88 42 rfl rfl) T (h_law_take.mono (Nat.le_of_ble_eq_true rfl))
  have h_law_at := hd_law_at (P := P) (w := w) (base := base) (k := 0) (df X G c 92 46 rfl rfl) T
  have h_law_put := hd_law_put (P := P) (w := w) (base := base) (k := 0) (df X G c 93 47 rfl rfl) T 30
  have h_law_tree := hd_law_tree (P := P) (w := w) (base := base) (k := 2) (df X G c 89 43 rfl rfl) T (h_law_take.mono (Nat.le_of_ble_eq_true rfl)) (h_law_string.mono (Nat.le_of_ble_eq_true rfl)) 5
  have h_law_paths := hd_law_paths (P := P) (w := w) (base := base) (k := 0) (df X G c 91 45 rfl rfl) T 30
  have h_law_apart := hd_law_apart (P := P) (w := w) (base := base) (k := 0) (df X G c 94 48 rfl rfl) T
  have h_law_size := hd_law_size (P := P) (w := w) (base := base) (k := 0) (df X G c 95 49 rfl rfl) T 30
  have h_law_is_tree := hd_law_is_tree (P := P) (w := w) (base := base) (k := 2) (df X G c 97 51 rfl rfl) T (h_is_text.mono (Nat.le_of_ble_eq_true rfl)) (h_is_name.mono (Nat.le_of_ble_eq_true rfl)) (h_law_apart.mono (Nat.le_of_ble_eq_true rfl)) 30
  have h_law_edited := hd_law_edited (P := P) (w := w) (base := base) (k := 32) (df X G c 96 50 rfl rfl) T 30 (h_law_paths.mono (Nat.le_of_ble_eq_true rfl)) (h_law_at.mono (Nat.le_of_ble_eq_true rfl)) (h_law_apart.mono (Nat.le_of_ble_eq_true rfl)) (h_law_put.mono (Nat.le_of_ble_eq_true rfl)) (h_is_name.mono (Nat.le_of_ble_eq_true rfl)) (h_is_text.mono (Nat.le_of_ble_eq_true rfl)) (h_law_is_tree.mono (Nat.le_of_ble_eq_true rfl)) (h_law_size.mono (Nat.le_of_ble_eq_true rfl))
  have h_law_moved := hd_law_moved (P := P) (w := w) (base := base) (k := 0) (df X G c 99 53 rfl rfl) T
  have h_law_edit := hd_law_edit (P := P) (w := w) (base := base) (k := 30) (df X G c 98 52 rfl rfl) T 30 (h_law_paths.mono (Nat.le_of_ble_eq_true rfl)) (h_law_take.mono (Nat.le_of_ble_eq_true rfl)) (h_law_string.mono (Nat.le_of_ble_eq_true rfl)) (h_law_tree.mono (Nat.le_of_ble_eq_true rfl))
  have h_law_inner := hd_law_inner (P := P) (w := w) (base := base) (k := 33) (df X G c 100 54 rfl rfl) T 30 (h_law_edit.mono (Nat.le_of_ble_eq_true rfl)) (h_law_edited.mono (Nat.le_of_ble_eq_true rfl))
  exact ok_law (P := P) (w := w) (base := base) (k := 55) FL T (h_edited.mono (Nat.le_of_ble_eq_true rfl)) (h_law_moved.mono (Nat.le_of_ble_eq_true rfl)) (h_Layers_init.mono (Nat.le_of_ble_eq_true rfl)) (h_Layers_lay.mono (Nat.le_of_ble_eq_true rfl)) (h_Layers_shown.mono (Nat.le_of_ble_eq_true rfl)) (h_taken_back.mono (Nat.le_of_ble_eq_true rfl)) (h_Layers_lift.mono (Nat.le_of_ble_eq_true rfl)) (h_nodes_of.mono (Nat.le_of_ble_eq_true rfl)) (h_law_draws.mono (Nat.le_of_ble_eq_true rfl)) (h_law_names.mono (Nat.le_of_ble_eq_true rfl)) (h_law_tree.mono (Nat.le_of_ble_eq_true rfl)) (h_law_take.mono (Nat.le_of_ble_eq_true rfl)) (h_law_inner.mono (Nat.le_of_ble_eq_true rfl))
end
end Hd
open PySem PySem.W PySem.Calls PyProof.Rows
theorem PySem.Challenge.cw_topiary_k54_whole_edits_in_another_order_holds : PySem.Challenge.rw_topiary_k54_whole_edits_in_another_order.Holds := by
  w_on; o_law
  refine HandSHeadRun.head_any (r := OpenLaw.row PySem.Challenge.rw_topiary_k54_whole_edits_in_another_order) (q := view (OpenLaw.row PySem.Challenge.rw_topiary_k54_whole_edits_in_another_order).prog [91]) (H := Hd.hk) (ob := Hd.ob) (M := 16000) (loose := Hd.names) (d := HandSHeadRun.topDef (OpenLaw.row PySem.Challenge.rw_topiary_k54_whole_edits_in_another_order).prog 91) (kwd := []) Hd.ob_eq
    (by kernel_rfl) (fun s => by kernel_rfl) Hd.run (by kernel_rfl) (by kernel_rfl) (by kernel_rfl) (by rfl) (by first | assumption | decide +kernel) (by decide +kernel) ⟨rfl, rfl, rfl, rfl, rfl, by decide +kernel⟩ ?hw ?hc
  case hw => w_witness2
  case hc =>
    refine LamX.walk_ofTsE (l := PySem.Challenge.rw_topiary_k54_whole_edits_in_another_order) (n := 63) (k := 56) (x := "_law_script") (CX := fun _ => L2.CX0) rfl (by decide) (by kernel_rfl) ⟨rfl, by decide, by decide⟩ ?F (fun _ _ _ _ _ z => z)
    intro w mg fa h Y G hmg0
    obtain ⟨K, KX, c⟩ := Y
    have hmg : mg ("law" : PySem.Str) = some (.ref fa) := by
      have e : (HandSHeadRun.topDef (OpenLaw.row PySem.Challenge.rw_topiary_k54_whole_edits_in_another_order).prog 91).name = ("law" : PySem.Str) := by kernel_rfl
      rw [← e]
      exact hmg0
    obtain ⟨fd, F⟩ := c.d.def_ 101 (d := Hd.d_law) rfl
    have e := hmg.symm.trans (He.glo_ok KX G (c.d.fact 55 (f := .glo "law") rfl))
    cases e
    refine ⟨K, KX, fd, [He.cT K ("rows_of", none)], K5.spLaw K (He.cT K ("rows_of", none)).2, ?_, ?_, ?_, ?_, ?_, ?_⟩
    · intro p hp
      rw [List.mem_singleton.mp hp]
      exact c.empty ("rows_of", none) (List.mem_singleton.mpr rfl)
    · intro p hp
      rw [List.mem_singleton.mp hp]
      exact c.out ("rows_of", none) (List.mem_singleton.mpr rfl)
    · intro p hp
      rw [List.mem_singleton.mp hp]
      exact codeHd_of_K KX (c.hd ("rows_of", none) (List.mem_singleton.mpr rfl))
    · intro s u
      exact L2.FunD.bindsA (ps := ["_law_script"]) F (fun _ _ _ _ _ _ us hl => match us, hl with | [_], _ => rfl) s [u] rfl
    · intro H a ns hl hb hT hS
      exact ⟨fun _ => none, a, ns, rfl, (fun b o e => by cases e), rfl, K5.tab0 (hT _ (List.mem_singleton.mpr rfl)), hS, hl, (fun H' e => K5.sql_same hS e), fun _ => rfl⟩
    · intro base hB hG hT
      exact Hd.law_ok hB hG c (He5.fun_of F) (hT _ (List.mem_singleton.mpr rfl))
